/- The law FnJoins answers true for every list of bytes. -/
import Derived.Test.YthgmicingbjemaaKit
import Derived.Test.YthgmicingbjemaaPFnJoinsx14
namespace Go.Proofs.Ythgmicingbjemaa.Pure
open Go.RowKit Go.Proofs.Ythgmicingbjemaa.PFnJoins Go.Proofs.YthgmicingbjemaaW.PrintWords Go.Proofs.YthgmicingbjemaaW.PrintLast Go.Proofs.Ythgmicingbjemaa
set_option linter.unusedSimpArgs false
set_option linter.unusedVariables false

theorem w64n {i n : Nat} (h : i < n) (hn : n ≤ 9223372036854775807) : wrap64 ((i : Int) + 1) = ((i + 1 : Nat) : Int) := by
  rw [Kit.w64 (by omega) (by omega)]; rfl
theorem rd_drop {xs : List Int} {i : Nat} (h : i < xs.length) : xs.drop i = rd xs (i : Int) :: xs.drop (i + 1) := by
  rw [Kit.rd_at h]; exact List.drop_eq_getElem_cons h
theorem specIn_eq (a b c : Int) : spec_l1In.f a b c = some (decide (b ≤ a ∧ a ≤ c)) := by
  unfold spec_l1In.f
  by_cases h : a ≥ b
  · rw [if_pos h]; simp [show b ≤ a from h]
  · rw [if_neg h]; simp; intro h'; omega
theorem implIn_eq (a b c : Int) : impl_in.f a b c = some (decide (b ≤ a ∧ a ≤ c)) := by
  unfold impl_in.f
  by_cases h : a ≥ b
  · rw [if_pos h]; simp [show b ≤ a from h]
  · rw [if_neg h]; simp; intro h'; omega
def isW (x : Int) : Bool := decide (-1000000000000 ≤ x ∧ x ≤ 1000000000000)
theorem isW_iff {x : Int} : isW x = true ↔ -1000000000000 ≤ x ∧ x ≤ 1000000000000 := by simp [isW]
def addW (a b : Int) : Int × Int := if isW a = true ∧ isW b = true then (if isW (a + b) = true then (0, a + b) else (8, 0)) else (3, 0)
theorem addW_comm (a b : Int) : addW a b = addW b a := by
  unfold addW
  rw [Int.add_comm b a]; simp only [and_comm]
def mulP (a b : Int) : Int × Bool := if (a * b).natAbs ≤ 1000000000000 then (a * b, true) else (0, false)
theorem mulP_comm (a b : Int) : mulP a b = mulP b a := by
  unfold mulP
  rw [Int.mul_comm b a]
def mulW (a b : Int) : Int × Int := if isW a = true ∧ isW b = true then (if (mulP a b).2 = true then (0, (mulP a b).1) else (8, 0)) else (3, 0)
theorem mulW_comm (a b : Int) : mulW a b = mulW b a := by
  unfold mulW
  rw [mulP_comm b a]; simp only [and_comm]
theorem specWeight_eq (a : Int) : spec_l1Weight.f a = some (isW a) := by
  unfold spec_l1Weight.f
  rw [specIn_eq]; rfl
theorem implWeight_eq (a : Int) : impl_isWeight.f a = some (isW a) := by
  unfold impl_isWeight.f
  rw [implIn_eq]; rfl
theorem mul_gt {x y : Int} (hx : 0 ≤ x) (hy : 0 < y) : (x > (1000000000000 : Int) / y) ↔ ¬ (x * y).natAbs ≤ 1000000000000 := by
  have h0 : 0 ≤ x * y := Int.mul_nonneg hx (Int.le_of_lt hy)
  have h1 : ((1000000000000 : Int) / y < x) ↔ 1000000000000 < x * y := Int.ediv_lt_iff_lt_mul hy
  constructor
  · intro h
    have := h1.1 h
    omega
  · intro h
    exact h1.2 (by omega)
theorem wrap_quo {y : Int} (hy : 0 < y) : wrap64 ((1000000000000 : Int) / y) = (1000000000000 : Int) / y := by
  have h0 : 0 ≤ (1000000000000 : Int) / y := Int.ediv_nonneg (by omega) (by omega)
  have h1 : (1000000000000 : Int) / y ≤ 1000000000000 := Int.ediv_le_self _ (by omega)
  exact Kit.w64 (by omega) (by omega)
theorem wrap_tquo {y : Int} (hy : 0 < y) : wrap64 (Int.tdiv (1000000000000 : Int) y) = (1000000000000 : Int) / y := by
  rw [Int.tdiv_eq_ediv_of_nonneg (by omega)]
  exact wrap_quo hy
theorem wrap_mul {a b : Int} (h : (a * b).natAbs ≤ 1000000000000) : wrap64 (a * b) = a * b := Kit.w64 (by omega) (by omega)
theorem abs_mul (a b : Int) : ((a.natAbs : Int) * (b.natAbs : Int)).natAbs = (a * b).natAbs := by
  rw [Int.natAbs_mul, Int.natAbs_mul]; simp
theorem specMulP_ev (a b : Int) (ha : isW a = true) (hb : isW b = true) : Ev (fun k => spec_l1Mul.f k a b) (mulP a b) := by
  have ha' := isW_iff.1 ha
  have hb' := isW_iff.1 hb
  refine Kit.Ev.up (Kit.Ev.up ?_)
  unfold spec_l1Mul.f
  simp only [spec_l1Mul.j0, spec_l1Mul.j1]
  by_cases a0 : a = 0
  · subst a0; exact Kit.Ev.const (by simp [mulP])
  by_cases b0 : b = 0
  · subst b0; exact Kit.Ev.const (by simp [mulP, a0])
  have hbe : (b == 0) = false := by simp [b0]
  simp only [a0, if_false, hbe, Bool.false_eq_true]
  rw [Kit.w64 (x := -a) (by omega) (by omega), Kit.w64 (x := -b) (by omega) (by omega)]
  have key : ∀ x y : Int, 0 ≤ x → 0 < y → x = (a.natAbs : Int) → y = (b.natAbs : Int) → (if x > wrap64 (Int.tdiv (1000000000000 : Int) y) then (some ((0 : Int), false)) else (some (wrap64 (a * b), true))) = some (mulP a b) := by
    intro x y hx hy ex ey
    rw [wrap_tquo hy]
    unfold mulP
    by_cases h : x > (1000000000000 : Int) / y
    · rw [if_pos h, if_neg]
      have := (mul_gt hx hy).1 h
      rwa [ex, ey, abs_mul] at this
    · have h2 : (a * b).natAbs ≤ 1000000000000 := by
        have := mt (mul_gt hx hy).2 h
        rw [ex, ey, abs_mul] at this
        omega
      rw [if_neg h, if_pos h2, wrap_mul h2]
  refine Kit.Ev.ite (fun ha2 => ?_) (fun ha2 => ?_) <;> refine Kit.Ev.ite (fun hb2 => ?_) (fun hb2 => ?_)
  · exact Kit.Ev.neg (by omega) (Kit.Ev.const (key (-a) (-b) (by omega) (by omega) (by omega) (by omega)))
  · exact Kit.Ev.neg (by omega) (Kit.Ev.const (key (-a) b (by omega) (by omega) (by omega) (by omega)))
  · exact Kit.Ev.neg (by omega) (Kit.Ev.const (key a (-b) (by omega) (by omega) (by omega) (by omega)))
  · exact Kit.Ev.neg (by omega) (Kit.Ev.const (key a b (by omega) (by omega) (by omega) (by omega)))
theorem implMulP_ev (a b : Int) (ha : isW a = true) (hb : isW b = true) : Ev (fun k => impl_mulWeight.f k a b) (mulP a b) := by
  have ha' := isW_iff.1 ha
  have hb' := isW_iff.1 hb
  refine Kit.Ev.up ?_
  unfold impl_mulWeight.f
  simp only [impl_mulWeight.j0]
  by_cases a0 : a = 0
  · subst a0; exact Kit.Ev.const (by simp [mulP])
  by_cases b0 : b = 0
  · subst b0; exact Kit.Ev.const (by simp [mulP, a0])
  have hbe : (b == 0) = false := by simp [b0]
  simp only [a0, if_false, hbe, Bool.false_eq_true]
  rw [Kit.w64 (x := -a) (by omega) (by omega), Kit.w64 (x := -b) (by omega) (by omega)]
  have ea : mx a (-a) = (a.natAbs : Int) := by unfold mx; split <;> omega
  have eb : mx b (-b) = (b.natAbs : Int) := by unfold mx; split <;> omega
  rw [ea, eb]
  have hy : (0 : Int) < (b.natAbs : Int) := by omega
  simp only [wrap_tquo hy, wrap_quo hy]
  refine Kit.Ev.neg (by omega) (Kit.Ev.const ?_)
  unfold mulP
  by_cases h : (a.natAbs : Int) > (1000000000000 : Int) / (b.natAbs : Int)
  · rw [if_pos h, if_neg]
    have := (mul_gt (by omega) hy).1 h
    rwa [abs_mul] at this
  · have h2 : (a * b).natAbs ≤ 1000000000000 := by
      have := mt (mul_gt (by omega) hy).2 h
      rw [abs_mul] at this
      omega
    rw [if_neg h, if_pos h2, wrap_mul h2]
def inC (x : Int) : Bool := decide (-1000000000 ≤ x ∧ x ≤ 1000000000)
def rowF (xs : List Int) : Int := if 4 < xs.length then 2 else if xs.all inC = true then 0 else 3
theorem specRow_l0 (xs : List Int) (hn : xs.length ≤ 9223372036854775807) : ∀ (d i : Nat), i + d = xs.length → Ev (fun k => spec_RowFault.l0 k xs (i : Int)) (if (xs.drop i).all inC = true then 0 else 3) := by
  intro d
  induction d with
  | zero =>
    intro i hd
    refine Kit.Ev.up ?_
    simp only [spec_RowFault.l0]
    refine Kit.Ev.neg (by omega) (Kit.Ev.const ?_)
    rw [List.drop_eq_nil_of_le (by omega)]; simp
  | succ d ih =>
    intro i hd
    refine Kit.Ev.up ?_
    simp only [spec_RowFault.l0]
    refine Kit.Ev.pos (by omega) (Kit.Ev.pos (by omega) ?_)
    rw [specIn_eq]
    simp only [Option.bind_some]
    rw [rd_drop (xs := xs) (i := i) (by omega), w64n (n := xs.length) (by omega) hn]
    by_cases h : inC (rd xs (i : Int)) = true
    · refine Kit.Ev.pos h ((ih (i + 1) (by omega)).eq ?_)
      simp [h]
    · refine Kit.Ev.neg h (Kit.Ev.const ?_)
      simp [h]
theorem specRow_ev (xs : List Int) (hn : xs.length ≤ 9223372036854775807) : Ev (fun k => spec_RowFault.f k xs) (rowF xs) := by
  unfold spec_RowFault.f
  refine Kit.Ev.ite (fun h => Kit.Ev.const ?_) (fun h => ?_)
  · simp [rowF, show 4 < xs.length by omega]
  · exact (specRow_l0 xs hn xs.length 0 (by omega)).eq (by simp [rowF, show ¬ 4 < xs.length by omega])
theorem implRow_l0 (xs : List Int) (hn : xs.length ≤ 9223372036854775807) : ∀ (d i : Nat), i + d = xs.length → Ev (fun k => impl_RowFault.l0 k xs (xs.length : Int) (i : Int)) (if (xs.drop i).all inC = true then 0 else 3) := by
  intro d
  induction d with
  | zero =>
    intro i hd
    refine Kit.Ev.up ?_
    simp only [impl_RowFault.l0]
    refine Kit.Ev.neg (by omega) (Kit.Ev.const ?_)
    rw [List.drop_eq_nil_of_le (by omega)]; simp
  | succ d ih =>
    intro i hd
    refine Kit.Ev.up ?_
    simp only [impl_RowFault.l0]
    refine Kit.Ev.pos (by omega) (Kit.Ev.pos (by omega) (Kit.Ev.pos (by omega) ?_))
    rw [implIn_eq]
    simp only [Option.bind_some]
    rw [rd_drop (xs := xs) (i := i) (by omega), w64n (n := xs.length) (by omega) hn]
    by_cases h : inC (rd xs (i : Int)) = true
    · refine Kit.Ev.pos h ((ih (i + 1) (by omega)).eq ?_)
      simp [h]
    · refine Kit.Ev.neg h (Kit.Ev.const ?_)
      simp [h]
theorem implRow_ev (xs : List Int) (hn : xs.length ≤ 9223372036854775807) : Ev (fun k => impl_RowFault.f k xs) (rowF xs) := by
  unfold impl_RowFault.f
  refine Kit.Ev.ite (fun h => Kit.Ev.const ?_) (fun h => ?_)
  · simp [rowF, show 4 < xs.length by omega]
  · exact (implRow_l0 xs hn xs.length 0 (by omega)).eq (by simp [rowF, show ¬ 4 < xs.length by omega])
def cmpR : List Int → List Int → Int
  | [], [] => 0
  | [], _ :: _ => -1
  | _ :: _, [] => 1
  | a :: xs, b :: ys => if a < b then -1 else if b < a then 1 else cmpR xs ys
theorem cmpR_len : ∀ (xs ys : List Int), xs = [] ∨ ys = [] → cmpR xs ys = if xs.length < ys.length then -1 else if ys.length < xs.length then 1 else 0
  | [], [], _ => rfl
  | [], _ :: _, _ => by simp [cmpR]
  | _ :: _, [], _ => by simp [cmpR]
  | _ :: _, _ :: _, h => by simp at h
theorem specCmp_l0 (xs ys : List Int) (hn : xs.length ≤ 9223372036854775807) : ∀ (d i : Nat), i + d = min xs.length ys.length → Ev (fun k => spec_CompareRows.l0 k xs ys (i : Int)) (cmpR (xs.drop i) (ys.drop i)) := by
  intro d
  induction d with
  | zero =>
    intro i hd
    refine Kit.Ev.up (Kit.Ev.up ?_)
    simp only [spec_CompareRows.l0, spec_CompareRows.j1]
    have hend : Ev (fun _ : Nat => if (xs.length : Int) < (ys.length : Int) then some (-1 : Int) else if (xs.length : Int) > (ys.length : Int) then some 1 else some 0) (cmpR (xs.drop i) (ys.drop i)) := by
      refine Kit.Ev.const ?_
      rw [cmpR_len _ _ (by
        by_cases h : i = xs.length
        · exact .inl (List.drop_eq_nil_of_le (by omega))
        · exact .inr (List.drop_eq_nil_of_le (by omega)))]
      simp only [List.length_drop]
      by_cases h1 : xs.length < ys.length
      · rw [if_pos (by omega), if_pos (by omega)]
      · by_cases h2 : ys.length < xs.length
        · rw [if_neg (by omega), if_pos (by omega), if_neg (by omega), if_pos (by omega)]
        · rw [if_neg (by omega), if_neg (by omega), if_neg (by omega), if_neg (by omega)]
    refine Kit.Ev.ite (fun h => ?_) (fun h => ?_)
    · refine Kit.Ev.neg (by simp; omega) hend
    · exact Kit.Ev.neg (by simp) hend
  | succ d ih =>
    intro i hd
    refine Kit.Ev.up (Kit.Ev.up ?_)
    simp only [spec_CompareRows.l0, spec_CompareRows.j1]
    refine Kit.Ev.pos (by omega) (Kit.Ev.pos (by simp; omega) (Kit.Ev.pos (by omega) (Kit.Ev.pos (by omega) (Kit.Ev.pos (by omega) ?_))))
    rw [rd_drop (xs := xs) (i := i) (by omega), rd_drop (xs := ys) (i := i) (by omega), w64n (n := xs.length) (by omega) hn]
    simp only [cmpR]
    refine Kit.Ev.ite2 (fun _ => Kit.Ev.const rfl) (fun _ => ?_)
    exact Kit.Ev.ite2 (fun _ => Kit.Ev.const rfl) (fun _ => ih (i + 1) (by omega))
theorem specCmp_ev (xs ys : List Int) (hn : xs.length ≤ 9223372036854775807) : Ev (fun k => spec_CompareRows.f k xs ys) (cmpR xs ys) := specCmp_l0 xs ys hn _ 0 (Nat.zero_add _)
theorem cmp64_eq (a b : Int) : cmp_Compare_int64.f a b = some (if a < b then -1 else if b < a then 1 else 0) := by
  unfold cmp_Compare_int64.f cmp_isNaN_int64.f
  simp only [bne_self_eq_false, Option.bind_some, Bool.false_eq_true, if_false]
  by_cases h1 : a < b
  · simp [h1]
  · by_cases h2 : b < a <;> simp [h1, h2]
theorem cmpI_eq (a b : Int) : cmp_Compare_int.f a b = some (if a < b then -1 else if b < a then 1 else 0) := by
  unfold cmp_Compare_int.f cmp_isNaN_int.f
  simp only [bne_self_eq_false, Option.bind_some, Bool.false_eq_true, if_false]
  by_cases h1 : a < b
  · simp [h1]
  · by_cases h2 : b < a <;> simp [h1, h2]
theorem implCmp_l0 (xs ys : List Int) (hn : xs.length ≤ 9223372036854775807) : ∀ (d i : Nat), i + d = min xs.length ys.length → Ev (fun k => impl_CompareRows.l0 k xs ys ((min xs.length ys.length : Nat) : Int) (i : Int)) (cmpR (xs.drop i) (ys.drop i)) := by
  intro d
  induction d with
  | zero =>
    intro i hd
    refine Kit.Ev.up ?_
    simp only [impl_CompareRows.l0]
    refine Kit.Ev.neg (by omega) ?_
    rw [cmpI_eq]
    refine Kit.Ev.const ?_
    rw [cmpR_len _ _ (by
      by_cases h : i = xs.length
      · exact .inl (List.drop_eq_nil_of_le (by omega))
      · exact .inr (List.drop_eq_nil_of_le (by omega)))]
    simp only [List.length_drop, Option.bind_some]
    by_cases h1 : xs.length < ys.length
    · rw [if_pos (by omega), if_pos (by omega)]
    · by_cases h2 : ys.length < xs.length
      · rw [if_neg (by omega), if_pos (by omega), if_neg (by omega), if_pos (by omega)]
      · rw [if_neg (by omega), if_neg (by omega), if_neg (by omega), if_neg (by omega)]
  | succ d ih =>
    intro i hd
    refine Kit.Ev.up ?_
    simp only [impl_CompareRows.l0]
    refine Kit.Ev.pos (by omega) (Kit.Ev.pos (by omega) (Kit.Ev.pos (by omega) (Kit.Ev.pos (by omega) ?_)))
    rw [rd_drop (xs := xs) (i := i) (by omega), rd_drop (xs := ys) (i := i) (by omega), w64n (n := xs.length) (by omega) hn, cmp64_eq]
    simp only [cmpR, Option.bind_some]
    by_cases h1 : rd xs (i : Int) < rd ys (i : Int)
    · simp only [h1, if_true]; exact Kit.Ev.const rfl
    · by_cases h2 : rd ys (i : Int) < rd xs (i : Int)
      · simp only [h1, h2, if_true, if_false]; exact Kit.Ev.const rfl
      · simp only [h1, h2, if_true, if_false]; exact ih (i + 1) (by omega)
theorem implCmp_ev (xs ys : List Int) (hn : xs.length ≤ 9223372036854775807) : Ev (fun k => impl_CompareRows.f k xs ys) (cmpR xs ys) := by
  unfold impl_CompareRows.f
  refine Kit.Ev.ite (fun h => ?_) (fun h => ?_)
  · have := implCmp_l0 xs ys hn _ 0 (Nat.zero_add _)
    rwa [Nat.min_eq_right (by omega)] at this
  · have := implCmp_l0 xs ys hn _ 0 (Nat.zero_add _)
    rwa [Nat.min_eq_left (by omega)] at this
def BytesOk (l : List Int) : Prop := l.length ≤ 1048576 ∧ ∀ x ∈ l, 0 ≤ x ∧ x ≤ 255
theorem wfu8 {x : Int} (h : (Lit.int .u8 x).wf = true) : 0 ≤ x ∧ x ≤ 255 := by
  simp only [Lit.wf, Bool.and_eq_true, decide_eq_true_eq] at h
  obtain ⟨h0, h1⟩ := h
  have e0 : IntKind.u8.min = 0 := by rfl
  have e1 : IntKind.u8.max = 255 := by rfl
  rw [e0] at h0
  rw [e1] at h1
  exact ⟨h0, h1⟩
theorem bytesOk_of {l : List Int} (h : l.length ≤ 1048576) (hw : ∀ x ∈ l, (Lit.int .u8 x).wf = true) : BytesOk l := ⟨h, fun x hx => wfu8 (hw x hx)⟩
theorem BytesOk.rd {l : List Int} (h : BytesOk l) (i : Int) : 0 ≤ rd l i ∧ rd l i ≤ 255 := by
  unfold Go.Proofs.YthgmicingbjemaaW.PrintWords.rd
  by_cases hi : i.toNat < l.length
  · rw [List.getD_eq_getElem?_getD, List.getElem?_eq_getElem hi]
    exact h.2 _ (List.getElem_mem hi)
  · rw [List.getD_eq_getElem?_getD, List.getElem?_eq_none (by omega)]
    simp
theorem tmod_in {x n : Int} (hx : 0 ≤ x) (hn : 1 ≤ n) : 0 ≤ Int.tmod x n ∧ Int.tmod x n < n := by
  rw [Int.tmod_eq_emod_of_nonneg hx]
  exact ⟨Int.emod_nonneg _ (by omega), Int.emod_lt_of_pos _ (by omega)⟩
theorem tdiv_in {x n : Int} (hx : 0 ≤ x) (hn : 1 ≤ n) : 0 ≤ Int.tdiv x n ∧ Int.tdiv x n ≤ x := by
  rw [Int.tdiv_eq_ediv_of_nonneg hx]
  exact ⟨Int.ediv_nonneg hx (by omega), Int.ediv_le_self _ hx⟩
/-- A draw of a number: it answers, within its bounds, and goes one place on. -/
theorem next_some {c : List Int} (hc : BytesOk c) {t : Int} (h0 : 0 ≤ t) (h1 : t ≤ 1000000000000) (n : Int) :
    ∃ v, spec_l1Next.f c t n = some (v, t + 1) ∧ (1 ≤ n → 0 ≤ v ∧ v < n) ∧ (n < 1 → v = 0) := by
  unfold spec_l1Next.f
  have e1 : wrap64 (t + 1) = t + 1 := Kit.w64 (by omega) (by omega)
  have e2 : wrap64 (t + 1 - 1) = t := by rw [Kit.w64 (by omega) (by omega)]; omega
  simp only [e1, e2]
  by_cases hn : n < 1
  · rw [if_pos hn]
    exact ⟨0, rfl, fun h => by omega, fun _ => rfl⟩
  rw [if_neg hn]
  have hn1 : 1 ≤ n := by omega
  by_cases hl : (c.length : Int) = 0
  · rw [if_pos hl, if_neg (by omega)]
    have e4 : wrap64 (t * 7) = t * 7 := Kit.w64 (by omega) (by omega)
    rw [e4]
    exact ⟨_, rfl, fun _ => tmod_in (by omega) hn1, fun h => by omega⟩
  rw [if_neg hl]
  have hl1 : 1 ≤ (c.length : Int) := by omega
  have m1 := tmod_in h0 hl1
  have m2 := tmod_in (x := t + 1) (by omega) hl1
  have q1 := tdiv_in h0 hl1
  have r1 := hc.rd (Int.tmod t (c.length : Int))
  have r2 := hc.rd (Int.tmod (t + 1) (c.length : Int))
  rw [if_pos m1.1, if_pos m1.2]
  generalize rd c (Int.tmod t (c.length : Int)) = x1 at *
  generalize rd c (Int.tmod (t + 1) (c.length : Int)) = x2 at *
  generalize Int.tdiv t (c.length : Int) = d at *
  have w1 : wrap64 x1 = x1 := Kit.w64 (by omega) (by omega)
  have w2 : wrap64 x2 = x2 := Kit.w64 (by omega) (by omega)
  have w3 : wrap64 d = d := Kit.w64 (by omega) (by omega)
  have w4 : wrap64 (d * 37) = d * 37 := Kit.w64 (by omega) (by omega)
  have w5 : wrap64 (x1 + d * 37) = x1 + d * 37 := Kit.w64 (by omega) (by omega)
  have w6 : wrap64 ((x1 + d * 37) * 251) = (x1 + d * 37) * 251 := Kit.w64 (by omega) (by omega)
  have w7 : wrap64 (x2 * 13) = x2 * 13 := Kit.w64 (by omega) (by omega)
  have w8 : wrap64 ((x1 + d * 37) * 251 + x2 * 13) = (x1 + d * 37) * 251 + x2 * 13 := Kit.w64 (by omega) (by omega)
  have w9 : wrap64 ((x1 + d * 37) * 251 + x2 * 13 + t) = (x1 + d * 37) * 251 + x2 * 13 + t := Kit.w64 (by omega) (by omega)
  by_cases h200 : n > 200
  · rw [if_pos h200, if_pos m2.1, if_pos m2.2, if_neg (by omega)]
    simp only [w1, w2, w3, w4, w5, w6, w7, w8, w9]
    exact ⟨_, rfl, fun _ => tmod_in (by omega) hn1, fun h => by omega⟩
  · rw [if_neg h200, if_neg (by omega)]
    simp only [w1, w3, w4, w5]
    exact ⟨_, rfl, fun _ => tmod_in (by omega) hn1, fun h => by omega⟩
theorem pick_some {c : List Int} (hc : BytesOk c) {t : Int} (h0 : 0 ≤ t) (h1 : t ≤ 1000000000000) (l : List Int) (hl : 1 ≤ l.length) :
    ∃ v, spec_l1Pick.f c t l = some (v, t + 1) ∧ v ∈ l := by
  unfold spec_l1Pick.f
  obtain ⟨v, e, hv, _⟩ := next_some hc h0 h1 (l.length : Int)
  obtain ⟨g0, g1⟩ := hv (by omega)
  rw [e]
  simp only [Option.bind_some]
  rw [if_pos g0, if_pos g1]
  refine ⟨_, rfl, ?_⟩
  unfold Go.Proofs.YthgmicingbjemaaW.PrintWords.rd
  have hi : v.toNat < l.length := by omega
  rw [List.getD_eq_getElem?_getD, List.getElem?_eq_getElem hi]
  exact List.getElem_mem hi
theorem lwAt_some {c : List Int} (hc : BytesOk c) {i : Int} (h0 : 0 ≤ i) (h1 : i ≤ 1000000000000) (n : Int) : ∃ v, laws_lwAt.f c i n = some v ∧ 0 ≤ v ∧ (v < n ∨ v = 0) := by
  unfold laws_lwAt.f
  by_cases hn : n ≤ 1
  · rw [if_pos hn]
    exact ⟨0, rfl, by omega, .inr rfl⟩
  rw [if_neg hn]
  have hn1 : 1 ≤ n := by omega
  by_cases hl : (c.length : Int) = 0
  · rw [if_pos hl, if_neg (by omega)]
    have e4 : wrap64 (i * 7) = i * 7 := Kit.w64 (by omega) (by omega)
    rw [e4]
    have := tmod_in (x := i * 7) (by omega) hn1
    exact ⟨_, rfl, this.1, .inl this.2⟩
  rw [if_neg hl]
  have hl1 : 1 ≤ (c.length : Int) := by omega
  have e1 : wrap64 (i + 1) = i + 1 := Kit.w64 (by omega) (by omega)
  simp only [e1]
  have m1 := tmod_in h0 hl1
  have m2 := tmod_in (x := i + 1) (by omega) hl1
  have q1 := tdiv_in h0 hl1
  have r1 := hc.rd (Int.tmod i (c.length : Int))
  have r2 := hc.rd (Int.tmod (i + 1) (c.length : Int))
  rw [if_pos m1.1, if_pos m1.2]
  generalize rd c (Int.tmod i (c.length : Int)) = x1 at *
  generalize rd c (Int.tmod (i + 1) (c.length : Int)) = x2 at *
  generalize Int.tdiv i (c.length : Int) = d at *
  have w1 : wrap64 x1 = x1 := Kit.w64 (by omega) (by omega)
  have w2 : wrap64 x2 = x2 := Kit.w64 (by omega) (by omega)
  have w3 : wrap64 d = d := Kit.w64 (by omega) (by omega)
  have w4 : wrap64 (d * 3) = d * 3 := Kit.w64 (by omega) (by omega)
  have w5 : wrap64 (x1 + d * 3) = x1 + d * 3 := Kit.w64 (by omega) (by omega)
  have w6 : wrap64 ((x1 + d * 3) * 251) = (x1 + d * 3) * 251 := Kit.w64 (by omega) (by omega)
  have w8 : wrap64 ((x1 + d * 3) * 251 + x2) = (x1 + d * 3) * 251 + x2 := Kit.w64 (by omega) (by omega)
  by_cases h200 : n > 200
  · rw [if_pos h200, if_pos m2.1, if_pos m2.2, if_neg (by omega)]
    simp only [w1, w2, w3, w4, w5, w6, w8]
    have := tmod_in (x := (x1 + d * 3) * 251 + x2) (by omega) hn1
    exact ⟨_, rfl, this.1, .inl this.2⟩
  · rw [if_neg h200, if_neg (by omega)]
    simp only [w1, w3, w4, w5]
    have := tmod_in (x := x1 + d * 3) (by omega) hn1
    exact ⟨_, rfl, this.1, .inl this.2⟩
def sameB : List S42 → List S42 → Bool
  | [], [] => true
  | x :: xs, y :: ys => if x.f0 = y.f0 then (if x.f1 = y.f1 then sameB xs ys else false) else false
  | [], _ :: _ => false
  | _ :: _, [] => false
theorem sameB_iff : ∀ xs ys : List S42, sameB xs ys = true ↔ xs = ys
  | [], [] => by simp [sameB]
  | [], _ :: _ => by simp [sameB]
  | _ :: _, [] => by simp [sameB]
  | ⟨a, b⟩ :: xs, ⟨c, d⟩ :: ys => by
    simp only [sameB]
    by_cases h1 : a = c
    · by_cases h2 : b = d
      · rw [if_pos h1, if_pos h2, sameB_iff xs ys, h1, h2]; simp
      · rw [if_pos h1, if_neg h2]; simp [h2]
    · rw [if_neg h1]; simp [h1]
theorem sameB_len {xs ys : List S42} (h : ¬ (xs.length : Int) = (ys.length : Int)) : sameB xs ys = false := by
  cases e : sameB xs ys with
  | false => rfl
  | true => exact absurd (by rw [(sameB_iff xs ys).mp e]) h
theorem slicesEq_l0 (xs ys : List Int) (hn : xs.length ≤ 9223372036854775807) (hl : xs.length = ys.length) : ∀ (d i : Nat), i + d = xs.length → Ev (fun k => slices_Equal_int64_int64.l0 k xs ys (xs.length : Int) (i : Int)) (decide (xs.drop i = ys.drop i)) := by
  intro d
  induction d with
  | zero =>
    intro i hd
    refine Kit.Ev.up ?_
    simp only [slices_Equal_int64_int64.l0]
    refine Kit.Ev.neg (by omega) (Kit.Ev.const ?_)
    rw [List.drop_eq_nil_of_le (by omega), List.drop_eq_nil_of_le (by omega)]; simp
  | succ d ih =>
    intro i hd
    refine Kit.Ev.up ?_
    simp only [slices_Equal_int64_int64.l0]
    refine Kit.Ev.pos (by omega) (Kit.Ev.pos (by omega) (Kit.Ev.pos (by omega) (Kit.Ev.pos (by omega) ?_)))
    rw [rd_drop (xs := xs) (i := i) (by omega), rd_drop (xs := ys) (i := i) (by omega), w64n (n := xs.length) (by omega) hn]
    refine Kit.Ev.ite (fun h => ?_) (fun h => Kit.Ev.const ?_)
    · exact (ih (i + 1) (by omega)).eq (by rw [h]; simp)
    · simp [h]
theorem slicesEq_ev (xs ys : List Int) (hn : xs.length ≤ 9223372036854775807) : Ev (fun k => slices_Equal_int64_int64.f k xs ys) (decide (xs = ys)) := by
  unfold slices_Equal_int64_int64.f
  refine Kit.Ev.ite (fun h => ?_) (fun h => Kit.Ev.const ?_)
  · exact (slicesEq_l0 xs ys hn (by omega) xs.length 0 (by omega)).eq (by simp)
  · have : xs ≠ ys := fun e => h (by rw [e])
    simp [this]
theorem rdE_at {xs : List S42} {i : Nat} (h : i < xs.length) : rd_T42 xs (i : Int) = xs[i] := by simp [rd_T42, h]
theorem rdE_drop {xs : List S42} {i : Nat} (h : i < xs.length) : xs.drop i = rd_T42 xs (i : Int) :: xs.drop (i + 1) := by
  rw [rdE_at h]; exact List.drop_eq_getElem_cons h
theorem rdE_mem {xs : List S42} {i : Nat} (h : i < xs.length) : rd_T42 xs (i : Int) ∈ xs := by
  rw [rdE_at h]; exact List.getElem_mem h
/-- The rows are no longer than any machine's. -/
def Fine (l : List S42) : Prop := l.length ≤ 1048576 ∧ ∀ x ∈ l, x.f0.length ≤ 1048576
theorem Fine.n {l : List S42} (h : Fine l) : l.length ≤ 9223372036854775807 := by have := h.1; omega
theorem Fine.r {l : List S42} (h : Fine l) : ∀ x ∈ l, x.f0.length ≤ 9223372036854775807 := fun x hx => by have := h.2 x hx; omega
theorem implSame_l0 (xs ys : List S42) (hx : Fine xs) (hl : xs.length = ys.length) : ∀ (d i : Nat), i + d = xs.length → Ev (fun k => slices_EqualFunc_impl_sameSets_1.l0 k ys xs (xs.length : Int) (i : Int)) (sameB (xs.drop i) (ys.drop i)) := by
  intro d
  induction d with
  | zero =>
    intro i hd
    refine Kit.Ev.up ?_
    simp only [slices_EqualFunc_impl_sameSets_1.l0]
    refine Kit.Ev.neg (by omega) (Kit.Ev.const ?_)
    rw [List.drop_eq_nil_of_le (by omega), List.drop_eq_nil_of_le (by omega)]; simp [sameB]
  | succ d ih =>
    intro i hd
    refine Kit.Ev.up ?_
    simp only [slices_EqualFunc_impl_sameSets_1.l0, impl_sameSets_1.f]
    have hm := hx.r _ (rdE_mem (xs := xs) (i := i) (by omega))
    refine Kit.Ev.pos (by omega) (Kit.Ev.pos (by omega) (Kit.Ev.pos (by omega) (Kit.Ev.pos (by omega) ?_)))
    rw [rdE_drop (xs := xs) (i := i) (by omega), rdE_drop (xs := ys) (i := i) (by omega), w64n (n := xs.length) (by omega) hx.n]
    simp only [sameB]
    by_cases h1 : (rd_T42 xs (i : Int)).f1 = (rd_T42 ys (i : Int)).f1
    · refine Kit.Ev.then (Kit.Ev.pos h1 (Kit.Ev.then (slicesEq_ev _ _ hm) (Kit.Ev.const rfl))) ?_
      refine Kit.Ev.ite (fun h => ?_) (fun h => Kit.Ev.const ?_)
      · rw [if_pos (by simpa using h), if_pos h1]
        exact ih (i + 1) (by omega)
      · rw [if_neg (by simpa using h)]
    · refine Kit.Ev.then (a := false) (Kit.Ev.neg h1 (Kit.Ev.const rfl)) (Kit.Ev.neg (by decide) (Kit.Ev.const ?_))
      rw [if_neg h1]; simp
theorem implSameS_ev (xs ys : List S42) (hx : Fine xs) : Ev (fun k => impl_sameSets.f k xs ys) (sameB xs ys) := by
  unfold impl_sameSets.f slices_EqualFunc_impl_sameSets_1.f
  refine Kit.Ev.then (a := sameB xs ys) (Kit.Ev.ite (fun h => ?_) (fun h => Kit.Ev.const (by rw [sameB_len h]))) (Kit.Ev.const rfl)
  exact (implSame_l0 xs ys hx (by omega) xs.length 0 (by omega)).eq (by simp)
theorem implSame_ev (xs ys : List S42) (hx : Fine xs) : Ev (fun k => impl_SameSets.f k xs ys) (sameB xs ys) := by
  unfold impl_SameSets.f
  exact Kit.Ev.then (implSameS_ev xs ys hx) (Kit.Ev.const rfl)
theorem cmpR_trans : ∀ a b c : List Int, cmpR a b < 0 → cmpR b c < 0 → cmpR a c < 0
  | [], [], _, h, _ => by simp [cmpR] at h
  | [], _ :: _, [], _, h => by simp [cmpR] at h
  | [], _ :: _, _ :: _, _, _ => by simp [cmpR]
  | _ :: _, [], _, h, _ => by simp [cmpR] at h
  | _ :: _, _ :: _, [], _, h => by simp [cmpR] at h
  | x :: a, y :: b, z :: c, h1, h2 => by
    simp only [cmpR] at h1 h2 ⊢
    by_cases xy : x < y
    · by_cases yz : y < z
      · rw [if_pos (by omega)]; omega
      · by_cases zy : z < y
        · rw [if_neg yz, if_pos zy] at h2; omega
        · rw [if_pos (by omega)]; omega
    · by_cases yx : y < x
      · rw [if_neg xy, if_pos yx] at h1; omega
      · rw [if_neg xy, if_neg yx] at h1
        by_cases yz : y < z
        · rw [if_pos (by omega)]; omega
        · by_cases zy : z < y
          · rw [if_neg yz, if_pos zy] at h2; omega
          · rw [if_neg yz, if_neg zy] at h2
            rw [if_neg (by omega), if_neg (by omega)]
            exact cmpR_trans a b c h1 h2
def setG : Option (List Int) → List S42 → Int
  | _, [] => 0
  | p, x :: xs => if rowF x.f0 = 0 then (if isW x.f1 = true ∧ x.f1 ≠ 0 then (match p with | some q => if cmpR q x.f0 ≥ 0 then 1 else setG (some x.f0) xs | none => setG (some x.f0) xs) else 3) else rowF x.f0
def setF (l : List S42) : Int := if 200 < l.length then 2 else setG none l
def prevE (xs : List S42) (i : Nat) : Option (List Int) := if i = 0 then none else some (rd_T42 xs ((i - 1 : Nat) : Int)).f0
theorem prevE_succ (xs : List S42) (i : Nat) : prevE xs (i + 1) = some (rd_T42 xs (i : Int)).f0 := by simp [prevE]
theorem w64p {i : Nat} (h : 0 < i) (hn : i ≤ 9223372036854775807) : wrap64 ((i : Int) - 1) = ((i - 1 : Nat) : Int) := by
  rw [Kit.w64 (by omega) (by omega)]; omega
/-- The rows ascend. -/
def Srt (l : List S42) : Prop := l.Pairwise (fun x y => cmpR x.f0 y.f0 < 0)
theorem setG_srt : ∀ (p : Option (List Int)) (l : List S42), setG p l = 0 → Srt l ∧ ∀ q, p = some q → ∀ x ∈ l, cmpR q x.f0 < 0
  | _, [], _ => ⟨List.Pairwise.nil, fun _ _ _ h => by simp at h⟩
  | p, x :: xs, h => by
    simp only [setG] at h
    by_cases h1 : rowF x.f0 = 0
    · rw [if_pos h1] at h
      by_cases h2 : isW x.f1 = true ∧ x.f1 ≠ 0
      · rw [if_pos h2] at h
        cases p with
        | none =>
          obtain ⟨s, b⟩ := setG_srt _ _ h
          exact ⟨List.Pairwise.cons (fun y hy => b _ rfl y hy) s, fun q e => by cases e⟩
        | some q =>
          simp only at h
          by_cases h3 : cmpR q x.f0 ≥ 0
          · rw [if_pos h3] at h; omega
          · rw [if_neg h3] at h
            obtain ⟨s, b⟩ := setG_srt _ _ h
            refine ⟨List.Pairwise.cons (fun y hy => b _ rfl y hy) s, fun q' e y hy => ?_⟩
            injection e with e
            subst e
            rcases List.mem_cons.mp hy with rfl | hy
            · omega
            · exact cmpR_trans _ _ _ (by omega) (b _ rfl y hy)
      · rw [if_neg h2] at h; omega
    · rw [if_neg h1] at h; exact absurd h h1
theorem setF_srt {l : List S42} (h : setF l = 0) : Srt l := by
  unfold setF at h
  by_cases h1 : 200 < l.length
  · rw [if_pos h1] at h; omega
  · rw [if_neg h1] at h; exact (setG_srt _ _ h).1
theorem Srt.at_ {l : List S42} (h : Srt l) {i j : Nat} (hij : i < j) (hj : j < l.length) : cmpR (rd_T42 l (i : Int)).f0 (rd_T42 l (j : Int)).f0 < 0 := by
  rw [rdE_at (by omega), rdE_at hj]
  exact List.pairwise_iff_getElem.mp h i j (by omega) hj hij
def weightL (row : List Int) : List S42 → Int
  | [] => 0
  | x :: xs => if cmpR x.f0 row = 0 then x.f1 else weightL row xs
def weightF (row : List Int) (l : List S42) : Int × Int := if setF l = 0 then (if rowF row = 0 then (0, weightL row l) else (rowF row, 0)) else (setF l, 0)
theorem weightL_none {row : List Int} : ∀ {l : List S42}, (∀ x ∈ l, cmpR x.f0 row ≠ 0) → weightL row l = 0
  | [], _ => rfl
  | x :: xs, h => by
    simp only [weightL]
    rw [if_neg (h x (by simp)), weightL_none (fun y hy => h y (by simp [hy]))]
theorem weightL_at {row : List Int} : ∀ {l : List S42} {m : Nat}, m < l.length → (∀ q, q < m → cmpR (rd_T42 l (q : Int)).f0 row ≠ 0) → cmpR (rd_T42 l (m : Int)).f0 row = 0 → weightL row l = (rd_T42 l (m : Int)).f1
  | [], m, h, _, _ => by simp at h
  | x :: xs, 0, _, _, h0 => by
    simp only [weightL]
    have e : rd_T42 (x :: xs) ((0 : Nat) : Int) = x := rfl
    rw [e] at h0 ⊢
    rw [if_pos h0]
  | x :: xs, m + 1, h, hq, h0 => by
    simp only [weightL]
    have s : ∀ q : Nat, rd_T42 (x :: xs) ((q + 1 : Nat) : Int) = rd_T42 xs (q : Int) := fun q => by
      unfold rd_T42
      rw [Int.toNat_natCast, Int.toNat_natCast]
      simp
    have e : rd_T42 (x :: xs) ((0 : Nat) : Int) = x := rfl
    have h1 := hq 0 (by omega)
    rw [e] at h1
    rw [if_neg h1]
    rw [s] at h0 ⊢
    exact weightL_at (by simpa using h) (fun q hqm => by rw [← s]; exact hq (q + 1) (by omega)) h0
def eE (x : S42) : Sum.En := (x.f0, x.f1)
def dE (p : Sum.En) : S42 := ⟨p.1, p.2⟩
theorem dE_eE (l : List S42) : (l.map eE).map dE = l := by rw [List.map_map]; exact List.map_id _
def putE : List S42 → S42 → List S42
  | [], e => [e]
  | x :: xs, e => if cmpR x.f0 e.f0 < 0 then x :: putE xs e else if cmpR x.f0 e.f0 = 0 then ⟨x.f0, wrap64 (x.f1 + e.f1)⟩ :: xs else e :: x :: xs
theorem cmpR_sum : ∀ a b : List Int, cmpR a b = Sum.cmpR a b
  | [], [] => rfl
  | [], _ :: _ => rfl
  | _ :: _, [] => rfl
  | x :: xs, y :: ys => by unfold cmpR Sum.cmpR; rw [cmpR_sum xs ys]
theorem putE_sum : ∀ (l : List S42) (e : S42), (putE l e).map eE = Sum.put (l.map eE) (eE e)
  | [], _ => rfl
  | x :: xs, e => by
    rw [List.map_cons]
    unfold putE Sum.put
    rw [cmpR_sum]
    show _ = if Sum.cmpR x.f0 e.f0 < 0 then _ else if Sum.cmpR x.f0 e.f0 = 0 then _ else _
    by_cases h1 : Sum.cmpR x.f0 e.f0 < 0
    · rw [if_pos h1, if_pos h1, List.map_cons, putE_sum xs e]
    · rw [if_neg h1, if_neg h1]
      by_cases h2 : Sum.cmpR x.f0 e.f0 = 0
      · rw [if_pos h2, if_pos h2]; rfl
      · rw [if_neg h2, if_neg h2]; rfl
theorem foldE_sum : ∀ (l s : List S42), (l.foldl putE s).map eE = (l.map eE).foldl Sum.put (s.map eE)
  | [], _ => rfl
  | x :: xs, s => by rw [List.foldl_cons, List.map_cons, List.foldl_cons, foldE_sum xs, putE_sum]
theorem putE_len : ∀ (l : List S42) (e : S42), (putE l e).length ≤ l.length + 1
  | [], _ => by simp [putE]
  | x :: xs, e => by
    have := putE_len xs e
    unfold putE
    split
    · simp only [List.length_cons]; omega
    · split <;> simp only [List.length_cons] <;> omega
theorem putE_rows : ∀ (l : List S42) (e : S42) {n : Nat}, (∀ x ∈ l, x.f0.length ≤ n) → e.f0.length ≤ n → ∀ x ∈ putE l e, x.f0.length ≤ n
  | [], e, n, _, he => by intro x hx; unfold putE at hx; rw [List.mem_singleton.mp hx]; exact he
  | y :: ys, e, n, hl, he => by
    have ih := putE_rows ys e (n := n) (fun x hx => hl x (List.mem_cons_of_mem _ hx)) he
    have hy := hl y (List.mem_cons_self ..)
    intro x hx
    unfold putE at hx
    split at hx
    · rcases List.mem_cons.mp hx with rfl | hx
      · exact hy
      · exact ih x hx
    · split at hx
      · rcases List.mem_cons.mp hx with rfl | hx
        · exact hy
        · exact hl x (List.mem_cons_of_mem _ hx)
      · rcases List.mem_cons.mp hx with rfl | hx
        · exact he
        · exact hl x hx
/-- The entries put together, and a code. -/
def sumF (l : List S42) : List S42 × Int := ((Sum.sumSet (l.map eE)).1.map dE, (Sum.sumSet (l.map eE)).2)
def nzE (x : S42) : Bool := decide (x.f1 ≠ 0)
def badE (x : S42) : Bool := !isW x.f1
def finE (s : List S42) : List S42 × Int := if s.any badE = true then ([], 8) else if 200 < (s.filter nzE).length then ([], 2) else (s.filter nzE, 0)
theorem finE_sum (s : List S42) : finE s = ((Sum.finish (s.map eE)).1.map dE, (Sum.finish (s.map eE)).2) := by
  have e1 : (s.map eE).any (fun e => !(decide (-1000000000000 ≤ e.2) && decide (e.2 ≤ 1000000000000))) = s.any badE := by
    rw [List.any_map]
    congr 1
    funext x
    show (!(decide (-1000000000000 ≤ x.f1) && decide (x.f1 ≤ 1000000000000))) = !isW x.f1
    unfold isW
    rw [Bool.decide_and]
  have e2 : (s.map eE).filter (fun e => decide (e.2 ≠ 0)) = (s.filter nzE).map eE := by
    rw [List.filter_map]; rfl
  unfold finE Sum.finish
  rw [e1, e2, List.length_map]
  by_cases c1 : s.any badE = true
  · rw [if_pos c1, if_pos c1]; rfl
  · rw [if_neg c1, if_neg c1]
    by_cases c2 : 200 < (s.filter nzE).length
    · rw [if_pos c2, if_pos c2]; rfl
    · rw [if_neg c2, if_neg c2, dE_eE]
theorem sumF_fin (l : List S42) : sumF l = finE (l.foldl putE []) := by
  unfold sumF
  rw [finE_sum, foldE_sum]
  rfl
theorem finE_len (s : List S42) : (finE s).1.length ≤ 200 := by
  unfold finE
  repeat' split
  · simp
  · simp
  · simp only; omega
theorem foldE_rows {n : Nat} : ∀ (l s : List S42), (∀ x ∈ l, x.f0.length ≤ n) → (∀ x ∈ s, x.f0.length ≤ n) → ∀ x ∈ l.foldl putE s, x.f0.length ≤ n
  | [], _, _, hs => hs
  | y :: ys, s, hl, hs => by
    rw [List.foldl_cons]
    exact foldE_rows ys _ (fun x hx => hl x (List.mem_cons_of_mem _ hx)) (putE_rows s y hs (hl y (List.mem_cons_self ..)))
theorem sumF_fine {l : List S42} (h : Fine l) : Fine (sumF l).1 := by
  rw [sumF_fin]
  refine ⟨Nat.le_trans (finE_len _) (by omega), fun x hx => ?_⟩
  refine foldE_rows (n := 1048576) l [] h.2 (by simp) x ?_
  unfold finE at hx
  split at hx
  · simp at hx
  · split at hx
    · simp at hx
    · exact (List.mem_filter.mp hx).1
theorem l2Row_eq (l : List Int) (h : l.length ≤ 1048576) : spec_l2Row.f l = some l := by
  unfold spec_l2Row.f
  simp only [Option.bind_some, List.nil_append]
  rw [if_pos (by simp only [List.length_nil]; omega)]
theorem l2Put_j1 (xs : List S42) (row : List Int) (w : Int) (hl : xs.length ≤ 1048576) (hx : ∀ x ∈ xs, x.f0.length ≤ 1048576) (hr : row.length ≤ 1048576) (i : Nat) (hi : i ≤ xs.length) (h2 : ∀ (hi : i < xs.length), ¬ cmpR xs[i].f0 row < 0) :
    Ev (fun k => spec_l2Put.j1 k xs (i : Int) row w) (xs.take i ++ putE (xs.drop i) ⟨row, w⟩) := by
  have len : (xs.take i).length = i := by rw [List.length_take]; omega
  have len2 : (xs.drop i).length = xs.length - i := List.length_drop
  refine Kit.Ev.up ?_
  simp only [spec_l2Put.j1, Option.bind_some, List.nil_append, l2Row_eq _ hr, Int.toNat_natCast]
  by_cases hlt : i < xs.length
  · have hd : xs.drop i = xs[i] :: xs.drop (i + 1) := List.drop_eq_getElem_cons hlt
    have hm := hx _ (List.getElem_mem hlt)
    simp only [rdE_at hlt]
    refine Kit.Ev.pos (by omega) (Kit.Ev.pos (by omega) (Kit.Ev.then (specCmp_ev _ row (by omega)) ?_))
    by_cases h0 : cmpR xs[i].f0 row = 0
    · refine Kit.Ev.pos h0 (Kit.Ev.const ?_)
      rw [hd, List.set_eq_take_append_cons_drop, if_pos hlt]
      unfold putE
      rw [if_neg (h2 hlt), if_pos h0]
    · refine Kit.Ev.neg h0 (Kit.Ev.pos (by omega) (Kit.Ev.pos (by simp only [List.length_nil, len]; omega) (Kit.Ev.pos (by rw [len]; omega) (Kit.Ev.pos (by simp only [List.length_append, len, len2, List.length_cons, List.length_nil]; omega) (Kit.Ev.const ?_)))))
      rw [hd]
      unfold putE
      rw [if_neg (h2 hlt), if_neg h0, List.append_assoc]; rfl
  · have hd : xs.drop i = [] := List.drop_eq_nil_of_le (by omega)
    refine Kit.Ev.neg (by omega) (Kit.Ev.pos (by omega) (Kit.Ev.pos (by omega) (Kit.Ev.pos (by simp only [List.length_nil, len]; omega) (Kit.Ev.pos (by rw [len]; omega) (Kit.Ev.pos (by simp only [List.length_append, len, len2, List.length_cons, List.length_nil]; omega) (Kit.Ev.const ?_))))))
    rw [hd]
    unfold putE
    rw [List.append_nil]
theorem l2Put_l0 (xs : List S42) (row : List Int) (w : Int) (hl : xs.length ≤ 1048576) (hx : ∀ x ∈ xs, x.f0.length ≤ 1048576) (hr : row.length ≤ 1048576) : ∀ (d i : Nat), i + d = xs.length → Ev (fun k => spec_l2Put.l0 k xs (i : Int) row w) (xs.take i ++ putE (xs.drop i) ⟨row, w⟩) := by
  intro d
  induction d with
  | zero =>
    intro i hd
    refine Kit.Ev.up ?_
    simp only [spec_l2Put.l0]
    exact Kit.Ev.neg (by omega) (l2Put_j1 xs row w hl hx hr i (by omega) (fun h => by omega))
  | succ d ih =>
    intro i hd
    have hlt : i < xs.length := by omega
    have hdr : xs.drop i = xs[i] :: xs.drop (i + 1) := List.drop_eq_getElem_cons hlt
    have hm := hx _ (List.getElem_mem hlt)
    refine Kit.Ev.up ?_
    simp only [spec_l2Put.l0, rdE_at hlt]
    refine Kit.Ev.pos (by omega) (Kit.Ev.pos (by omega) (Kit.Ev.then (specCmp_ev _ row (by omega)) ?_))
    by_cases h : cmpR xs[i].f0 row < 0
    · refine Kit.Ev.pos h ?_
      rw [w64n (n := xs.length) (by omega) (by omega)]
      refine (ih (i + 1) (by omega)).eq ?_
      rw [hdr, List.take_add_one, List.getElem?_eq_getElem hlt, List.append_assoc]
      show _ = _ ++ putE (xs[i] :: _) _
      conv => rhs; unfold putE
      rw [if_pos h]; rfl
    · exact Kit.Ev.neg h (l2Put_j1 xs row w hl hx hr i (by omega) (fun _ => h))
theorem l2Put_ev (xs : List S42) (row : List Int) (w : Int) (hl : xs.length ≤ 1048576) (hx : ∀ x ∈ xs, x.f0.length ≤ 1048576) (hr : row.length ≤ 1048576) : Ev (fun k => spec_l2Put.f k xs row w) (putE xs ⟨row, w⟩) := by
  unfold spec_l2Put.f
  exact l2Put_l0 xs row w hl hx hr xs.length 0 (by omega)
theorem l2Set_l1 (all : List S42) (hl : all.length ≤ 1048576) : ∀ (d i : Nat) (out : List S42), i + d = all.length → out.length ≤ i → Ev (fun k => spec_l2Set.l1 k all out (i : Int)) (if (all.drop i).any badE = true then ([], 8) else if 200 < (out ++ (all.drop i).filter nzE).length then ([], 2) else (out ++ (all.drop i).filter nzE, 0)) := by
  intro d
  induction d with
  | zero =>
    intro i out hd ho
    refine Kit.Ev.up ?_
    simp only [spec_l2Set.l1]
    refine Kit.Ev.neg (by omega) ?_
    rw [List.drop_eq_nil_of_le (by omega)]
    simp only [List.any_nil, Bool.false_eq_true, if_false, List.filter_nil, List.append_nil]
    by_cases h : 200 < out.length
    · rw [if_pos h]; exact Kit.Ev.pos (by omega) (Kit.Ev.const rfl)
    · rw [if_neg h]; exact Kit.Ev.neg (by omega) (Kit.Ev.const rfl)
  | succ d ih =>
    intro i out hd ho
    have hlt : i < all.length := by omega
    have hdr : all.drop i = all[i] :: all.drop (i + 1) := List.drop_eq_getElem_cons hlt
    refine Kit.Ev.up ?_
    simp only [spec_l2Set.l1, rdE_at hlt, specWeight_eq, Option.bind_some]
    rw [hdr, List.any_cons, List.filter_cons, w64n (n := all.length) (by omega) (by omega)]
    refine Kit.Ev.pos (by omega) (Kit.Ev.pos (by omega) ?_)
    by_cases hw : isW all[i].f1 = true
    · have hb : badE all[i] = false := by unfold badE; rw [hw]; rfl
      rw [hb, Bool.false_or]
      refine Kit.Ev.pos hw ?_
      by_cases hz : all[i].f1 = 0
      · have hn : nzE all[i] = false := by unfold nzE; simp [hz]
        simp only [hn, Bool.false_eq_true, if_false]
        exact Kit.Ev.pos hz (ih (i + 1) out (by omega) (by omega))
      · have hn : nzE all[i] = true := by unfold nzE; simp [hz]
        rw [if_pos hn]
        refine Kit.Ev.neg hz (Kit.Ev.pos (by omega) ?_)
        refine (ih (i + 1) (out ++ [all[i]]) (by omega) (by rw [List.length_append]; simp only [List.length_cons, List.length_nil]; omega)).eq ?_
        rw [List.append_assoc]; rfl
    · have hb : badE all[i] = true := by unfold badE; simp only [Bool.not_eq_true] at hw; rw [hw]; rfl
      rw [hb, Bool.true_or, if_pos rfl]
      exact Kit.Ev.neg hw (Kit.Ev.const rfl)
theorem l2Set_l0 (xs : List S42) (hx : Fine xs) : ∀ (d i : Nat) (acc : List S42), i + d = xs.length → acc.length ≤ i → (∀ x ∈ acc, x.f0.length ≤ 1048576) → Ev (fun k => spec_l2Set.l0 k xs acc (i : Int)) (finE ((xs.drop i).foldl putE acc)) := by
  have hl := hx.1
  intro d
  induction d with
  | zero =>
    intro i acc hd ha hr
    refine Kit.Ev.up ?_
    simp only [spec_l2Set.l0]
    refine Kit.Ev.neg (by omega) ?_
    rw [List.drop_eq_nil_of_le (by omega), List.foldl_nil]
    exact l2Set_l1 acc (by omega) acc.length 0 [] (by omega) (by simp)
  | succ d ih =>
    intro i acc hd ha hr
    have hlt : i < xs.length := by omega
    have hm := hx.2 _ (List.getElem_mem hlt)
    have hpl := putE_len acc xs[i]
    refine Kit.Ev.up ?_
    simp only [spec_l2Set.l0, rdE_at hlt]
    rw [List.drop_eq_getElem_cons hlt, List.foldl_cons, w64n (n := xs.length) (by omega) hx.n]
    refine Kit.Ev.pos (by omega) (Kit.Ev.pos (by omega) (Kit.Ev.then (l2Put_ev acc xs[i].f0 xs[i].f1 (by omega) hr hm) ?_))
    exact ih (i + 1) (putE acc xs[i]) (by omega) (by omega) (putE_rows acc xs[i] hr hm)
theorem l2Set_ev (xs : List S42) (hx : Fine xs) : Ev (fun k => spec_l2Set.f k xs) (sumF xs) := by
  unfold spec_l2Set.f
  rw [sumF_fin]
  exact l2Set_l0 xs hx xs.length 0 [] (by omega) (by simp) (by simp)
theorem summed_eq (xs : List S42) (hx : Fine xs) (hw : ∀ x ∈ xs, -9223372036854775808 ≤ x.f1 ∧ x.f1 ≤ 9223372036854775807) : impl_summed.f xs = some (sumF xs) := by
  unfold impl_summed.f
  rw [if_pos ⟨hx.1, fun x hx' => ⟨hx.2 x hx', hw x hx'⟩⟩]
  rfl
def longB (w : Int) (l : List S42) : Bool := l.all (fun x => decide (w ≤ (x.f0.length : Int)))
theorem indexE_l0 (p : Nat → List Int → Int → Option Bool) (q : List Int → Int → Bool) (xs : List S42) (hn : xs.length ≤ 1048576) (hp : ∀ x ∈ xs, Ev (fun k => p k x.f0 x.f1) (q x.f0 x.f1)) : ∀ (d i : Nat), i + d = xs.length → ∃ r : Int, Ev (fun k => indexE.l0 p k xs (xs.length : Int) (i : Int)) r ∧ (0 ≤ r ↔ (xs.drop i).any (fun x => q x.f0 x.f1) = true) := by
  intro d
  induction d with
  | zero =>
    intro i hd
    refine ⟨-1, Kit.Ev.up ?_, ?_⟩
    · simp only [indexE.l0]
      exact Kit.Ev.neg (by omega) (Kit.Ev.const rfl)
    · rw [List.drop_eq_nil_of_le (by omega)]; simp
  | succ d ih =>
    intro i hd
    have hr := rdE_drop (xs := xs) (i := i) (by omega)
    have hm := hp _ (rdE_mem (xs := xs) (i := i) (by omega))
    by_cases h : q (rd_T42 xs (i : Int)).f0 (rd_T42 xs (i : Int)).f1 = true
    · rw [h] at hm
      refine ⟨(i : Int), Kit.Ev.up ?_, ?_⟩
      · simp only [indexE.l0]
        exact Kit.Ev.pos (by omega) (Kit.Ev.pos (by omega) (Kit.Ev.pos (by omega) (Kit.Ev.then hm (Kit.Ev.pos rfl (Kit.Ev.const rfl)))))
      · rw [hr, List.any_cons, h]
        constructor
        · intro _; rfl
        · intro _; omega
    · obtain ⟨r, e, hiff⟩ := ih (i + 1) (by omega)
      have h' : q (rd_T42 xs (i : Int)).f0 (rd_T42 xs (i : Int)).f1 = false := by simpa using h
      rw [h'] at hm
      refine ⟨r, Kit.Ev.up ?_, ?_⟩
      · simp only [indexE.l0]
        rw [w64n (n := xs.length) (by omega) (by omega)]
        exact Kit.Ev.pos (by omega) (Kit.Ev.pos (by omega) (Kit.Ev.pos (by omega) (Kit.Ev.then hm (Kit.Ev.neg (by decide) e))))
      · rw [hr, List.any_cons, h', Bool.false_or]
        exact hiff
theorem containsE_ev (p : Nat → List Int → Int → Option Bool) (q : List Int → Int → Bool) (xs : List S42) (hn : xs.length ≤ 1048576) (hp : ∀ x ∈ xs, Ev (fun k => p k x.f0 x.f1) (q x.f0 x.f1)) : Ev (fun k => containsE.f p k xs) (xs.any (fun x => q x.f0 x.f1)) := by
  unfold containsE.f indexE.f
  obtain ⟨r, e, h⟩ := indexE_l0 p q xs hn hp xs.length 0 (by omega)
  refine Kit.Ev.then e (Kit.Ev.const ?_)
  rw [List.drop_zero] at h
  cases c : xs.any (fun x => q x.f0 x.f1) with
  | true => rw [c] at h; have := h.mpr rfl; simp; omega
  | false => rw [c] at h; have : ¬ 0 ≤ r := fun g => by simpa using h.mp g
             simp; omega
theorem areLong_ev (w : Int) (xs : List S42) (hn : xs.length ≤ 1048576) : Ev (fun k => impl_areLong.f k xs w) (longB w xs) := by
  unfold impl_areLong.f
  refine Kit.Ev.then (containsE_ev _ (fun l _ => decide ((l.length : Int) < w)) xs hn (fun x _ => Kit.Ev.const rfl)) (Kit.Ev.const ?_)
  congr 1
  unfold longB
  rw [Bool.eq_iff_iff]
  simp only [Bool.not_eq_true', List.any_eq_false, decide_eq_true_eq, List.all_eq_true]
  constructor
  · intro h x hx; have := h x hx; omega
  · intro h x hx; have := h x hx; omega
theorem specShort_l0 (w : Int) (xs : List S42) (hn : xs.length ≤ 1048576) : ∀ (d i : Nat), i + d = xs.length → Ev (fun k => spec_l4Short.l0 k xs w (i : Int)) (!longB w (xs.drop i)) := by
  intro d
  induction d with
  | zero =>
    intro i hd
    refine Kit.Ev.up ?_
    simp only [spec_l4Short.l0]
    refine Kit.Ev.neg (by omega) (Kit.Ev.const ?_)
    rw [List.drop_eq_nil_of_le (by omega)]; simp [longB]
  | succ d ih =>
    intro i hd
    refine Kit.Ev.up ?_
    simp only [spec_l4Short.l0]
    rw [rdE_drop (xs := xs) (i := i) (by omega), w64n (n := xs.length) (by omega) (by omega)]
    refine Kit.Ev.pos (by omega) (Kit.Ev.pos (by omega) (Kit.Ev.ite (fun h => Kit.Ev.const ?_) (fun h => (ih (i + 1) (by omega)).eq ?_)))
    · have : ¬ w ≤ ((rd_T42 xs (i : Int)).f0.length : Int) := by omega
      simp [longB, this]
    · have : w ≤ ((rd_T42 xs (i : Int)).f0.length : Int) := by omega
      simp [longB, this]
theorem specShort_ev (w : Int) (xs : List S42) (hn : xs.length ≤ 1048576) : Ev (fun k => spec_l4Short.f k xs w) (!longB w xs) := by
  unfold spec_l4Short.f
  exact (specShort_l0 w xs hn xs.length 0 (by omega)).eq (by simp)
theorem clone_eq (l : List Int) (h : l.length ≤ 1048576) : slices_Clone_int64_int64.f l = some l := by
  unfold slices_Clone_int64_int64.f
  rw [if_pos (by omega)]
def negE (x : S42) : S42 := ⟨x.f0, -x.f1⟩
def negF (l : List S42) : Int × List S42 := if setF l = 0 then (0, l.map negE) else (setF l, [])
theorem setG_ok : ∀ (p : Option (List Int)) (l : List S42), setG p l = 0 → ∀ x ∈ l, rowF x.f0 = 0 ∧ isW x.f1 = true ∧ x.f1 ≠ 0
  | _, [], _, _, h => by simp at h
  | p, x :: xs, h, y, hy => by
    simp only [setG] at h
    by_cases h1 : rowF x.f0 = 0
    · rw [if_pos h1] at h
      by_cases h2 : isW x.f1 = true ∧ x.f1 ≠ 0
      · rw [if_pos h2] at h
        have hr : setG (some x.f0) xs = 0 := by
          cases p with
          | none => exact h
          | some q =>
            simp only at h
            by_cases h3 : cmpR q x.f0 ≥ 0
            · rw [if_pos h3] at h; omega
            · rw [if_neg h3] at h; exact h
        rcases List.mem_cons.mp hy with rfl | hy
        · exact ⟨h1, h2.1, h2.2⟩
        · exact setG_ok _ xs hr y hy
      · rw [if_neg h2] at h; omega
    · rw [if_neg h1] at h; exact absurd h h1
theorem setF_ok {l : List S42} (h : setF l = 0) : l.length ≤ 200 ∧ ∀ x ∈ l, rowF x.f0 = 0 ∧ isW x.f1 = true ∧ x.f1 ≠ 0 := by
  unfold setF at h
  by_cases h1 : 200 < l.length
  · rw [if_pos h1] at h; omega
  · rw [if_neg h1] at h; exact ⟨by omega, setG_ok _ _ h⟩
theorem isW_in {x : Int} (h : isW x = true) : -1000000000000 ≤ x ∧ x ≤ 1000000000000 := by
  simpa [isW] using h
/-- The entries times a number, as far as all products are weights. -/
def scaledF (by_ : Int) : List S42 → List S42 → List S42 × Bool
  | out, [] => (out, true)
  | out, x :: xs => if (mulP x.f1 by_).2 = true then (if (mulP x.f1 by_).1 = 0 then scaledF by_ out xs else scaledF by_ (out ++ [⟨x.f0, (mulP x.f1 by_).1⟩]) xs) else ([], false)
theorem implScaled_l0 (xs : List S42) (hx : Fine xs) (by_ : Int) (hb : isW by_ = true) (hw : ∀ x ∈ xs, isW x.f1 = true) : ∀ (d i : Nat) (out : List S42), i + d = xs.length → out.length ≤ i → Ev (fun k => impl_scaled.l0 k by_ out xs (xs.length : Int) (i : Int)) (scaledF by_ out (xs.drop i)) := by
  have hl := hx.1
  intro d
  induction d with
  | zero =>
    intro i out hd _
    refine Kit.Ev.up ?_
    simp only [impl_scaled.l0]
    refine Kit.Ev.neg (by omega) (Kit.Ev.const ?_)
    rw [List.drop_eq_nil_of_le (by omega)]; rfl
  | succ d ih =>
    intro i out hd ho
    refine Kit.Ev.up ?_
    simp only [impl_scaled.l0]
    have hm := rdE_mem (xs := xs) (i := i) (by omega)
    rw [rdE_drop (xs := xs) (i := i) (by omega)]
    refine Kit.Ev.pos (by omega) (Kit.Ev.pos (by omega) (Kit.Ev.pos (by omega) (Kit.Ev.then (implMulP_ev _ _ (hw _ hm) hb) ?_)))
    rw [w64n (n := xs.length) (by omega) hx.n]
    simp only [scaledF]
    by_cases h1 : (mulP (rd_T42 xs (i : Int)).f1 by_).2 = true
    · rw [if_pos h1]
      refine Kit.Ev.pos h1 ?_
      by_cases h2 : (mulP (rd_T42 xs (i : Int)).f1 by_).1 = 0
      · rw [if_pos h2]
        exact Kit.Ev.pos h2 (ih (i + 1) out (by omega) (by omega))
      · rw [if_neg h2]
        refine Kit.Ev.neg h2 (Kit.Ev.call (clone_eq _ (hx.2 _ hm)) (Kit.Ev.pos (by omega) ?_))
        exact ih (i + 1) _ (by omega) (by rw [List.length_append]; simp only [List.length_cons, List.length_nil]; omega)
    · rw [if_neg h1]
      exact Kit.Ev.neg h1 (Kit.Ev.const rfl)
theorem implScaled_ev (xs : List S42) (hx : Fine xs) (by_ : Int) (hb : isW by_ = true) (hw : ∀ x ∈ xs, isW x.f1 = true) : Ev (fun k => impl_scaled.f k xs by_) (scaledF by_ [] xs) := by
  unfold impl_scaled.f
  exact implScaled_l0 xs hx by_ hb hw xs.length 0 [] (by omega) (by simp)
theorem implSet_l0 (xs : List S42) (hx : Fine xs) : ∀ (d i : Nat), i + d = xs.length → Ev (fun k => impl_SetFault.l0 k xs xs (xs.length : Int) (i : Int)) (setG (prevE xs i) (xs.drop i)) := by
  have hn := hx.n
  intro d
  induction d with
  | zero =>
    intro i hd
    refine Kit.Ev.up ?_
    simp only [impl_SetFault.l0]
    refine Kit.Ev.neg (by omega) (Kit.Ev.const ?_)
    rw [List.drop_eq_nil_of_le (by omega)]; simp [setG]
  | succ d ih =>
    intro i hd
    have hm := hx.r _ (rdE_mem (xs := xs) (i := i) (by omega))
    have hj : ∀ b : Bool, b = ! decide (isW (rd_T42 xs (i : Int)).f1 = true ∧ (rd_T42 xs (i : Int)).f1 ≠ 0) → rowF (rd_T42 xs (i : Int)).f0 = 0 → Ev (fun k => impl_SetFault.j1 k xs (i : Int) xs (xs.length : Int) (i : Int) b (rd_T42 xs (i : Int)).f0 (rd_T42 xs (i : Int)).f1) (setG (prevE xs i) (xs.drop i)) := by
      intro b hb hrow
      rw [rdE_drop (xs := xs) (i := i) (by omega)]
      simp only [setG]
      rw [if_pos hrow]
      refine Kit.Ev.up ?_
      simp only [impl_SetFault.j1]
      by_cases hw : isW (rd_T42 xs (i : Int)).f1 = true ∧ (rd_T42 xs (i : Int)).f1 ≠ 0
      · rw [if_pos hw]
        refine Kit.Ev.neg (by rw [hb]; simp [hw]) ?_
        by_cases h0 : i = 0
        · subst h0
          refine Kit.Ev.neg (by omega) ?_
          rw [w64n (n := xs.length) (by omega) hn]
          have := ih 1 (by omega)
          rw [show prevE xs 1 = some (rd_T42 xs ((0 : Nat) : Int)).f0 from prevE_succ xs 0] at this
          simpa [prevE] using this
        · refine Kit.Ev.pos (by omega) ?_
          rw [w64p (by omega) (by omega)]
          have hp := hx.r _ (rdE_mem (xs := xs) (i := i - 1) (by omega))
          refine Kit.Ev.pos (by omega) (Kit.Ev.pos (by omega) ?_)
          refine Kit.Ev.then (implCmp_ev _ _ hp) ?_
          rw [w64n (n := xs.length) (by omega) hn, show prevE xs i = some (rd_T42 xs ((i - 1 : Nat) : Int)).f0 from by simp [prevE, h0]]
          dsimp only
          refine Kit.Ev.ite (fun hc => Kit.Ev.const ?_) (fun hc => ?_)
          · rw [if_pos (by omega)]
          · rw [if_neg (by omega), ← prevE_succ]
            exact ih (i + 1) (by omega)
      · rw [if_neg hw]
        exact Kit.Ev.pos (by rw [hb]; simp only [hw, decide_false]; rfl) (Kit.Ev.const rfl)
    refine Kit.Ev.up ?_
    simp only [impl_SetFault.l0]
    refine Kit.Ev.pos (by omega) (Kit.Ev.pos (by omega) (Kit.Ev.pos (by omega) (Kit.Ev.then (implRow_ev _ hm) ?_)))
    refine Kit.Ev.ite (fun hrow => ?_) (fun hrow => Kit.Ev.const ?_)
    · rw [implWeight_eq]
      simp only [Option.bind_some]
      refine Kit.Ev.ite (fun hw => hj _ ?_ hrow) (fun hw => hj _ ?_ hrow)
      · by_cases hz : (rd_T42 xs (i : Int)).f1 = 0 <;> simp [hw, hz]
      · simp [hw]
    · rw [rdE_drop (xs := xs) (i := i) (by omega)]
      simp only [setG]
      rw [if_neg hrow]
theorem implSet_ev (xs : List S42) (hx : Fine xs) : Ev (fun k => impl_SetFault.f k xs) (setF xs) := by
  unfold impl_SetFault.f setF
  refine Kit.Ev.ite (fun h => Kit.Ev.const ?_) (fun h => ?_)
  · rw [if_pos (by omega)]
  · rw [if_neg (by omega)]
    exact (implSet_l0 xs hx xs.length 0 (by omega)).eq (by simp [prevE])
theorem scaled_neg : ∀ (xs out : List S42), (∀ x ∈ xs, isW x.f1 = true ∧ x.f1 ≠ 0) → scaledF (-1) out xs = (out ++ xs.map negE, true)
  | [], out, _ => by simp [scaledF]
  | x :: xs, out, h => by
    obtain ⟨h1, h2⟩ := h x (by simp)
    have hw := isW_in h1
    have e : mulP x.f1 (-1) = (-x.f1, true) := by
      have e1 : x.f1 * (-1) = -x.f1 := by omega
      unfold mulP
      rw [e1, if_pos (by omega)]
    simp only [scaledF, e]
    rw [if_pos trivial, if_neg (by omega), scaled_neg xs _ (fun y hy => h y (by simp [hy]))]
    simp [negE]
theorem implNeg_ev (l : List S42) (hx : Fine l) : Ev (fun k => impl_NegateSet.f k l) (negF l) := by
  unfold impl_NegateSet.f negF
  refine Kit.Ev.then (implSet_ev l hx) (Kit.Ev.ite (fun h => ?_) (fun h => Kit.Ev.const (by rw [if_neg h])))
  rw [if_pos h]
  obtain ⟨h1, h2⟩ := setF_ok h
  refine Kit.Ev.then (implScaled_ev l hx (-1) (by decide) (fun x hx' => (h2 x hx').2.1)) (Kit.Ev.const ?_)
  rw [scaled_neg l [] (fun x hx' => (h2 x hx').2)]
  simp
def cellB (c : Int) : List Int := [((c + 549755813888) / 4294967296) % 256, ((c + 549755813888) / 16777216) % 256, ((c + 549755813888) / 65536) % 256, ((c + 549755813888) / 256) % 256, (c + 549755813888) % 256]
def packR (r : List Int) : List Int := ((r.length : Int) % 256) :: r.flatMap cellB
def packG : List Int → List (List Int) → Int × List Int
  | out, [] => (0, out)
  | out, r :: rs => if rowF r = 0 then packG (out ++ packR r) rs else (rowF r, [])
def packV (rows : List (List Int)) : Int × List Int := if 60 < rows.length then (2, []) else packG [] rows
theorem rowF_zero {r : List Int} (h : rowF r = 0) : r.length ≤ 4 ∧ ∀ x ∈ r, -1000000000 ≤ x ∧ x ≤ 1000000000 := by
  unfold rowF at h
  by_cases h1 : 4 < r.length
  · rw [if_pos h1] at h; omega
  · rw [if_neg h1] at h
    by_cases h2 : r.all inC = true
    · refine ⟨by omega, fun x hx => ?_⟩
      have := List.all_eq_true.mp h2 x hx
      simpa [inC] using this
    · rw [if_neg h2] at h; omega
theorem cells_len : ∀ r : List Int, (r.flatMap cellB).length = 5 * r.length
  | [] => rfl
  | x :: r => by rw [List.flatMap_cons, List.length_append, cells_len r]; simp only [cellB, List.length_cons, List.length_nil]; omega
theorem packR_len (r : List Int) : (packR r).length = 1 + 5 * r.length := by simp only [packR, List.length_cons, cells_len]; omega
theorem rd2_drop {xs : List (List Int)} {i : Nat} (h : i < xs.length) : xs.drop i = rd_L2 xs (i : Int) :: xs.drop (i + 1) := by
  rw [List.drop_eq_getElem_cons h]
  simp [rd_L2, List.getD_eq_getElem?_getD, List.getElem?_eq_getElem h]
theorem rd2_mem {xs : List (List Int)} {i : Nat} (h : i < xs.length) : rd_L2 xs (i : Int) ∈ xs := by
  simp only [rd_L2, Int.toNat_natCast, List.getD_eq_getElem?_getD, List.getElem?_eq_getElem h, Option.getD_some]
  exact List.getElem_mem h
theorem rd_mem {xs : List Int} {i : Nat} (h : i < xs.length) : rd xs (i : Int) ∈ xs := by
  rw [Kit.rd_at h]; exact List.getElem_mem h
theorem cmpR_zero : ∀ xs ys : List Int, cmpR xs ys = 0 ↔ xs = ys
  | [], [] => by simp [cmpR]
  | [], _ :: _ => by simp [cmpR]
  | _ :: _, [] => by simp [cmpR]
  | a :: xs, b :: ys => by
    simp only [cmpR]
    by_cases h1 : a < b
    · rw [if_pos h1]; simp; omega
    · by_cases h2 : b < a
      · rw [if_neg h1, if_pos h2]; simp; omega
      · rw [if_neg h1, if_neg h2, cmpR_zero xs ys]
        have : a = b := by omega
        simp [this]
theorem cmpR_in : ∀ xs ys : List Int, cmpR xs ys = -1 ∨ cmpR xs ys = 0 ∨ cmpR xs ys = 1
  | [], [] => by simp [cmpR]
  | [], _ :: _ => by simp [cmpR]
  | _ :: _, [] => by simp [cmpR]
  | a :: xs, b :: ys => by
    simp only [cmpR]
    by_cases h1 : a < b
    · rw [if_pos h1]; simp
    · by_cases h2 : b < a
      · rw [if_neg h1, if_pos h2]; simp
      · rw [if_neg h1, if_neg h2]; exact cmpR_in xs ys
theorem cell_some {c : List Int} (hc : BytesOk c) {t : Int} (h0 : 0 ≤ t) (h1 : t ≤ 999999999000) : ∃ v, spec_l1Cell.f c t = some (v, t + 6) := by
  unfold spec_l1Cell.f
  obtain ⟨v1, e1, _⟩ := next_some hc h0 (by omega) 4
  obtain ⟨v2, e2, _⟩ := next_some hc (t := t + 1) (by omega) (by omega) 4
  obtain ⟨v3, e3, _⟩ := next_some hc (t := t + 1 + 1) (by omega) (by omega) 4
  obtain ⟨v4, e4, _⟩ := next_some hc (t := t + 1 + 1 + 1) (by omega) (by omega) 5
  obtain ⟨v5, e5, _⟩ := next_some hc (t := t + 1 + 1 + 1 + 1) (by omega) (by omega) 90000
  simp only [e1, e2, e3, e4, e5, Option.bind_some]
  obtain ⟨v6, e6, _⟩ := pick_some hc (t := t + 1 + 1 + 1 + 1 + 1) (by omega) (by omega) ([v1, v2, v3, wrap64 (-v4), v5] : List Int) (by simp)
  rw [e6]
  exact ⟨v6, by simp only [Option.bind_some]; congr 2; omega⟩
theorem row_ev {c : List Int} (hc : BytesOk c) : ∀ (n : Nat) (t : Int) (acc : List Int), n ≤ 100 → acc.length + n ≤ 1000 → 0 ≤ t → t + 6 * n ≤ 999999900000 → ∃ r, Ev (fun k => spec_l1Row.l0 k (n : Int) acc c t) (r, t + 6 * n) ∧ r.length = acc.length + n := by
  intro n
  induction n with
  | zero =>
    intro t acc _ _ _ _
    refine ⟨acc, Kit.Ev.up ?_, by omega⟩
    simp only [spec_l1Row.l0]
    exact Kit.Ev.neg (by omega) (Kit.Ev.const (by congr 2; omega))
  | succ n ih =>
    intro t acc hn ha h0 h1
    obtain ⟨v, e⟩ := cell_some hc h0 (by omega)
    obtain ⟨r, H, hr⟩ := ih (t + 6) (acc ++ [v]) (by omega) (by rw [List.length_append]; simp only [List.length_cons, List.length_nil]; omega) (by omega) (by omega)
    refine ⟨r, Kit.Ev.up ?_, by rw [hr, List.length_append]; simp only [List.length_cons, List.length_nil]; omega⟩
    simp only [spec_l1Row.l0]
    refine Kit.Ev.pos (by omega) (Kit.Ev.call e (Kit.Ev.pos (by omega) ?_))
    have e1 : wrap64 (((n + 1 : Nat) : Int) - 1) = (n : Int) := by rw [Kit.w64 (by omega) (by omega)]; omega
    rw [e1]
    exact H.eq (by congr 1; omega)
theorem row_some {c : List Int} (hc : BytesOk c) {t : Int} (h0 : 0 ≤ t) (h1 : t ≤ 999999000000) {n : Int} (hn : 0 ≤ n) (hn' : n ≤ 100) : ∃ r, Ev (fun k => spec_l1Row.f k c t n) (r, t + 6 * n) ∧ (r.length : Int) = n := by
  obtain ⟨m, rfl⟩ := Int.eq_ofNat_of_zero_le hn
  obtain ⟨r, H, hr⟩ := row_ev hc m t [] (by omega) (by simp; omega) h0 (by omega)
  exact ⟨r, H, by simp at hr; omega⟩
theorem chance_some {c : List Int} (hc : BytesOk c) {t : Int} (h0 : 0 ≤ t) (h1 : t ≤ 1000000000000) (n : Int) : ∃ b, spec_l1Chance.f c t n = some (b, t + 1) := by
  unfold spec_l1Chance.f
  obtain ⟨v, e, _⟩ := next_some hc h0 h1 n
  exact ⟨_, by rw [e]; rfl⟩
theorem bent_some {c : List Int} (hc : BytesOk c) {t : Int} (h0 : 0 ≤ t) (h1 : t ≤ 999998000000) : ∃ r t', Ev (fun k => spec_l1Bent.f k c t) (r, t') ∧ r.length ≤ 5 ∧ t ≤ t' ∧ t' ≤ t + 1000 := by
  have j1 : ∀ (r : List Int) (u : Int), r.length ≤ 5 → t ≤ u → u ≤ t + 500 → ∃ r' t', Ev (fun k => spec_l1Bent.j1 k r c u) (r', t') ∧ r'.length ≤ 5 ∧ t ≤ t' ∧ t' ≤ t + 1000 := by
    intro r u hr hu hu'
    obtain ⟨b, e⟩ := chance_some hc (t := u) (by omega) (by omega) 24
    by_cases hb : b = true
    · obtain ⟨r', H, hl⟩ := row_some hc (t := u + 1) (by omega) (by omega) (n := 5) (by omega) (by omega)
      refine ⟨r', u + 1 + 6 * 5, Kit.Ev.up ?_, by omega, by omega, by omega⟩
      simp only [spec_l1Bent.j1]
      exact Kit.Ev.call e (Kit.Ev.pos hb (Kit.Ev.then H (Kit.Ev.const rfl)))
    · refine ⟨r, u + 1, Kit.Ev.up ?_, hr, by omega, by omega⟩
      simp only [spec_l1Bent.j1]
      exact Kit.Ev.call e (Kit.Ev.neg hb (Kit.Ev.const rfl))
  have j0 : ∀ (r : List Int) (b : Bool) (u : Int), r.length ≤ 5 → (b = true → 0 < r.length) → t ≤ u → u ≤ t + 400 → ∃ r' t', Ev (fun k => spec_l1Bent.j0 k r b c u) (r', t') ∧ r'.length ≤ 5 ∧ t ≤ t' ∧ t' ≤ t + 1000 := by
    intro r b u hr hb hu hu'
    by_cases h : b = true
    · obtain ⟨v, e, _⟩ := pick_some hc (t := u) (by omega) (by omega) ([1000000000, (-1000000000), 1000000001, (-1000000001), 4611686018427387904, (-9223372036854775808)] : List Int) (by simp)
      obtain ⟨r', t', H, q⟩ := j1 (r.set (0 : Int).toNat v) (u + 1) (by rw [List.length_set]; exact hr) (by omega) (by omega)
      refine ⟨r', t', Kit.Ev.up ?_, q⟩
      simp only [spec_l1Bent.j0]
      have := hb h
      exact Kit.Ev.pos h (Kit.Ev.call e (Kit.Ev.pos (by omega) H))
    · obtain ⟨r', t', H, q⟩ := j1 r u hr (by omega) (by omega)
      refine ⟨r', t', Kit.Ev.up ?_, q⟩
      simp only [spec_l1Bent.j0]
      exact Kit.Ev.neg h H
  obtain ⟨n, e1, hv, _⟩ := next_some hc h0 (by omega) 5
  obtain ⟨g0, g1⟩ := hv (by omega)
  obtain ⟨r, H1, hl⟩ := row_some hc (t := t + 1) (by omega) (by omega) (n := n) (by omega) (by omega)
  by_cases hp : (r.length : Int) > 0
  · obtain ⟨b, e2⟩ := chance_some hc (t := t + 1 + 6 * n) (by omega) (by omega) 12
    obtain ⟨r', t', H, q⟩ := j0 r b (t + 1 + 6 * n + 1) (by omega) (fun _ => by omega) (by omega) (by omega)
    refine ⟨r', t', ?_, q⟩
    unfold spec_l1Bent.f
    exact Kit.Ev.call e1 (Kit.Ev.then H1 (Kit.Ev.pos hp (Kit.Ev.call e2 H)))
  · obtain ⟨r', t', H, q⟩ := j0 r false (t + 1 + 6 * n) (by omega) (fun h => absurd h (by decide +kernel)) (by omega) (by omega)
    refine ⟨r', t', ?_, q⟩
    unfold spec_l1Bent.f
    exact Kit.Ev.call e1 (Kit.Ev.then H1 (Kit.Ev.neg hp H))
theorem cmpR_anti : ∀ xs ys : List Int, cmpR xs ys = - cmpR ys xs
  | [], [] => rfl
  | [], _ :: _ => rfl
  | _ :: _, [] => rfl
  | a :: xs, b :: ys => by
    simp only [cmpR]
    have ih := cmpR_anti xs ys
    by_cases h1 : a < b
    · rw [if_pos h1, if_neg (by omega), if_pos h1]
    · by_cases h2 : b < a
      · rw [if_neg h1, if_pos h2, if_pos h2]; rfl
      · rw [if_neg h1, if_neg h2, if_neg h2, if_neg h1]; exact ih
theorem specSet_l0 (xs : List S42) (hx : Fine xs) : ∀ (d i : Nat), i + d = xs.length → Ev (fun k => spec_SetFault.l0 k xs (i : Int)) (setG (prevE xs i) (xs.drop i)) := by
  have hn := hx.n
  intro d
  induction d with
  | zero =>
    intro i hd
    refine Kit.Ev.up ?_
    simp only [spec_SetFault.l0]
    refine Kit.Ev.neg (by omega) (Kit.Ev.const ?_)
    rw [List.drop_eq_nil_of_le (by omega)]; simp [setG]
  | succ d ih =>
    intro i hd
    have hm := hx.r _ (rdE_mem (xs := xs) (i := i) (by omega))
    have hj : ∀ b : Bool, b = ! decide (isW (rd_T42 xs (i : Int)).f1 = true ∧ (rd_T42 xs (i : Int)).f1 ≠ 0) → rowF (rd_T42 xs (i : Int)).f0 = 0 → Ev (fun k => spec_SetFault.j1 k xs (i : Int) b) (setG (prevE xs i) (xs.drop i)) := by
      intro b hb hrow
      rw [rdE_drop (xs := xs) (i := i) (by omega)]
      simp only [setG]
      rw [if_pos hrow]
      refine Kit.Ev.up ?_
      simp only [spec_SetFault.j1]
      by_cases hw : isW (rd_T42 xs (i : Int)).f1 = true ∧ (rd_T42 xs (i : Int)).f1 ≠ 0
      · rw [if_pos hw]
        refine Kit.Ev.neg (by rw [hb]; simp [hw]) ?_
        by_cases h0 : i = 0
        · subst h0
          refine Kit.Ev.neg (by omega) ?_
          rw [w64n (n := xs.length) (by omega) hn]
          have := ih 1 (by omega)
          rw [show prevE xs 1 = some (rd_T42 xs ((0 : Nat) : Int)).f0 from prevE_succ xs 0] at this
          simpa [prevE] using this
        · refine Kit.Ev.pos (by omega) (Kit.Ev.pos (by omega) (Kit.Ev.pos (by omega) ?_))
          rw [w64p (by omega) (by omega)]
          refine Kit.Ev.pos (by omega) (Kit.Ev.pos (by omega) ?_)
          refine Kit.Ev.then (specCmp_ev _ _ hm) ?_
          rw [w64n (n := xs.length) (by omega) hn, show prevE xs i = some (rd_T42 xs ((i - 1 : Nat) : Int)).f0 from by simp [prevE, h0]]
          dsimp only
          rw [cmpR_anti (rd_T42 xs ((i - 1 : Nat) : Int)).f0]
          refine Kit.Ev.ite (fun hc => Kit.Ev.const ?_) (fun hc => ?_)
          · rw [if_pos (by omega)]
          · rw [if_neg (by omega), ← prevE_succ]
            exact ih (i + 1) (by omega)
      · rw [if_neg hw]
        exact Kit.Ev.pos (by rw [hb]; simp only [hw, decide_false]; rfl) (Kit.Ev.const rfl)
    refine Kit.Ev.up ?_
    simp only [spec_SetFault.l0]
    refine Kit.Ev.pos (by omega) (Kit.Ev.pos (by omega) (Kit.Ev.then (specRow_ev _ hm) ?_))
    refine Kit.Ev.ite (fun hrow => ?_) (fun hrow => Kit.Ev.const ?_)
    · rw [specWeight_eq]
      simp only [Option.bind_some]
      refine Kit.Ev.ite (fun hw => hj _ ?_ hrow) (fun hw => hj _ ?_ hrow)
      · by_cases hz : (rd_T42 xs (i : Int)).f1 = 0 <;> simp [hw, hz]
      · simp [hw]
    · rw [rdE_drop (xs := xs) (i := i) (by omega)]
      simp only [setG]
      rw [if_neg hrow]
theorem specSet_ev (xs : List S42) (hx : Fine xs) : Ev (fun k => spec_SetFault.f k xs) (setF xs) := by
  unfold spec_SetFault.f setF
  refine Kit.Ev.ite (fun h => Kit.Ev.const ?_) (fun h => ?_)
  · rw [if_pos (by omega)]
  · rw [if_neg (by omega)]
    exact (specSet_l0 xs hx xs.length 0 (by omega)).eq (by simp [prevE])
def totW (s : Int) (l : List S42) : Int := l.foldl (fun s x => wrap64 (s + x.f1)) s
def totalF (l : List S42) : Int × Int := if setF l = 0 then (0, totW 0 l) else (setF l, 0)
def addF (a b : List S42) : Int × List S42 := if setF a = 0 then (if setF b = 0 then ((sumF (a ++ b)).2, (sumF (a ++ b)).1) else (setF b, [])) else (setF a, [])
theorem fine_app {a b : List S42} (ha : setF a = 0) (hb : setF b = 0) : Fine (a ++ b) := by
  obtain ⟨n1, h1⟩ := setF_ok ha
  obtain ⟨n2, h2⟩ := setF_ok hb
  refine ⟨by rw [List.length_append]; omega, fun x hx => ?_⟩
  rcases List.mem_append.mp hx with h | h
  · have := (rowF_zero (h1 x h).1).1; omega
  · have := (rowF_zero (h2 x h).1).1; omega
theorem addF_fine (a b : List S42) : Fine (addF a b).2 := by
  have nil : Fine ([] : List S42) := ⟨by simp, by simp⟩
  unfold addF
  by_cases h1 : setF a = 0
  · rw [if_pos h1]
    by_cases h2 : setF b = 0
    · rw [if_pos h2]; exact sumF_fine (fine_app h1 h2)
    · rw [if_neg h2]; exact nil
  · rw [if_neg h1]; exact nil
theorem setsFault_ev (a b : List S42) (ha : Fine a) (hb : Fine b) : Ev (fun k => impl_setsFault.f k [a, b]) (if setF a = 0 then setF b else setF a) := by
  have w1 : wrap64 (0 + 1) = 1 := Kit.w64 (by omega) (by omega)
  have w2 : wrap64 (1 + 1) = 2 := Kit.w64 (by omega) (by omega)
  unfold impl_setsFault.f
  refine Kit.Ev.up ?_
  simp only [impl_setsFault.l0, List.length_cons, List.length_nil]
  refine Kit.Ev.pos (by omega) (Kit.Ev.pos (by omega) (Kit.Ev.pos (by omega) (Kit.Ev.then (implSet_ev a ha) (Kit.Ev.ite2 (fun h1 => ?_) (fun _ => Kit.Ev.const rfl)))))
  rw [w1]
  refine Kit.Ev.up ?_
  simp only [impl_setsFault.l0, List.length_cons, List.length_nil]
  refine Kit.Ev.pos (by omega) (Kit.Ev.pos (by omega) (Kit.Ev.pos (by omega) (Kit.Ev.then (implSet_ev b hb) (Kit.Ev.ite (fun h2 => ?_) (fun _ => Kit.Ev.const rfl)))))
  rw [w2, h2]
  refine Kit.Ev.up ?_
  simp only [impl_setsFault.l0, List.length_cons, List.length_nil]
  exact Kit.Ev.neg (by omega) (Kit.Ev.const rfl)
theorem setF_in64 {l : List S42} (h : setF l = 0) : ∀ x ∈ l, -9223372036854775808 ≤ x.f1 ∧ x.f1 ≤ 9223372036854775807 := fun x hx => by
  have := isW_in ((setF_ok h).2 x hx).2.1
  omega
theorem implAddS_ev (a b : List S42) (ha : Fine a) (hb : Fine b) : Ev (fun k => impl_AddSets.f k a b) (addF a b) := by
  unfold impl_AddSets.f addF
  refine Kit.Ev.then (setsFault_ev a b ha hb) ?_
  by_cases h1 : setF a = 0
  · by_cases h2 : setF b = 0
    · have hf := fine_app h1 h2
      have hl := hf.1
      rw [List.length_append] at hl
      have hw : ∀ x ∈ a ++ b, -9223372036854775808 ≤ x.f1 ∧ x.f1 ≤ 9223372036854775807 := fun x hx => by
        rcases List.mem_append.mp hx with h | h
        · exact setF_in64 h1 x h
        · exact setF_in64 h2 x h
      simp only [if_pos h1, if_pos h2, if_pos (show a.length + b.length < 4194304 by omega)]
      exact Kit.Ev.call (summed_eq _ hf hw) (Kit.Ev.const rfl)
    · simp only [if_pos h1, if_neg h2]
      exact Kit.Ev.const rfl
  · simp only [if_neg h1]
    exact Kit.Ev.const rfl
/-- What an entry makes of a list of entries: those that meet it, put behind what is there; false where a product is no weight. -/
def joinRow (n : Nat) (x : S42) : List S42 → List S42 → List S42 × Bool
  | acc, [] => (acc, true)
  | acc, y :: ys => if x.f0.take n = y.f0.take n then (if (mulP x.f1 y.f1).2 = true then joinRow n x (acc ++ [⟨x.f0 ++ y.f0.drop n, (mulP x.f1 y.f1).1⟩]) ys else ([], false)) else joinRow n x acc ys
def joinAll (n : Nat) (b : List S42) : List S42 → List S42 → List S42 × Bool
  | acc, [] => (acc, true)
  | acc, x :: xs => if (joinRow n x acc b).2 = true then joinAll n b (joinRow n x acc b).1 xs else ([], false)
theorem mulP_small (a b : Int) : -1000000000000 ≤ (mulP a b).1 ∧ (mulP a b).1 ≤ 1000000000000 := by
  unfold mulP
  by_cases h : (a * b).natAbs ≤ 1000000000000
  · rw [if_pos h]; simp only; omega
  · rw [if_neg h]; simp only; omega
/-- The bounds of what is put together. -/
def JOk (m : Nat) (l : List S42) : Prop := l.length ≤ m ∧ ∀ x ∈ l, x.f0.length ≤ 8 ∧ -1000000000000 ≤ x.f1 ∧ x.f1 ≤ 1000000000000
theorem joinRow_ok (n : Nat) (x : S42) (hx : x.f0.length ≤ 4) : ∀ (ys acc : List S42) (m : Nat), (∀ y ∈ ys, y.f0.length ≤ 4) → JOk m acc → JOk (m + ys.length) (joinRow n x acc ys).1
  | [], acc, m, _, h => by simpa [joinRow] using h
  | y :: ys, acc, m, hy, h => by
    have hy0 := hy y (List.mem_cons_self ..)
    have hys : ∀ z ∈ ys, z.f0.length ≤ 4 := fun z hz => hy z (List.mem_cons_of_mem _ hz)
    unfold joinRow
    by_cases h1 : x.f0.take n = y.f0.take n
    · rw [if_pos h1]
      by_cases h2 : (mulP x.f1 y.f1).2 = true
      · rw [if_pos h2]
        have := joinRow_ok n x hx ys (acc ++ [⟨x.f0 ++ y.f0.drop n, (mulP x.f1 y.f1).1⟩]) (m + 1) hys ⟨by rw [List.length_append]; simp only [List.length_cons, List.length_nil]; have := h.1; omega, fun z hz => by
          rcases List.mem_append.mp hz with hz | hz
          · exact h.2 z hz
          · rw [List.mem_singleton.mp hz]
            refine ⟨?_, mulP_small ..⟩
            rw [List.length_append, List.length_drop]; omega⟩
        rw [List.length_cons, show m + (ys.length + 1) = m + 1 + ys.length by omega]
        exact this
      · rw [if_neg h2]; exact ⟨by simp, by simp⟩
    · rw [if_neg h1]
      obtain ⟨a, b⟩ := joinRow_ok n x hx ys acc m hys h
      exact ⟨by rw [List.length_cons]; omega, b⟩
theorem joinAll_ok (n : Nat) (b : List S42) (hb : ∀ y ∈ b, y.f0.length ≤ 4) : ∀ (xs acc : List S42) (m : Nat), (∀ x ∈ xs, x.f0.length ≤ 4) → JOk m acc → JOk (m + xs.length * b.length) (joinAll n b acc xs).1
  | [], acc, m, _, h => by simpa [joinAll] using h
  | x :: xs, acc, m, hx, h => by
    have hx0 := hx x (List.mem_cons_self ..)
    have hxs : ∀ z ∈ xs, z.f0.length ≤ 4 := fun z hz => hx z (List.mem_cons_of_mem _ hz)
    unfold joinAll
    by_cases h1 : (joinRow n x acc b).2 = true
    · rw [if_pos h1]
      have := joinAll_ok n b hb xs _ (m + b.length) hxs (joinRow_ok n x hx0 b acc m hb h)
      rw [List.length_cons, Nat.succ_mul, show m + (xs.length * b.length + b.length) = m + b.length + xs.length * b.length by omega]
      exact this
    · rw [if_neg h1]; exact ⟨by simp, by simp⟩
def maxL : List S42 → Int → Int
  | [], m => m
  | x :: xs, m => maxL xs (if m < (x.f0.length : Int) then (x.f0.length : Int) else m)
def wide1 (key : Int) (x : S42) (b : List S42) : Bool := b.any fun y => decide ((x.f0.length : Int) + (y.f0.length : Int) - key > 4)
def wideB (key : Int) (a b : List S42) : Bool := a.any fun x => wide1 key x b
theorem maxL_le : ∀ (l : List S42) (m c : Int), maxL l m ≤ c ↔ m ≤ c ∧ ∀ x ∈ l, (x.f0.length : Int) ≤ c
  | [], m, c => by simp [maxL]
  | x :: xs, m, c => by
    unfold maxL
    rw [maxL_le]
    constructor
    · rintro ⟨h1, h2⟩
      by_cases h : m < (x.f0.length : Int)
      · rw [if_pos h] at h1
        exact ⟨by omega, fun y hy => by rcases List.mem_cons.mp hy with rfl | hy; exact h1; exact h2 y hy⟩
      · rw [if_neg h] at h1
        exact ⟨h1, fun y hy => by rcases List.mem_cons.mp hy with rfl | hy; omega; exact h2 y hy⟩
    · rintro ⟨h1, h2⟩
      have := h2 x (List.mem_cons_self ..)
      exact ⟨by split <;> omega, fun y hy => h2 y (List.mem_cons_of_mem _ hy)⟩
theorem wideB_max {key : Int} {a b : List S42} (ha : a ≠ []) (hb : b ≠ []) : wideB key a b = decide (4 + key < maxL a 0 + maxL b 0) := by
  rw [Bool.eq_iff_iff, decide_eq_true_eq]
  unfold wideB wide1
  simp only [List.any_eq_true, decide_eq_true_eq]
  constructor
  · rintro ⟨x, hx, y, hy, h⟩
    have h1 := ((maxL_le a 0 (maxL a 0)).mp (by omega)).2 x hx
    have h2 := ((maxL_le b 0 (maxL b 0)).mp (by omega)).2 y hy
    omega
  · intro h
    have ex : ∀ (l : List S42), l ≠ [] → ∃ x ∈ l, maxL l 0 ≤ (x.f0.length : Int) := by
      intro l hl
      refine Classical.byContradiction fun hn => ?_
      have hn' : ∀ x ∈ l, (x.f0.length : Int) ≤ maxL l 0 - 1 := fun x hx => by
        by_cases q : maxL l 0 ≤ (x.f0.length : Int)
        · exact absurd ⟨x, hx, q⟩ hn
        · omega
      obtain ⟨x0, hx0⟩ : ∃ x0, x0 ∈ l := by
        cases l with
        | nil => exact absurd rfl hl
        | cons x xs => exact ⟨x, List.mem_cons_self ..⟩
      have h0 := hn' x0 hx0
      have := (maxL_le l 0 (maxL l 0 - 1)).mpr ⟨by omega, hn'⟩
      omega
    obtain ⟨x, hx, h1⟩ := ex a ha
    obtain ⟨y, hy, h2⟩ := ex b hb
    exact ⟨x, hx, y, hy, by omega⟩
def joinR (p : List S42 × Bool) : Int × List S42 := if p.2 = true then (if 800 < p.1.length then (2, []) else ((sumF p.1).2, (sumF p.1).1)) else (8, [])
def joinF (key : Int) (a b : List S42) : Int × List S42 :=
  if (1 ≤ key ∧ key ≤ 4) then (if (if setF a = 0 then setF b else setF a) = 0 then (if (longB key a && longB key b) = true then (if wideB key a b = true then (2, []) else joinR (joinAll key.toNat b [] a)) else (1, [])) else ((if setF a = 0 then setF b else setF a), [])) else (3, [])
theorem JOk.fine {l : List S42} (h : JOk 40000 l) : Fine l := ⟨by have := h.1; omega, fun x hx => by have := (h.2 x hx).1; omega⟩
theorem joinR_fine {p : List S42 × Bool} (h : JOk 40000 p.1) : Fine (joinR p).2 := by
  have nil : Fine ([] : List S42) := ⟨by simp, by simp⟩
  unfold joinR
  repeat' split
  · exact nil
  · exact sumF_fine h.fine
  · exact nil
theorem setF_len {l : List S42} (h : setF l = 0) : ∀ x ∈ l, x.f0.length ≤ 4 := fun x hx => (rowF_zero ((setF_ok h).2 x hx).1).1
theorem two_zero {a b : List S42} (h : (if setF a = 0 then setF b else setF a) = 0) : setF a = 0 ∧ setF b = 0 := by
  by_cases h1 : setF a = 0
  · rw [if_pos h1] at h; exact ⟨h1, h⟩
  · rw [if_neg h1] at h; exact absurd h h1
theorem joinAll_jok (n : Nat) {a b : List S42} (ha : setF a = 0) (hb : setF b = 0) : JOk 40000 (joinAll n b [] a).1 := by
  obtain ⟨n1, _⟩ := setF_ok ha
  obtain ⟨n2, _⟩ := setF_ok hb
  obtain ⟨h1, h2⟩ := joinAll_ok n b (setF_len hb) a [] 0 (setF_len ha) ⟨by simp, by simp⟩
  have := Nat.mul_le_mul n1 n2
  exact ⟨by omega, h2⟩
theorem joinF_fine (key : Int) (a b : List S42) : Fine (joinF key a b).2 := by
  have nil : Fine ([] : List S42) := ⟨by simp, by simp⟩
  unfold joinF
  by_cases h1 : 1 ≤ key ∧ key ≤ 4
  · rw [if_pos h1]
    by_cases h2 : (if setF a = 0 then setF b else setF a) = 0
    · obtain ⟨ha, hb⟩ := two_zero h2
      rw [if_pos h2]
      repeat' split
      · exact nil
      · exact joinR_fine (joinAll_jok _ ha hb)
      · exact nil
    · rw [if_neg h2]; exact nil
  · rw [if_neg h1]; exact nil
theorem specJoin_l1 (key : Int) (hk : 1 ≤ key ∧ key ≤ 4) (a b : List S42) (ha : setF a = 0) (hb : setF b = 0) (la : longB key a = true) (lb : longB key b = true) (i : Nat) (hi : i < a.length)
    (next : ∀ acc : List S42, JOk ((i + 1) * b.length) acc → Ev (fun k => spec_l4Join.l0 k a b key acc ((i + 1 : Nat) : Int)) (if (joinAll key.toNat b acc (a.drop (i + 1))).2 = true then (if 800 < (joinAll key.toNat b acc (a.drop (i + 1))).1.length then ([], 2) else sumF (joinAll key.toNat b acc (a.drop (i + 1))).1) else ([], 8))) :
    ∀ (d j : Nat) (acc : List S42), j + d = b.length → JOk (i * b.length + j) acc →
      Ev (fun k => spec_l4Join.l1 k a b key acc (i : Int) (j : Int)) (if (joinRow key.toNat (rd_T42 a (i : Int)) acc (b.drop j)).2 = true then (if (joinAll key.toNat b (joinRow key.toNat (rd_T42 a (i : Int)) acc (b.drop j)).1 (a.drop (i + 1))).2 = true then (if 800 < (joinAll key.toNat b (joinRow key.toNat (rd_T42 a (i : Int)) acc (b.drop j)).1 (a.drop (i + 1))).1.length then ([], 2) else sumF (joinAll key.toNat b (joinRow key.toNat (rd_T42 a (i : Int)) acc (b.drop j)).1 (a.drop (i + 1))).1) else ([], 8)) else ([], 8)) := by
  obtain ⟨n1, g1⟩ := setF_ok ha
  obtain ⟨n2, g2⟩ := setF_ok hb
  have hma := rdE_mem (xs := a) (i := i) hi
  have hra := setF_len ha _ hma
  have hwa := (g1 _ hma).2.1
  have hla : key ≤ ((rd_T42 a (i : Int)).f0.length : Int) := by
    have := List.all_eq_true.mp la _ hma
    simpa using this
  intro d
  induction d with
  | zero =>
    intro j acc hd hacc
    refine Kit.Ev.up ?_
    simp only [spec_l4Join.l1]
    refine Kit.Ev.neg (by omega) ?_
    rw [w64n (n := a.length) (by omega) (by omega), List.drop_eq_nil_of_le (show b.length ≤ j by omega)]
    simp only [joinRow, if_true]
    refine next acc ⟨?_, hacc.2⟩
    have := hacc.1
    rw [Nat.succ_mul]; omega
  | succ d ih =>
    intro j acc hd hacc
    have hj : j < b.length := by omega
    have hmb := rdE_mem (xs := b) (i := j) hj
    have hrb := setF_len hb _ hmb
    have hwb := (g2 _ hmb).2.1
    have hlb : key ≤ ((rd_T42 b (j : Int)).f0.length : Int) := by
      have := List.all_eq_true.mp lb _ hmb
      simpa using this
    have hil : i * b.length ≤ 200 * 200 := Nat.mul_le_mul (by omega) n2
    have hal := hacc.1
    rw [rdE_drop (xs := b) (i := j) hj]
    unfold joinRow
    refine Kit.Ev.up ?_
    simp only [spec_l4Join.l1]
    refine Kit.Ev.pos (by omega) (Kit.Ev.pos (by omega) (Kit.Ev.pos (by omega) (Kit.Ev.pos (by omega) (Kit.Ev.pos (by omega) (Kit.Ev.pos (by omega) (Kit.Ev.pos (by omega) (Kit.Ev.then (specCmp_ev _ _ (by rw [List.length_take]; omega)) ?_)))))))
    rw [w64n (n := b.length) (by omega) (by omega)]
    by_cases h1 : (rd_T42 a (i : Int)).f0.take key.toNat = (rd_T42 b (j : Int)).f0.take key.toNat
    · simp only [if_pos h1]
      refine Kit.Ev.pos ((cmpR_zero _ _).mpr h1) (Kit.Ev.then (specMulP_ev _ _ hwa hwb) ?_)
      by_cases h2 : (mulP (rd_T42 a (i : Int)).f1 (rd_T42 b (j : Int)).f1).2 = true
      · simp only [if_pos h2]
        refine Kit.Ev.call (l2Row_eq _ (by omega)) (Kit.Ev.pos (by rw [List.length_drop]; omega) (Kit.Ev.pos (by omega) ?_))
        refine ih (j + 1) _ (by omega) ⟨by rw [List.length_append]; simp only [List.length_cons, List.length_nil]; omega, fun z hz => ?_⟩
        rcases List.mem_append.mp hz with hz | hz
        · exact hacc.2 z hz
        · rw [List.mem_singleton.mp hz]
          refine ⟨?_, mulP_small ..⟩
          rw [List.length_append, List.length_drop]; omega
      · simp only [if_neg h2]
        exact (Kit.Ev.const rfl).eq (by simp)
    · simp only [if_neg h1]
      refine Kit.Ev.neg (fun h => h1 ((cmpR_zero _ _).mp h)) ?_
      exact ih (j + 1) acc (by omega) ⟨by omega, hacc.2⟩
theorem specJoin_l0 (key : Int) (hk : 1 ≤ key ∧ key ≤ 4) (a b : List S42) (ha : setF a = 0) (hb : setF b = 0) (la : longB key a = true) (lb : longB key b = true) : ∀ (d i : Nat) (acc : List S42), i + d = a.length → JOk (i * b.length) acc →
    Ev (fun k => spec_l4Join.l0 k a b key acc (i : Int)) (if (joinAll key.toNat b acc (a.drop i)).2 = true then (if 800 < (joinAll key.toNat b acc (a.drop i)).1.length then ([], 2) else sumF (joinAll key.toNat b acc (a.drop i)).1) else ([], 8)) := by
  obtain ⟨n1, g1⟩ := setF_ok ha
  obtain ⟨n2, g2⟩ := setF_ok hb
  intro d
  induction d with
  | zero =>
    intro i acc hd hacc
    have hil : i * b.length ≤ 200 * 200 := Nat.mul_le_mul (by omega) n2
    have hal := hacc.1
    refine Kit.Ev.up ?_
    simp only [spec_l4Join.l0]
    refine Kit.Ev.neg (by omega) ?_
    rw [List.drop_eq_nil_of_le (by omega)]
    have ej : joinAll key.toNat b acc [] = (acc, true) := rfl
    rw [ej, if_pos rfl]
    refine Kit.Ev.ite (fun h => ?_) (fun h => ?_)
    · rw [if_pos (show 800 < acc.length by omega)]; exact Kit.Ev.const rfl
    · rw [if_neg (show ¬ 800 < acc.length by omega)]
      exact Kit.Ev.then (l2Set_ev acc (JOk.fine ⟨by omega, hacc.2⟩)) (Kit.Ev.const rfl)
  | succ d ih =>
    intro i acc hd hacc
    have hi : i < a.length := by omega
    rw [rdE_drop (xs := a) (i := i) hi]
    unfold joinAll
    refine Kit.Ev.up ?_
    simp only [spec_l4Join.l0]
    refine Kit.Ev.pos (by omega) ?_
    refine (specJoin_l1 key hk a b ha hb la lb i hi (fun acc' h' => ih (i + 1) acc' (by omega) h') b.length 0 acc (by omega) hacc).eq ?_
    rw [List.drop_zero]
    by_cases h1 : (joinRow key.toNat (rd_T42 a (i : Int)) acc b).2 = true
    · simp only [if_pos h1]
    · simp only [if_neg h1, Bool.false_eq_true, if_false]
theorem specJoinL_ev (key : Int) (hk : 1 ≤ key ∧ key ≤ 4) (a b : List S42) (ha : setF a = 0) (hb : setF b = 0) (la : longB key a = true) (lb : longB key b = true) : Ev (fun k => spec_l4Join.f k a b key) (if (joinAll key.toNat b [] a).2 = true then (if 800 < (joinAll key.toNat b [] a).1.length then ([], 2) else sumF (joinAll key.toNat b [] a).1) else ([], 8)) := by
  unfold spec_l4Join.f
  exact specJoin_l0 key hk a b ha hb la lb a.length 0 [] (by omega) ⟨by simp, by simp⟩
theorem specWide_l1 (key : Int) (hk : 1 ≤ key ∧ key ≤ 4) (a b : List S42) (ha : setF a = 0) (hb : setF b = 0) (i : Nat) (hi : i < a.length) {r : Int × List S42} (next : Ev (fun k => spec_JoinSets.l0 k a b key ((i + 1 : Nat) : Int)) r) :
    ∀ (d j : Nat), j + d = b.length → Ev (fun k => spec_JoinSets.l1 k a b key (i : Int) (j : Int)) (if wide1 key (rd_T42 a (i : Int)) (b.drop j) = true then (2, []) else r) := by
  obtain ⟨n1, g1⟩ := setF_ok ha
  obtain ⟨n2, g2⟩ := setF_ok hb
  have hra := setF_len ha _ (rdE_mem (xs := a) (i := i) hi)
  intro d
  induction d with
  | zero =>
    intro j hd
    refine Kit.Ev.up ?_
    simp only [spec_JoinSets.l1]
    refine Kit.Ev.neg (by omega) ?_
    rw [w64n (n := a.length) (by omega) (by omega), List.drop_eq_nil_of_le (show b.length ≤ j by omega)]
    exact next
  | succ d ih =>
    intro j hd
    have hj : j < b.length := by omega
    have hrb := setF_len hb _ (rdE_mem (xs := b) (i := j) hj)
    rw [rdE_drop (xs := b) (i := j) hj]
    refine Kit.Ev.up ?_
    simp only [spec_JoinSets.l1]
    rw [w64n (n := b.length) (by omega) (by omega), Kit.w64 (x := ((rd_T42 a (i : Int)).f0.length : Int) + ((rd_T42 b (j : Int)).f0.length : Int)) (by omega) (by omega), Kit.w64 (by omega) (by omega)]
    refine Kit.Ev.pos (by omega) (Kit.Ev.pos (by omega) (Kit.Ev.pos (by omega) (Kit.Ev.pos (by omega) ?_)))
    have ew : wide1 key (rd_T42 a (i : Int)) (rd_T42 b (j : Int) :: b.drop (j + 1)) = (decide (((rd_T42 a (i : Int)).f0.length : Int) + ((rd_T42 b (j : Int)).f0.length : Int) - key > 4) || wide1 key (rd_T42 a (i : Int)) (b.drop (j + 1))) := rfl
    rw [ew]
    by_cases h : ((rd_T42 a (i : Int)).f0.length : Int) + ((rd_T42 b (j : Int)).f0.length : Int) - key > 4
    · rw [decide_eq_true h, Bool.true_or, if_pos rfl]
      exact Kit.Ev.pos h (Kit.Ev.const rfl)
    · rw [decide_eq_false h, Bool.false_or]
      exact Kit.Ev.neg h (ih (j + 1) (by omega))
theorem specWide_l0 (key : Int) (hk : 1 ≤ key ∧ key ≤ 4) (a b : List S42) (ha : setF a = 0) (hb : setF b = 0) (la : longB key a = true) (lb : longB key b = true) : ∀ (d i : Nat), i + d = a.length →
    Ev (fun k => spec_JoinSets.l0 k a b key (i : Int)) (if wideB key (a.drop i) b = true then (2, []) else joinR (joinAll key.toNat b [] a)) := by
  obtain ⟨n1, g1⟩ := setF_ok ha
  intro d
  induction d with
  | zero =>
    intro i hd
    refine Kit.Ev.up ?_
    simp only [spec_JoinSets.l0]
    refine Kit.Ev.neg (by omega) ?_
    rw [List.drop_eq_nil_of_le (by omega)]
    refine Kit.Ev.then (specJoinL_ev key hk a b ha hb la lb) (Kit.Ev.const ?_)
    unfold joinR
    have e : wideB key [] b = false := rfl
    rw [e]
    generalize joinAll key.toNat b [] a = p
    simp only [Bool.false_eq_true, if_false]
    by_cases h1 : p.2 = true
    · simp only [if_pos h1]
      by_cases h2 : 800 < p.1.length
      · simp only [if_pos h2]
      · simp only [if_neg h2]
    · simp only [if_neg h1]
  | succ d ih =>
    intro i hd
    have hi : i < a.length := by omega
    rw [rdE_drop (xs := a) (i := i) hi]
    refine Kit.Ev.up ?_
    simp only [spec_JoinSets.l0]
    refine Kit.Ev.pos (by omega) ?_
    refine (specWide_l1 key hk a b ha hb i hi (ih (i + 1) (by omega)) b.length 0 (by omega)).eq ?_
    rw [List.drop_zero]
    have ew : wideB key (rd_T42 a (i : Int) :: a.drop (i + 1)) b = (wide1 key (rd_T42 a (i : Int)) b || wideB key (a.drop (i + 1)) b) := rfl
    rw [ew]
    by_cases h : wide1 key (rd_T42 a (i : Int)) b = true
    · rw [h, Bool.true_or, if_pos rfl, if_pos rfl]
    · simp only [Bool.not_eq_true] at h
      rw [h, Bool.false_or, if_neg (by decide)]
theorem specJoinS_ev (key : Int) (a b : List S42) (hxa : Fine a) (hxb : Fine b) : Ev (fun k => spec_JoinSets.f k a b key) (joinF key a b) := by
  unfold spec_JoinSets.f joinF
  refine Kit.Ev.call (specIn_eq key 1 4) ?_
  by_cases hk : 1 ≤ key ∧ key ≤ 4
  · simp only [if_pos hk]
    refine Kit.Ev.pos (by simp [hk]) ?_
    refine Kit.Ev.then (specSet_ev a hxa) ?_
    by_cases ha : setF a = 0
    · simp only [if_pos ha]
      refine Kit.Ev.then (specSet_ev b hxb) ?_
      by_cases hb : setF b = 0
      · simp only [if_pos hb]
        have tail : ∀ t : Bool, t = !(longB key a && longB key b) → Ev (fun k => spec_JoinSets.j0 k a b key t) (if (longB key a && longB key b) = true then (if wideB key a b = true then (2, []) else joinR (joinAll key.toNat b [] a)) else (1, [])) := by
          intro t ht
          refine Kit.Ev.up ?_
          simp only [spec_JoinSets.j0]
          by_cases h : (longB key a && longB key b) = true
          · rw [h] at ht
            rw [if_pos h]
            obtain ⟨la, lb⟩ : longB key a = true ∧ longB key b = true := by simpa using h
            refine Kit.Ev.neg (by rw [ht]; decide) ?_
            exact (specWide_l0 key hk a b ha hb la lb a.length 0 (by omega)).eq (by rw [List.drop_zero])
          · simp only [Bool.not_eq_true] at h
            rw [h] at ht
            rw [h]
            exact Kit.Ev.pos (by rw [ht]; rfl) (Kit.Ev.const rfl)
        refine Kit.Ev.then (specShort_ev key a hxa.1) ?_
        by_cases la : longB key a = true
        · refine Kit.Ev.neg (by rw [la]; decide) (Kit.Ev.then (specShort_ev key b hxb.1) ?_)
          exact tail _ (by rw [la, Bool.true_and])
        · simp only [Bool.not_eq_true] at la
          refine Kit.Ev.pos (by rw [la]; rfl) ?_
          exact tail _ (by rw [la]; rfl)
      · simp only [if_neg hb]; exact Kit.Ev.const rfl
    · simp only [if_neg ha]; exact Kit.Ev.const rfl
  · simp only [if_neg hk]
    exact Kit.Ev.neg (by simp [hk]) (Kit.Ev.const rfl)
theorem longest_l0 (xs : List S42) (hx : Fine xs) : ∀ (d i : Nat) (m : Int), i + d = xs.length → Ev (fun k => impl_longest.l0 k m xs (xs.length : Int) (i : Int)) (maxL (xs.drop i) m) := by
  have hl := hx.1
  intro d
  induction d with
  | zero =>
    intro i m hd
    refine Kit.Ev.up ?_
    simp only [impl_longest.l0]
    refine Kit.Ev.neg (by omega) (Kit.Ev.const ?_)
    rw [List.drop_eq_nil_of_le (by omega)]; rfl
  | succ d ih =>
    intro i m hd
    rw [rdE_drop (xs := xs) (i := i) (by omega)]
    unfold maxL
    refine Kit.Ev.up ?_
    simp only [impl_longest.l0, impl_size_int64.f, Option.bind_some]
    rw [w64n (n := xs.length) (by omega) (by omega)]
    refine Kit.Ev.pos (by omega) (Kit.Ev.pos (by omega) (Kit.Ev.pos (by omega) ?_))
    exact ih (i + 1) _ (by omega)
theorem longest_ev (xs : List S42) (hx : Fine xs) : Ev (fun k => impl_longest.f k xs) (maxL xs 0) := by
  unfold impl_longest.f
  exact (longest_l0 xs hx xs.length 0 0 (by omega)).eq (by rw [List.drop_zero])
theorem implJoin_l1 (key : Int) (hk : 1 ≤ key ∧ key ≤ 4) (a b : List S42) (ha : setF a = 0) (hb : setF b = 0) (la : longB key a = true) (lb : longB key b = true) (i : Nat) (hi : i < a.length)
    (next : ∀ acc : List S42, JOk ((i + 1) * b.length) acc → Ev (fun k => impl_JoinSets.l0 k b key acc a (a.length : Int) ((i + 1 : Nat) : Int)) (joinR (joinAll key.toNat b acc (a.drop (i + 1))))) :
    ∀ (d j : Nat) (acc : List S42), j + d = b.length → JOk (i * b.length + j) acc →
      Ev (fun k => impl_JoinSets.l1 k b key acc a (a.length : Int) (i : Int) b (b.length : Int) (j : Int) (rd_T42 a (i : Int)).f0 (rd_T42 a (i : Int)).f1) (if (joinRow key.toNat (rd_T42 a (i : Int)) acc (b.drop j)).2 = true then joinR (joinAll key.toNat b (joinRow key.toNat (rd_T42 a (i : Int)) acc (b.drop j)).1 (a.drop (i + 1))) else (8, [])) := by
  obtain ⟨n1, g1⟩ := setF_ok ha
  obtain ⟨n2, g2⟩ := setF_ok hb
  have hma := rdE_mem (xs := a) (i := i) hi
  have hra := setF_len ha _ hma
  have hwa := (g1 _ hma).2.1
  have hla : key ≤ ((rd_T42 a (i : Int)).f0.length : Int) := by
    have := List.all_eq_true.mp la _ hma
    simpa using this
  intro d
  induction d with
  | zero =>
    intro j acc hd hacc
    refine Kit.Ev.up ?_
    simp only [impl_JoinSets.l1]
    refine Kit.Ev.neg (by omega) ?_
    rw [w64n (n := a.length) (by omega) (by omega), List.drop_eq_nil_of_le (show b.length ≤ j by omega)]
    simp only [joinRow, if_true]
    refine next acc ⟨?_, hacc.2⟩
    have := hacc.1
    rw [Nat.succ_mul]; omega
  | succ d ih =>
    intro j acc hd hacc
    have hj : j < b.length := by omega
    have hmb := rdE_mem (xs := b) (i := j) hj
    have hrb := setF_len hb _ hmb
    have hwb := (g2 _ hmb).2.1
    have hlb : key ≤ ((rd_T42 b (j : Int)).f0.length : Int) := by
      have := List.all_eq_true.mp lb _ hmb
      simpa using this
    have hil : i * b.length ≤ 200 * 200 := Nat.mul_le_mul (by omega) n2
    have hal := hacc.1
    rw [rdE_drop (xs := b) (i := j) hj]
    unfold joinRow
    refine Kit.Ev.up ?_
    simp only [impl_JoinSets.l1]
    refine Kit.Ev.pos (by omega) (Kit.Ev.pos (by omega) (Kit.Ev.pos (by omega) (Kit.Ev.pos (by omega) (Kit.Ev.pos (by omega) (Kit.Ev.pos (by omega) (Kit.Ev.then (slicesEq_ev _ _ (by rw [List.length_take]; omega)) ?_))))))
    rw [w64n (n := b.length) (by omega) (by omega)]
    by_cases h1 : (rd_T42 a (i : Int)).f0.take key.toNat = (rd_T42 b (j : Int)).f0.take key.toNat
    · simp only [if_pos h1]
      refine Kit.Ev.pos (decide_eq_true h1) (Kit.Ev.then (implMulP_ev _ _ hwa hwb) ?_)
      by_cases h2 : (mulP (rd_T42 a (i : Int)).f1 (rd_T42 b (j : Int)).f1).2 = true
      · simp only [if_pos h2]
        have hc : cat2.f (rd_T42 a (i : Int)).f0 ((rd_T42 b (j : Int)).f0.drop key.toNat) = some ((rd_T42 a (i : Int)).f0 ++ (rd_T42 b (j : Int)).f0.drop key.toNat) := by
          unfold cat2.f
          rw [if_pos (by rw [List.length_drop]; omega)]
        refine Kit.Ev.call hc (Kit.Ev.pos (by omega) ?_)
        refine ih (j + 1) _ (by omega) ⟨by rw [List.length_append]; simp only [List.length_cons, List.length_nil]; omega, fun z hz => ?_⟩
        rcases List.mem_append.mp hz with hz | hz
        · exact hacc.2 z hz
        · rw [List.mem_singleton.mp hz]
          refine ⟨?_, mulP_small ..⟩
          rw [List.length_append, List.length_drop]; omega
      · simp only [if_neg h2]
        exact (Kit.Ev.const rfl).eq (by simp)
    · simp only [if_neg h1]
      refine Kit.Ev.neg (by simpa using h1) ?_
      exact ih (j + 1) acc (by omega) ⟨by omega, hacc.2⟩
theorem implJoin_l0 (key : Int) (hk : 1 ≤ key ∧ key ≤ 4) (a b : List S42) (ha : setF a = 0) (hb : setF b = 0) (la : longB key a = true) (lb : longB key b = true) : ∀ (d i : Nat) (acc : List S42), i + d = a.length → JOk (i * b.length) acc →
    Ev (fun k => impl_JoinSets.l0 k b key acc a (a.length : Int) (i : Int)) (joinR (joinAll key.toNat b acc (a.drop i))) := by
  obtain ⟨n1, g1⟩ := setF_ok ha
  obtain ⟨n2, g2⟩ := setF_ok hb
  intro d
  induction d with
  | zero =>
    intro i acc hd hacc
    have hil : i * b.length ≤ 200 * 200 := Nat.mul_le_mul (by omega) n2
    have hal := hacc.1
    have hf : JOk 40000 acc := ⟨by omega, hacc.2⟩
    refine Kit.Ev.up ?_
    simp only [impl_JoinSets.l0]
    refine Kit.Ev.neg (by omega) ?_
    rw [List.drop_eq_nil_of_le (by omega)]
    have ej : joinAll key.toNat b acc [] = (acc, true) := rfl
    rw [ej]
    unfold joinR
    rw [if_pos rfl]
    refine Kit.Ev.ite (fun h => ?_) (fun h => ?_)
    · rw [if_pos (show 800 < acc.length by omega)]; exact Kit.Ev.const rfl
    · rw [if_neg (show ¬ 800 < acc.length by omega)]
      exact Kit.Ev.call (summed_eq acc hf.fine (fun x hx => by have := (hf.2 x hx).2; omega)) (Kit.Ev.const rfl)
  | succ d ih =>
    intro i acc hd hacc
    have hi : i < a.length := by omega
    rw [rdE_drop (xs := a) (i := i) hi]
    unfold joinAll
    refine Kit.Ev.up ?_
    simp only [impl_JoinSets.l0]
    refine Kit.Ev.pos (by omega) (Kit.Ev.pos (by omega) (Kit.Ev.pos (by omega) ?_))
    refine (implJoin_l1 key hk a b ha hb la lb i hi (fun acc' h' => ih (i + 1) acc' (by omega) h') b.length 0 acc (by omega) hacc).eq ?_
    rw [List.drop_zero]
    by_cases h1 : (joinRow key.toNat (rd_T42 a (i : Int)) acc b).2 = true
    · simp only [if_pos h1]
    · simp only [if_neg h1, joinR, Bool.false_eq_true, if_false]
theorem implJoinS_ev (key : Int) (a b : List S42) (hxa : Fine a) (hxb : Fine b) : Ev (fun k => impl_JoinSets.f k a b key) (joinF key a b) := by
  unfold impl_JoinSets.f joinF
  refine Kit.Ev.call (implIn_eq key 1 4) ?_
  by_cases hk : 1 ≤ key ∧ key ≤ 4
  · simp only [if_pos hk]
    refine Kit.Ev.pos (by simp [hk]) (Kit.Ev.then (setsFault_ev a b hxa hxb) ?_)
    by_cases h0 : (if setF a = 0 then setF b else setF a) = 0
    · obtain ⟨ha, hb⟩ := two_zero h0
      simp only [if_pos h0]
      obtain ⟨n1, g1⟩ := setF_ok ha
      obtain ⟨n2, g2⟩ := setF_ok hb
      have tail : ∀ t : Bool, t = !(longB key a && longB key b) → Ev (fun k => impl_JoinSets.j0 k a b key t) (if (longB key a && longB key b) = true then (if wideB key a b = true then (2, []) else joinR (joinAll key.toNat b [] a)) else (1, [])) := by
        intro t ht
        refine Kit.Ev.up ?_
        simp only [impl_JoinSets.j0]
        by_cases h : (longB key a && longB key b) = true
        · rw [h] at ht
          rw [if_pos h]
          obtain ⟨la, lb⟩ : longB key a = true ∧ longB key b = true := by simpa using h
          have J : Ev (fun k => impl_JoinSets.j1 k a b key) (joinR (joinAll key.toNat b [] a)) := by
            refine Kit.Ev.up ?_
            simp only [impl_JoinSets.j1]
            exact (implJoin_l0 key hk a b ha hb la lb a.length 0 [] (by omega) ⟨by simp, by simp⟩).eq (by rw [List.drop_zero])
          refine Kit.Ev.neg (by rw [ht]; decide) ?_
          by_cases ea : a = []
          · subst ea
            have e : wideB key [] b = false := rfl
            rw [e, if_neg (by decide)]
            exact Kit.Ev.neg (by simp) J
          · have la0 : (a.length : Int) > 0 := by have := List.length_pos_iff.mpr ea; omega
            refine Kit.Ev.pos la0 ?_
            by_cases eb : b = []
            · subst eb
              have e : wideB key a [] = false := by unfold wideB wide1; simp
              rw [e, if_neg (by decide)]
              exact Kit.Ev.neg (by simp) J
            · have lb0 : (b.length : Int) > 0 := by have := List.length_pos_iff.mpr eb; omega
              have b1 := (maxL_le a 0 4).mpr ⟨by omega, fun x hx => by have := setF_len ha x hx; omega⟩
              have b2 := (maxL_le b 0 4).mpr ⟨by omega, fun x hx => by have := setF_len hb x hx; omega⟩
              have c1 := ((maxL_le a 0 (maxL a 0)).mp (by omega)).1
              have c2 := ((maxL_le b 0 (maxL b 0)).mp (by omega)).1
              refine Kit.Ev.pos lb0 (Kit.Ev.then (longest_ev a hxa) (Kit.Ev.then (longest_ev b hxb) ?_))
              rw [Kit.w64 (x := maxL a 0 + maxL b 0) (by omega) (by omega), Kit.w64 (x := 4 + key) (by omega) (by omega), wideB_max ea eb]
              by_cases hw : 4 + key < maxL a 0 + maxL b 0
              · rw [decide_eq_true hw, if_pos rfl]; exact Kit.Ev.pos hw (Kit.Ev.const rfl)
              · rw [decide_eq_false hw, if_neg (by decide)]; exact Kit.Ev.neg hw J
        · simp only [Bool.not_eq_true] at h
          rw [h] at ht
          rw [h]
          exact Kit.Ev.pos (by rw [ht]; rfl) (Kit.Ev.const rfl)
      refine Kit.Ev.then (areLong_ev key a hxa.1) ?_
      by_cases la : longB key a = true
      · refine Kit.Ev.pos la (Kit.Ev.then (areLong_ev key b hxb.1) ?_)
        exact tail _ (by rw [la, Bool.true_and])
      · simp only [Bool.not_eq_true] at la
        refine Kit.Ev.neg (by rw [la]; decide) ?_
        exact tail _ (by rw [la]; rfl)
    · simp only [if_neg h0]; exact Kit.Ev.const rfl
  · simp only [if_neg hk]
    exact Kit.Ev.neg (by simp [hk]) (Kit.Ev.const rfl)
/-- The weight that a list gives to a row. -/
def wAt (r : List Int) : List S42 → Int
  | [] => 0
  | x :: xs => (if x.f0 = r then x.f1 else 0) + wAt r xs
/-- All weights put together. -/
def totE : List S42 → Int
  | [] => 0
  | x :: xs => x.f1 + totE xs
def Rows (l : List S42) (r : List Int) : Prop := ∃ y ∈ l, y.f0 = r
theorem rows_nil (r : List Int) : ¬ Rows [] r := fun ⟨_, h, _⟩ => by cases h
theorem rows_cons (x : S42) (xs : List S42) (r : List Int) : Rows (x :: xs) r ↔ x.f0 = r ∨ Rows xs r := by
  unfold Rows
  constructor
  · rintro ⟨y, hy, e⟩
    rcases List.mem_cons.1 hy with rfl | hy
    · exact .inl e
    · exact .inr ⟨y, hy, e⟩
  · rintro (e | ⟨y, hy, e⟩)
    · exact ⟨x, List.mem_cons_self .., e⟩
    · exact ⟨y, List.mem_cons_of_mem _ hy, e⟩
theorem rows_app (a b : List S42) (r : List Int) : Rows (a ++ b) r ↔ Rows a r ∨ Rows b r := by
  unfold Rows
  constructor
  · rintro ⟨y, hy, e⟩
    rcases List.mem_append.1 hy with hy | hy
    · exact .inl ⟨y, hy, e⟩
    · exact .inr ⟨y, hy, e⟩
  · rintro (⟨y, hy, e⟩ | ⟨y, hy, e⟩)
    · exact ⟨y, List.mem_append_left _ hy, e⟩
    · exact ⟨y, List.mem_append_right _ hy, e⟩
theorem wAt_app (r : List Int) : ∀ a b : List S42, wAt r (a ++ b) = wAt r a + wAt r b
  | [], b => by simp [wAt]
  | x :: xs, b => by
    rw [List.cons_append]
    simp only [wAt]
    rw [wAt_app r xs b]
    omega
theorem totE_app : ∀ a b : List S42, totE (a ++ b) = totE a + totE b
  | [], b => by simp [totE]
  | x :: xs, b => by
    rw [List.cons_append]
    simp only [totE]
    rw [totE_app xs b]
    omega
theorem wAt_neg (r : List Int) : ∀ a : List S42, wAt r (a.map negE) = - wAt r a
  | [] => by simp [wAt]
  | x :: xs => by
    have ih := wAt_neg r xs
    have e : wAt r ((x :: xs).map negE) = (if x.f0 = r then -x.f1 else 0) + wAt r (xs.map negE) := rfl
    have e2 : wAt r (x :: xs) = (if x.f0 = r then x.f1 else 0) + wAt r xs := rfl
    rw [e, e2, ih]
    by_cases h : x.f0 = r
    · rw [if_pos h, if_pos h]; omega
    · rw [if_neg h, if_neg h]; omega
theorem wAt_none (r : List Int) : ∀ a : List S42, ¬ Rows a r → wAt r a = 0
  | [], _ => rfl
  | x :: xs, h => by
    rw [rows_cons] at h
    simp only [wAt]
    rw [if_neg (fun e => h (.inl e)), wAt_none r xs (fun e => h (.inr e))]
    rfl
theorem srt_head {x : S42} {xs : List S42} (h : Srt (x :: xs)) : ¬ Rows xs x.f0 := by
  rintro ⟨y, hy, e⟩
  have := (List.pairwise_cons.1 h).1 y hy
  rw [e, (cmpR_zero _ _).mpr rfl] at this
  omega
theorem wAt_mem : ∀ {a : List S42}, Srt a → ∀ {x : S42}, x ∈ a → wAt x.f0 a = x.f1
  | [], _, _, h => by cases h
  | y :: ys, hs, x, hx => by
    simp only [wAt]
    have h1 := srt_head hs
    rcases List.mem_cons.1 hx with rfl | hx
    · rw [if_pos rfl, wAt_none _ _ h1]; omega
    · have hne : ¬ y.f0 = x.f0 := fun e => h1 ⟨x, hx, e.symm⟩
      rw [if_neg hne, wAt_mem (List.pairwise_cons.1 hs).2 hx]; omega
/-- A sorted list is known by its rows and their weights. -/
theorem srt_canon : ∀ {a b : List S42}, Srt a → Srt b → (∀ r, Rows a r ↔ Rows b r) → (∀ r, wAt r a = wAt r b) → a = b
  | [], [], _, _, _, _ => rfl
  | [], y :: ys, _, _, h, _ => absurd ((h y.f0).mpr ⟨y, List.mem_cons_self .., rfl⟩) (rows_nil _)
  | x :: xs, [], _, _, h, _ => absurd ((h x.f0).mp ⟨x, List.mem_cons_self .., rfl⟩) (rows_nil _)
  | x :: xs, y :: ys, ha, hb, h, hw => by
    have ha' := List.pairwise_cons.1 ha
    have hb' := List.pairwise_cons.1 hb
    have e0 : x.f0 = y.f0 := by
      have h1 := (h x.f0).mp ⟨x, List.mem_cons_self .., rfl⟩
      have h2 := (h y.f0).mpr ⟨y, List.mem_cons_self .., rfl⟩
      rw [rows_cons] at h1 h2
      rcases h1 with h1 | ⟨z, hz, ez⟩
      · exact h1.symm
      · rcases h2 with h2 | ⟨u, hu, eu⟩
        · exact h2
        · have c1 := hb'.1 z hz
          have c2 := ha'.1 u hu
          rw [ez] at c1
          rw [eu] at c2
          have := cmpR_anti x.f0 y.f0
          omega
    have e1 : x.f1 = y.f1 := by
      have := hw x.f0
      rw [wAt_mem ha (List.mem_cons_self ..), e0, wAt_mem hb (List.mem_cons_self ..)] at this
      exact this
    have ex : x = y := by
      obtain ⟨x0, x1⟩ := x
      obtain ⟨y0, y1⟩ := y
      simp only at e0 e1
      rw [e0, e1]
    subst ex
    have ht : xs = ys := by
      refine srt_canon ha'.2 hb'.2 (fun r => ?_) (fun r => ?_)
      · have := h r
        rw [rows_cons, rows_cons] at this
        constructor
        · intro hr
          rcases this.mp (.inr hr) with e | e
          · exact absurd (e ▸ hr) (srt_head ha)
          · exact e
        · intro hr
          rcases this.mpr (.inr hr) with e | e
          · exact absurd (e ▸ hr) (srt_head hb)
          · exact e
      · have := hw r
        simp only [wAt] at this
        omega
    rw [ht]
theorem putE_all {acc : List S42} {e : S42} (hs : Srt acc) (hb : ∀ y ∈ acc, -9223372036854775808 ≤ y.f1 + e.f1 ∧ y.f1 + e.f1 ≤ 9223372036854775807) :
    Srt (putE acc e) ∧ (∀ r, wAt r (putE acc e) = wAt r acc + (if e.f0 = r then e.f1 else 0)) ∧ (∀ r, Rows (putE acc e) r ↔ Rows acc r ∨ e.f0 = r) ∧ totE (putE acc e) = totE acc + e.f1 := by
  induction acc with
  | nil =>
    unfold putE
    refine ⟨List.pairwise_singleton .., fun r => ?_, fun r => ?_, ?_⟩
    · simp [wAt]
    · rw [rows_cons]
      exact ⟨fun h => h.elim .inr (fun q => absurd q (rows_nil _)), fun h => h.elim (fun q => absurd q (rows_nil _)) .inl⟩
    · simp [totE]
  | cons x xs ih =>
    have hs' := List.pairwise_cons.1 hs
    obtain ⟨i1, i2, i3, i4⟩ := ih hs'.2 (fun y hy => hb y (List.mem_cons_of_mem _ hy))
    unfold putE
    by_cases h1 : cmpR x.f0 e.f0 < 0
    · rw [if_pos h1]
      refine ⟨List.pairwise_cons.2 ⟨fun y hy => ?_, i1⟩, fun r => ?_, fun r => ?_, ?_⟩
      · rcases (i3 y.f0).mp ⟨y, hy, rfl⟩ with ⟨z, hz, ez⟩ | q
        · rw [← ez]; exact hs'.1 z hz
        · rw [← q]; exact h1
      · simp only [wAt]; rw [i2 r]; omega
      · rw [rows_cons, rows_cons, i3 r, or_assoc]
      · simp only [totE]; rw [i4]; omega
    · rw [if_neg h1]
      by_cases h2 : cmpR x.f0 e.f0 = 0
      · rw [if_pos h2]
        have e0 := (cmpR_zero _ _).mp h2
        obtain ⟨b1, b2⟩ := hb x (List.mem_cons_self ..)
        have hw : wrap64 (x.f1 + e.f1) = x.f1 + e.f1 := Kit.w64 b1 b2
        rw [hw]
        refine ⟨List.pairwise_cons.2 ⟨fun y hy => hs'.1 y hy, hs'.2⟩, fun r => ?_, fun r => ?_, ?_⟩
        · have w1 : wAt r ((⟨x.f0, x.f1 + e.f1⟩ : S42) :: xs) = (if x.f0 = r then x.f1 + e.f1 else 0) + wAt r xs := rfl
          have w2 : wAt r (x :: xs) = (if x.f0 = r then x.f1 else 0) + wAt r xs := rfl
          rw [w1, w2, ← e0]
          by_cases c : x.f0 = r
          · rw [if_pos c, if_pos c, if_pos c]; omega
          · rw [if_neg c, if_neg c, if_neg c]; omega
        · rw [rows_cons, rows_cons, ← e0]
          constructor
          · intro h; exact .inl h
          · rintro (h | h)
            · exact h
            · exact .inl h
        · simp only [totE]; omega
      · rw [if_neg h2]
        have h3 : cmpR e.f0 x.f0 < 0 := by
          have := cmpR_anti x.f0 e.f0
          have := cmpR_in x.f0 e.f0
          omega
        refine ⟨List.pairwise_cons.2 ⟨fun y hy => ?_, hs⟩, fun r => ?_, fun r => ?_, ?_⟩
        · rcases List.mem_cons.1 hy with rfl | hy
          · exact h3
          · exact cmpR_trans _ _ _ h3 (hs'.1 y hy)
        · simp only [wAt]; omega
        · rw [rows_cons, or_comm]
        · simp only [totE]; omega
theorem putE_bnd {acc : List S42} {e : S42} {B C : Int} (hB : ∀ y ∈ acc, -B ≤ y.f1 ∧ y.f1 ≤ B) (hC : -C ≤ e.f1 ∧ e.f1 ≤ C) (h0 : 0 ≤ B) (h1 : 0 ≤ C) (h2 : B + C ≤ 9223372036854775807) : ∀ y ∈ putE acc e, -(B + C) ≤ y.f1 ∧ y.f1 ≤ B + C := by
  induction acc with
  | nil =>
    intro y hy
    unfold putE at hy
    rw [List.mem_singleton.1 hy]; omega
  | cons x xs ih =>
    have hx := hB x (List.mem_cons_self ..)
    have ih' := ih (fun y hy => hB y (List.mem_cons_of_mem _ hy))
    intro y hy
    unfold putE at hy
    split at hy
    · rcases List.mem_cons.1 hy with rfl | hy
      · omega
      · exact ih' y hy
    · split at hy
      · rcases List.mem_cons.1 hy with rfl | hy
        · simp only
          rw [Kit.w64 (by omega) (by omega)]; omega
        · have := hB y (List.mem_cons_of_mem _ hy); omega
      · rcases List.mem_cons.1 hy with rfl | hy
        · omega
        · have := hB y hy; omega
/-- Entries put together one by one: sorted, and every row has all its weight. -/
theorem foldE_all : ∀ (l acc : List S42) (B : Int), Srt acc → (∀ y ∈ acc, -B ≤ y.f1 ∧ y.f1 ≤ B) → (∀ x ∈ l, -1000000000000 ≤ x.f1 ∧ x.f1 ≤ 1000000000000) → 0 ≤ B → B + l.length * 1000000000000 ≤ 9000000000000000000 →
    Srt (l.foldl putE acc) ∧ (∀ r, wAt r (l.foldl putE acc) = wAt r acc + wAt r l) ∧ (∀ r, Rows (l.foldl putE acc) r ↔ Rows acc r ∨ Rows l r) ∧ totE (l.foldl putE acc) = totE acc + totE l
  | [], acc, B, hs, hb, _, _, _ => by
    refine ⟨hs, fun r => ?_, fun r => ?_, ?_⟩
    · simp [wAt]
    · exact ⟨.inl, fun h => h.elim id (fun q => absurd q (rows_nil _))⟩
    · simp [totE]
  | x :: xs, acc, B, hs, hb, hl, h0, h1 => by
    have hx := hl x (List.mem_cons_self ..)
    rw [List.length_cons] at h1
    obtain ⟨p1, p2, p3, p4⟩ := putE_all (e := x) hs (fun y hy => by have := hb y hy; omega)
    have p5 := putE_bnd hb hx h0 (by omega) (by omega)
    obtain ⟨q1, q2, q3, q4⟩ := foldE_all xs (putE acc x) (B + 1000000000000) p1 p5 (fun y hy => hl y (List.mem_cons_of_mem _ hy)) (by omega) (by omega)
    rw [List.foldl_cons]
    refine ⟨q1, fun r => ?_, fun r => ?_, ?_⟩
    · rw [q2 r, p2 r]; simp only [wAt]; omega
    · rw [q3 r, p3 r, rows_cons, or_assoc]
    · rw [q4, p4]; simp only [totE]; omega
/-- The bounds of what is put together. -/
def Small (l : List S42) : Prop := l.length ≤ 1000000 ∧ ∀ x ∈ l, -1000000000000 ≤ x.f1 ∧ x.f1 ≤ 1000000000000
theorem fold_all {l : List S42} (h : Small l) : Srt (l.foldl putE []) ∧ (∀ r, wAt r (l.foldl putE []) = wAt r l) ∧ (∀ r, Rows (l.foldl putE []) r ↔ Rows l r) ∧ totE (l.foldl putE []) = totE l := by
  have hl := h.1
  obtain ⟨q1, q2, q3, q4⟩ := foldE_all l [] 0 List.Pairwise.nil (fun y hy => by cases hy) h.2 (by omega) (by omega)
  refine ⟨q1, fun r => ?_, fun r => ?_, ?_⟩
  · rw [q2 r]; simp [wAt]
  · rw [q3 r]; exact ⟨fun h => h.elim (fun q => absurd q (rows_nil _)) id, .inr⟩
  · rw [q4]; simp [totE]
theorem fold_swap {a b : List S42} (h : Small (a ++ b)) : (a ++ b).foldl putE [] = (b ++ a).foldl putE [] := by
  have h' : Small (b ++ a) := ⟨by have := h.1; rw [List.length_append] at this ⊢; omega, fun x hx => h.2 x (by rw [List.mem_append] at hx ⊢; exact hx.symm)⟩
  obtain ⟨p1, p2, p3, _⟩ := fold_all h
  obtain ⟨q1, q2, q3, _⟩ := fold_all h'
  refine srt_canon p1 q1 (fun r => ?_) (fun r => ?_)
  · rw [p3 r, q3 r, rows_app, rows_app, or_comm]
  · rw [p2 r, q2 r, wAt_app, wAt_app]; omega
theorem setG_of : ∀ (p : Option (List Int)) (l : List S42), Srt l → (∀ q, p = some q → ∀ x ∈ l, cmpR q x.f0 < 0) → (∀ x ∈ l, rowF x.f0 = 0 ∧ isW x.f1 = true ∧ x.f1 ≠ 0) → setG p l = 0
  | _, [], _, _, _ => by simp [setG]
  | p, x :: xs, hs, hp, h => by
    obtain ⟨h1, h2, h3⟩ := h x (List.mem_cons_self ..)
    have hs' := List.pairwise_cons.1 hs
    have ih := setG_of (some x.f0) xs hs'.2 (fun q e y hy => by cases e; exact hs'.1 y hy) (fun y hy => h y (List.mem_cons_of_mem _ hy))
    simp only [setG]
    rw [if_pos h1, if_pos ⟨h2, h3⟩]
    cases p with
    | none => exact ih
    | some q =>
      have := hp q rfl x (List.mem_cons_self ..)
      simp only
      rw [if_neg (by omega)]
      exact ih
theorem setF_of {l : List S42} (hn : l.length ≤ 200) (hs : Srt l) (h : ∀ x ∈ l, rowF x.f0 = 0 ∧ isW x.f1 = true ∧ x.f1 ≠ 0) : setF l = 0 := by
  unfold setF
  rw [if_neg (by omega)]
  exact setG_of none l hs (fun q e => by cases e) h
theorem wAt_filter (r : List Int) : ∀ l : List S42, wAt r (l.filter nzE) = wAt r l
  | [] => rfl
  | x :: xs => by
    have ih := wAt_filter r xs
    by_cases h : x.f1 = 0
    · rw [List.filter_cons_of_neg (by simp [nzE, h])]
      simp only [wAt]
      rw [ih, h]; split <;> omega
    · rw [List.filter_cons_of_pos (by simp [nzE, h])]
      simp only [wAt]
      rw [ih]
theorem totE_filter : ∀ l : List S42, totE (l.filter nzE) = totE l
  | [] => rfl
  | x :: xs => by
    have ih := totE_filter xs
    by_cases h : x.f1 = 0
    · rw [List.filter_cons_of_neg (by simp [nzE, h])]
      simp only [totE]
      rw [ih, h]; omega
    · rw [List.filter_cons_of_pos (by simp [nzE, h])]
      simp only [totE]
      rw [ih]
theorem small_set {l : List S42} (h : setF l = 0) : Small l := by
  obtain ⟨h1, h2⟩ := setF_ok h
  exact ⟨by omega, fun x hx => isW_in (h2 x hx).2.1⟩
theorem small_app {a b : List S42} (ha : setF a = 0) (hb : setF b = 0) : Small (a ++ b) := by
  obtain ⟨h1, h2⟩ := setF_ok ha
  obtain ⟨h3, h4⟩ := setF_ok hb
  refine ⟨by rw [List.length_append]; omega, fun x hx => ?_⟩
  rcases List.mem_append.1 hx with h | h
  · exact isW_in (h2 x h).2.1
  · exact isW_in (h4 x h).2.1
/-- What is put together without fault is a set with all the weights. -/
theorem sum_good {l : List S42} (h : Small l) (hr : ∀ x ∈ l, rowF x.f0 = 0) (h0 : (sumF l).2 = 0) : setF (sumF l).1 = 0 ∧ (∀ r, wAt r (sumF l).1 = wAt r l) ∧ totE (sumF l).1 = totE l := by
  obtain ⟨p1, p2, p3, p4⟩ := fold_all h
  rw [sumF_fin] at h0 ⊢
  unfold finE at h0 ⊢
  by_cases c1 : (l.foldl putE []).any badE = true
  · rw [if_pos c1] at h0; simp at h0
  · rw [if_neg c1] at h0 ⊢
    by_cases c2 : 200 < ((l.foldl putE []).filter nzE).length
    · rw [if_pos c2] at h0; simp at h0
    · rw [if_neg c2]
      refine ⟨setF_of (by simp only; omega) (p1.sublist List.filter_sublist) (fun x hx => ?_), fun r => ?_, ?_⟩
      · have hx' := List.mem_filter.1 hx
        obtain ⟨y, hy, ey⟩ := (p3 x.f0).mp ⟨x, hx'.1, rfl⟩
        refine ⟨by rw [← ey]; exact hr y hy, ?_, by simpa [nzE] using hx'.2⟩
        have : badE x ≠ true := fun e => c1 (List.any_eq_true.2 ⟨x, hx'.1, e⟩)
        simpa [badE] using this
      · simp only; rw [wAt_filter, p2 r]
      · simp only; rw [totE_filter, p4]
/-- A list that gives every row the weight that a set gives it, put together, is that set. -/
theorem sum_is {l c : List S42} (h : Small l) (hc : setF c = 0) (hw : ∀ r, wAt r l = wAt r c) : sumF l = (c, 0) := by
  obtain ⟨p1, p2, p3, _⟩ := fold_all h
  obtain ⟨n1, g1⟩ := setF_ok hc
  have hs := setF_srt hc
  have q : (l.foldl putE []).filter nzE = c := by
    refine srt_canon (p1.sublist List.filter_sublist) hs (fun r => ?_) (fun r => by rw [wAt_filter, p2 r, hw r])
    constructor
    · rintro ⟨y, hy, ey⟩
      have hy' := List.mem_filter.1 hy
      refine Classical.byContradiction fun hn => ?_
      have e1 := wAt_mem p1 hy'.1
      rw [p2, hw, ey, wAt_none _ _ hn] at e1
      have : y.f1 ≠ 0 := by simpa [nzE] using hy'.2
      omega
    · rintro ⟨y, hy, ey⟩
      have e1 := wAt_mem hs hy
      have hz := (g1 y hy).2.2
      refine Classical.byContradiction fun hn => ?_
      have e2 : wAt r ((l.foldl putE []).filter nzE) = 0 := wAt_none _ _ hn
      rw [wAt_filter, p2, hw, ← ey, e1] at e2
      exact hz e2
  have hb : ¬ (l.foldl putE []).any badE = true := by
    rw [List.any_eq_true]
    rintro ⟨y, hy, hy2⟩
    have e1 := wAt_mem p1 hy
    rw [p2, hw] at e1
    have : isW y.f1 = true := by
      by_cases hr : Rows c y.f0
      · obtain ⟨z, hz, ez⟩ := hr
        rw [← ez, wAt_mem hs hz] at e1
        rw [← e1]; exact (g1 z hz).2.1
      · rw [wAt_none _ _ hr] at e1
        rw [← e1]; decide
    simp [badE, this] at hy2
  rw [sumF_fin]
  unfold finE
  rw [if_neg hb, q, if_neg (by omega)]
theorem neg_set {b : List S42} (hb : setF b = 0) : setF (b.map negE) = 0 := by
  obtain ⟨n, g⟩ := setF_ok hb
  have hs := setF_srt hb
  refine setF_of (by rw [List.length_map]; exact n) (List.pairwise_map.2 hs) (fun x hx => ?_)
  obtain ⟨y, hy, rfl⟩ := List.mem_map.1 hx
  obtain ⟨g1, g2, g3⟩ := g y hy
  refine ⟨g1, ?_, by simp only [negE]; omega⟩
  have := isW_in g2
  have e : isW (negE y).f1 = decide (-1000000000000 ≤ -y.f1 ∧ -y.f1 ≤ 1000000000000) := by simp [isW, negE]
  rw [e]
  exact decide_eq_true (by omega)
theorem totW_tot : ∀ (l : List S42) (s B : Int), (∀ x ∈ l, -1000000000000 ≤ x.f1 ∧ x.f1 ≤ 1000000000000) → -B ≤ s → s ≤ B → B + l.length * 1000000000000 ≤ 9000000000000000000 → totW s l = s + totE l ∧ -(B + l.length * 1000000000000) ≤ s + totE l ∧ s + totE l ≤ B + l.length * 1000000000000
  | [], s, B, _, _, _, _ => by simp [totW, totE]; omega
  | x :: xs, s, B, h, h1, h2, h3 => by
    have hx := h x (List.mem_cons_self ..)
    rw [List.length_cons] at h3 ⊢
    have hw : wrap64 (s + x.f1) = s + x.f1 := Kit.w64 (by omega) (by omega)
    obtain ⟨i1, i2, i3⟩ := totW_tot xs (s + x.f1) (B + 1000000000000) (fun y hy => h y (List.mem_cons_of_mem _ hy)) (by omega) (by omega) (by omega)
    have e : totW s (x :: xs) = totW (s + x.f1) xs := by
      unfold totW
      rw [List.foldl_cons, hw]
    rw [e, i1]
    simp only [totE]
    omega
theorem total_of {l : List S42} (h : setF l = 0) : totalF l = (0, totE l) ∧ -200000000000000 ≤ totE l ∧ totE l ≤ 200000000000000 := by
  obtain ⟨n, g⟩ := setF_ok h
  obtain ⟨i1, i2, i3⟩ := totW_tot l 0 0 (fun x hx => isW_in (g x hx).2.1) (by omega) (by omega) (by omega)
  unfold totalF
  rw [if_pos h, i1]
  refine ⟨by rw [Int.zero_add], by omega, by omega⟩
theorem add_parts {a b : List S42} (h : (addF a b).1 = 0) : setF a = 0 ∧ setF b = 0 ∧ (sumF (a ++ b)).2 = 0 ∧ addF a b = (0, (sumF (a ++ b)).1) := by
  unfold addF at h ⊢
  by_cases h1 : setF a = 0
  · rw [if_pos h1] at h ⊢
    by_cases h2 : setF b = 0
    · rw [if_pos h2] at h ⊢
      exact ⟨h1, h2, h, Prod.ext h rfl⟩
    · rw [if_neg h2] at h; exact absurd h h2
  · rw [if_neg h1] at h; exact absurd h h1
theorem sum_swap {a b : List S42} (ha : setF a = 0) (hb : setF b = 0) : sumF (a ++ b) = sumF (b ++ a) := by
  rw [sumF_fin, sumF_fin, fold_swap (small_app ha hb)]
theorem add_swap {a b : List S42} (h : ¬ (addF a b).1 = 0) : ¬ (addF b a).1 = 0 := by
  intro h'
  obtain ⟨hb, ha, hs, _⟩ := add_parts h'
  refine h ?_
  unfold addF
  rw [if_pos ha, if_pos hb, sum_swap ha hb]
  exact hs
theorem rows_app_ok {a b : List S42} (ha : setF a = 0) (hb : setF b = 0) : ∀ x ∈ a ++ b, rowF x.f0 = 0 := by
  intro x hx
  rcases List.mem_append.1 hx with h | h
  · exact ((setF_ok ha).2 x h).1
  · exact ((setF_ok hb).2 x h).1
theorem setF_nil : setF ([] : List S42) = 0 := by simp [setF, setG]
theorem add_back {a b : List S42} (ha : setF a = 0) (hb : setF b = 0) (h : (sumF (a ++ b)).2 = 0) : addF (sumF (a ++ b)).1 (b.map negE) = (0, a) := by
  obtain ⟨s1, s2, _⟩ := sum_good (small_app ha hb) (rows_app_ok ha hb) h
  have hn := neg_set hb
  have e := sum_is (c := a) (small_app s1 hn) ha (fun r => by rw [wAt_app, s2 r, wAt_app, wAt_neg]; omega)
  unfold addF
  rw [if_pos s1, if_pos hn, e]
theorem add_none {a : List S42} (ha : setF a = 0) : addF a (a.map negE) = (0, []) := by
  have hn := neg_set ha
  have e := sum_is (c := []) (small_app ha hn) setF_nil (fun r => by rw [wAt_app, wAt_neg]; simp [wAt]; omega)
  unfold addF
  rw [if_pos ha, if_pos hn, e]
theorem weight_head {a : List S42} (ha : setF a = 0) (hp : 0 < a.length) : (weightF (rd_T42 a 0).f0 a).2 = (rd_T42 a 0).f1 := by
  cases a with
  | nil => simp at hp
  | cons x xs =>
    have e : rd_T42 (x :: xs) 0 = x := rfl
    have hr := ((setF_ok ha).2 x (List.mem_cons_self ..)).1
    rw [e]
    unfold weightF
    rw [if_pos ha, if_pos hr]
    simp only [weightL]
    rw [if_pos ((cmpR_zero _ _).mpr rfl)]
theorem sameB_refl (a : List S42) : sameB a a = true := (sameB_iff a a).mpr rfl
/-- What a list gives together. -/
def gS (g : S42 → Int) : List S42 → Int
  | [] => 0
  | x :: xs => g x + gS g xs
def nzG (g : S42 → Int) (x : S42) : Bool := decide (g x ≠ 0)
theorem gS_app (g : S42 → Int) : ∀ a b : List S42, gS g (a ++ b) = gS g a + gS g b
  | [], b => by simp [gS]
  | x :: xs, b => by
    rw [List.cons_append]
    simp only [gS]
    rw [gS_app g xs b]; omega
theorem gS_nz (g : S42 → Int) : ∀ l : List S42, gS g l = gS g (l.filter (nzG g))
  | [] => rfl
  | x :: xs => by
    have ih := gS_nz g xs
    by_cases h : g x = 0
    · rw [List.filter_cons_of_neg (by simp [nzG, h])]
      simp only [gS]
      rw [← ih, h]; omega
    · rw [List.filter_cons_of_pos (by simp [nzG, h])]
      simp only [gS]
      rw [ih]
theorem gS_small {g : S42 → Int} {l : List S42} (hm : ∀ x ∈ l, -1000000000000 ≤ g x ∧ g x ≤ 1000000000000) (hc : (l.filter (nzG g)).length ≤ 1) : -1000000000000 ≤ gS g l ∧ gS g l ≤ 1000000000000 := by
  rw [gS_nz]
  have hf : ∀ x ∈ l.filter (nzG g), -1000000000000 ≤ g x ∧ g x ≤ 1000000000000 := fun x hx => hm x (List.mem_filter.1 hx).1
  revert hc hf
  generalize l.filter (nzG g) = q
  intro hc hf
  match q, hc, hf with
  | [], _, _ => simp [gS]
  | [x], _, hf =>
    have := hf x (List.mem_cons_self ..)
    simp only [gS]; omega
  | _ :: _ :: _, hc, _ => simp at hc
theorem gS_none {g : S42 → Int} {l : List S42} (hc : (l.filter (nzG g)).length = 0) : gS g l = 0 := by
  rw [gS_nz, List.length_eq_zero_iff.1 hc]; rfl
/-- A list told apart into two, each in the list's order. -/
inductive Parts : List S42 → List S42 → List S42 → Prop where
  | nil : Parts [] [] []
  | left {a p q : List S42} (x : S42) (h : Parts a p q) : Parts (a ++ [x]) (p ++ [x]) q
  | right {a p q : List S42} (x : S42) (h : Parts a p q) : Parts (a ++ [x]) p (q ++ [x])
theorem Parts.subs {a p q : List S42} (h : Parts a p q) : p.Sublist a ∧ q.Sublist a := by
  induction h with
  | nil => exact ⟨List.Sublist.refl _, List.Sublist.refl _⟩
  | left x h ih => exact ⟨ih.1.append (List.Sublist.refl _), ih.2.trans (List.sublist_append_left _ _)⟩
  | right x h ih => exact ⟨ih.1.trans (List.sublist_append_left _ _), ih.2.append (List.Sublist.refl _)⟩
theorem Parts.sum {a p q : List S42} (h : Parts a p q) (g : S42 → Int) : gS g a = gS g p + gS g q := by
  induction h with
  | nil => simp [gS]
  | left x h ih => rw [gS_app, gS_app, ih]; omega
  | right x h ih => rw [gS_app, gS_app, ih]; omega
theorem Parts.cnt {a p q : List S42} (h : Parts a p q) (f : S42 → Bool) : (a.filter f).length = (p.filter f).length + (q.filter f).length := by
  induction h with
  | nil => simp
  | left x h ih => rw [List.filter_append, List.filter_append, List.length_append, List.length_append, ih]; omega
  | right x h ih => rw [List.filter_append, List.filter_append, List.length_append, List.length_append, ih]; omega
theorem Parts.small {a p q : List S42} (h : Parts a p q) {g : S42 → Int} (hm : ∀ x ∈ a, -1000000000000 ≤ g x ∧ g x ≤ 1000000000000) (hc : (a.filter (nzG g)).length ≤ 2) (hs : -1000000000000 ≤ gS g a ∧ gS g a ≤ 1000000000000) :
    (-1000000000000 ≤ gS g p ∧ gS g p ≤ 1000000000000) ∧ -1000000000000 ≤ gS g q ∧ gS g q ≤ 1000000000000 := by
  obtain ⟨s1, s2⟩ := h.subs
  have e := h.sum g
  have n := h.cnt (nzG g)
  have hp := fun x hx => hm x (s1.subset hx)
  have hq := fun x hx => hm x (s2.subset hx)
  by_cases c1 : (p.filter (nzG g)).length ≤ 1
  · by_cases c2 : (q.filter (nzG g)).length ≤ 1
    · exact ⟨gS_small hp c1, gS_small hq c2⟩
    · have z := gS_none (g := g) (l := p) (by omega)
      rw [z] at e ⊢
      exact ⟨by omega, by omega⟩
  · have z := gS_none (g := g) (l := q) (by omega)
    rw [z] at e ⊢
    exact ⟨by omega, by omega⟩
def prods (n : Nat) (x : S42) : List S42 → List S42
  | [] => []
  | y :: ys => if x.f0.take n = y.f0.take n then ⟨x.f0 ++ y.f0.drop n, (mulP x.f1 y.f1).1⟩ :: prods n x ys else prods n x ys
def prodsA (n : Nat) (b : List S42) : List S42 → List S42
  | [] => []
  | x :: xs => prods n x b ++ prodsA n b xs
def OkRow (n : Nat) (x : S42) (ys : List S42) : Prop := ∀ y ∈ ys, x.f0.take n = y.f0.take n → (mulP x.f1 y.f1).2 = true
theorem joinRow_flat (n : Nat) (x : S42) : ∀ (ys acc : List S42), OkRow n x ys → joinRow n x acc ys = (acc ++ prods n x ys, true)
  | [], acc, _ => by simp [joinRow, prods]
  | y :: ys, acc, h => by
    have h' : OkRow n x ys := fun z hz => h z (List.mem_cons_of_mem _ hz)
    unfold joinRow prods
    by_cases c : x.f0.take n = y.f0.take n
    · rw [if_pos c, if_pos c, if_pos (h y (List.mem_cons_self ..) c), joinRow_flat n x ys _ h', List.append_assoc]; rfl
    · rw [if_neg c, if_neg c, joinRow_flat n x ys _ h']
theorem joinRow_okR (n : Nat) (x : S42) : ∀ (ys acc : List S42), (joinRow n x acc ys).2 = true → OkRow n x ys
  | [], _, _ => fun y hy => by cases hy
  | y :: ys, acc, h => by
    unfold joinRow at h
    intro z hz hc
    by_cases c : x.f0.take n = y.f0.take n
    · rw [if_pos c] at h
      by_cases c2 : (mulP x.f1 y.f1).2 = true
      · rw [if_pos c2] at h
        rcases List.mem_cons.1 hz with rfl | hz
        · exact c2
        · exact joinRow_okR n x ys _ h z hz hc
      · rw [if_neg c2] at h; simp at h
    · rw [if_neg c] at h
      rcases List.mem_cons.1 hz with rfl | hz
      · exact absurd hc c
      · exact joinRow_okR n x ys _ h z hz hc
theorem joinAll_flat (n : Nat) (b : List S42) : ∀ (xs acc : List S42), (∀ x ∈ xs, OkRow n x b) → joinAll n b acc xs = (acc ++ prodsA n b xs, true)
  | [], acc, _ => by simp [joinAll, prodsA]
  | x :: xs, acc, h => by
    unfold joinAll prodsA
    rw [joinRow_flat n x b acc (h x (List.mem_cons_self ..)), if_pos rfl, joinAll_flat n b xs _ (fun z hz => h z (List.mem_cons_of_mem _ hz)), List.append_assoc]
theorem joinAll_okR (n : Nat) (b : List S42) : ∀ (xs acc : List S42), (joinAll n b acc xs).2 = true → ∀ x ∈ xs, OkRow n x b
  | [], _, _ => fun y hy => by cases hy
  | x :: xs, acc, h => by
    unfold joinAll at h
    by_cases c : (joinRow n x acc b).2 = true
    · rw [if_pos c] at h
      intro z hz
      rcases List.mem_cons.1 hz with rfl | hz
      · exact joinRow_okR n _ b acc c
      · exact joinAll_okR n b xs _ h z hz
    · rw [if_neg c] at h; simp at h
theorem prods_len (n : Nat) (x : S42) : ∀ ys : List S42, (prods n x ys).length ≤ ys.length
  | [] => by simp [prods]
  | y :: ys => by
    have := prods_len n x ys
    unfold prods
    by_cases c : x.f0.take n = y.f0.take n
    · rw [if_pos c, List.length_cons, List.length_cons]; omega
    · rw [if_neg c, List.length_cons]; omega
theorem prodsA_len (n : Nat) (b : List S42) : ∀ xs : List S42, (prodsA n b xs).length ≤ xs.length * b.length
  | [] => by simp [prodsA]
  | x :: xs => by
    have h1 := prods_len n x b
    have h2 := prodsA_len n b xs
    unfold prodsA
    rw [List.length_append, List.length_cons, Nat.succ_mul]; omega
theorem prods_w (n : Nat) (x : S42) : ∀ ys : List S42, ∀ z ∈ prods n x ys, -1000000000000 ≤ z.f1 ∧ z.f1 ≤ 1000000000000
  | [], z, hz => by simp [prods] at hz
  | y :: ys, z, hz => by
    unfold prods at hz
    by_cases c : x.f0.take n = y.f0.take n
    · rw [if_pos c] at hz
      rcases List.mem_cons.1 hz with rfl | hz
      · exact mulP_small ..
      · exact prods_w n x ys z hz
    · rw [if_neg c] at hz; exact prods_w n x ys z hz
theorem prodsA_w (n : Nat) (b : List S42) : ∀ xs : List S42, ∀ z ∈ prodsA n b xs, -1000000000000 ≤ z.f1 ∧ z.f1 ≤ 1000000000000
  | [], z, hz => by simp [prodsA] at hz
  | x :: xs, z, hz => by
    unfold prodsA at hz
    rcases List.mem_append.1 hz with hz | hz
    · exact prods_w n x b z hz
    · exact prodsA_w n b xs z hz
theorem prodsA_at (n : Nat) (b : List S42) (r : List Int) : ∀ xs : List S42, wAt r (prodsA n b xs) = gS (fun x => wAt r (prods n x b)) xs
  | [] => rfl
  | x :: xs => by
    unfold prodsA
    rw [wAt_app, prodsA_at n b r xs]; rfl
theorem prods_none (n : Nat) (x : S42) (r : List Int) : ∀ ys : List S42, (∀ y ∈ ys, x.f0.take n = y.f0.take n → x.f0 ++ y.f0.drop n ≠ r) → wAt r (prods n x ys) = 0
  | [], _ => rfl
  | y :: ys, h => by
    have ih := prods_none n x r ys (fun z hz => h z (List.mem_cons_of_mem _ hz))
    unfold prods
    by_cases c : x.f0.take n = y.f0.take n
    · rw [if_pos c]
      simp only [wAt]
      rw [if_neg (h y (List.mem_cons_self ..) c), ih]; rfl
    · rw [if_neg c]; exact ih
/-- One entry makes a row of one other entry at most. -/
theorem prods_small (n : Nat) (x : S42) (r : List Int) : ∀ ys : List S42, Srt ys → -1000000000000 ≤ wAt r (prods n x ys) ∧ wAt r (prods n x ys) ≤ 1000000000000
  | [], _ => by simp [prods, wAt]
  | y :: ys, hs => by
    have ih := prods_small n x r ys (List.pairwise_cons.1 hs).2
    unfold prods
    by_cases c : x.f0.take n = y.f0.take n
    · rw [if_pos c]
      simp only [wAt]
      by_cases e : x.f0 ++ y.f0.drop n = r
      · rw [if_pos e, prods_none n x r ys (fun z hz hc he => by
          have e2 : y.f0.drop n = z.f0.drop n := List.append_cancel_left (e.trans he.symm)
          have e1 : y.f0.take n = z.f0.take n := c.symm.trans hc
          have e3 : z.f0 = y.f0 := by rw [← List.take_append_drop n z.f0, ← e1, ← e2, List.take_append_drop]
          exact srt_head hs ⟨z, hz, e3⟩)]
        have := mulP_small x.f1 y.f1
        omega
      · rw [if_neg e]; omega
    · rw [if_neg c]; exact ih
theorem prods_from (n : Nat) (x : S42) (r : List Int) (ys : List S42) (h : wAt r (prods n x ys) ≠ 0) : x.f0 = r.take x.f0.length := by
  refine Classical.byContradiction fun hn => h (prods_none n x r ys fun y _ _ e => hn ?_)
  rw [← e, List.take_left']
  rfl
theorem srt_two {s t : List Int} {l : List S42} (hs : Srt l) (h : ∀ x ∈ l, x.f0 = s ∨ x.f0 = t) : l.length ≤ 2 := by
  match l, hs, h with
  | [], _, _ => simp
  | [_], _, _ => simp
  | [_, _], _, _ => simp
  | x :: y :: z :: rest, hs, h =>
    have h1 := List.pairwise_cons.1 hs
    have h2 := List.pairwise_cons.1 h1.2
    have a1 := h1.1 y (by simp)
    have a2 := h1.1 z (by simp)
    have a3 := h2.1 z (by simp)
    have ne : ∀ {u v : List Int}, cmpR u v < 0 → u ≠ v := fun hc e => by rw [(cmpR_zero _ _).mpr e] at hc; omega
    have n1 := ne a1
    have n2 := ne a2
    have n3 := ne a3
    rcases h x (by simp) with e1 | e1 <;> rcases h y (by simp) with e2 | e2 <;> rcases h z (by simp) with e3 | e3
    · exact absurd (e1.trans e2.symm) n1
    · exact absurd (e1.trans e2.symm) n1
    · exact absurd (e1.trans e3.symm) n2
    · exact absurd (e2.trans e3.symm) n3
    · exact absurd (e2.trans e3.symm) n3
    · exact absurd (e1.trans e3.symm) n2
    · exact absurd (e1.trans e2.symm) n1
    · exact absurd (e1.trans e2.symm) n1
/-- The rows of a list have two lengths at most. -/
def TwoL (l : List S42) : Prop := ∃ u v : Nat, ∀ x ∈ l, x.f0.length = u ∨ x.f0.length = v
theorem cnt_two {a : List S42} {r : List Int} {g : S42 → Int} (hs : Srt a) (h2 : TwoL a) (hg : ∀ x ∈ a, g x ≠ 0 → x.f0 = r.take x.f0.length) : (a.filter (nzG g)).length ≤ 2 := by
  obtain ⟨u, v, h⟩ := h2
  refine srt_two (s := r.take u) (t := r.take v) (hs.sublist List.filter_sublist) (fun x hx => ?_)
  obtain ⟨h1, h3⟩ := List.mem_filter.1 hx
  have e := hg x h1 (by simpa [nzG] using h3)
  rcases h x h1 with q | q
  · exact .inl (by rw [← q]; exact e)
  · exact .inr (by rw [← q]; exact e)
theorem foldE_len : ∀ (l acc : List S42), (l.foldl putE acc).length ≤ acc.length + l.length
  | [], acc => by simp
  | x :: xs, acc => by
    have h1 := putE_len acc x
    have h2 := foldE_len xs (putE acc x)
    rw [List.foldl_cons, List.length_cons]; omega
/-- What gives every row a weight that is one goes together without fault. -/
theorem sum_ok {l : List S42} (hn : l.length ≤ 200) (hl : ∀ x ∈ l, -1000000000000 ≤ x.f1 ∧ x.f1 ≤ 1000000000000) (hw : ∀ r, -1000000000000 ≤ wAt r l ∧ wAt r l ≤ 1000000000000) : (sumF l).2 = 0 := by
  obtain ⟨p1, p2, _, _⟩ := fold_all (l := l) ⟨by omega, hl⟩
  have n := foldE_len l []
  have nf : ((l.foldl putE []).filter nzE).length ≤ (l.foldl putE []).length := List.length_filter_le _ _
  rw [sumF_fin]
  unfold finE
  have hb : ¬ (l.foldl putE []).any badE = true := by
    rw [List.any_eq_true]
    rintro ⟨y, hy, hy2⟩
    have e1 := wAt_mem p1 hy
    rw [p2] at e1
    have := hw y.f0
    have : isW y.f1 = true := isW_iff.mpr (by omega)
    simp [badE, this] at hy2
  rw [if_neg hb, if_neg (by rw [List.length_nil] at n; omega)]
theorem set_wAt {s : List S42} (h : setF s = 0) (r : List Int) : -1000000000000 ≤ wAt r s ∧ wAt r s ≤ 1000000000000 := by
  by_cases c : Rows s r
  · obtain ⟨y, hy, rfl⟩ := c
    rw [wAt_mem (setF_srt h) hy]
    exact isW_in ((setF_ok h).2 y hy).2.1
  · rw [wAt_none _ _ c]; omega
theorem set_sub {a p : List S42} (h : setF a = 0) (hs : p.Sublist a) : setF p = 0 := by
  obtain ⟨n, g⟩ := setF_ok h
  exact setF_of (Nat.le_trans hs.length_le n) ((setF_srt h).sublist hs) (fun x hx => g x (hs.subset hx))
/-- What a join without fault is made of. -/
structure Joined (key : Int) (a b : List S42) : Prop where
  k0 : 1 ≤ key
  k1 : key ≤ 4
  ha : setF a = 0
  hb : setF b = 0
  la : longB key a = true
  lb : longB key b = true
  nw : wideB key a b = false
  ok : ∀ x ∈ a, OkRow key.toNat x b
theorem Joined.f {key : Int} {a b : List S42} (h : Joined key a b) (hn : (prodsA key.toNat b a).length ≤ 800) : joinF key a b = ((sumF (prodsA key.toNat b a)).2, (sumF (prodsA key.toNat b a)).1) := by
  unfold joinF
  rw [if_pos ⟨h.k0, h.k1⟩, if_pos (by rw [if_pos h.ha]; exact h.hb), if_pos (by rw [h.la, h.lb]; rfl), if_neg (by rw [h.nw]; simp), joinAll_flat _ _ _ _ h.ok]
  unfold joinR
  rw [if_pos rfl, if_neg (by simp only [List.nil_append]; omega), List.nil_append]
theorem joined_of {key : Int} {a b : List S42} (h : (joinF key a b).1 = 0) : Joined key a b ∧ (prodsA key.toNat b a).length ≤ 800 ∧ (sumF (prodsA key.toNat b a)).2 = 0 := by
  unfold joinF at h
  by_cases c1 : 1 ≤ key ∧ key ≤ 4
  · rw [if_pos c1] at h
    by_cases c2 : (if setF a = 0 then setF b else setF a) = 0
    · rw [if_pos c2] at h
      obtain ⟨ha, hb⟩ := two_zero c2
      by_cases c3 : (longB key a && longB key b) = true
      · rw [if_pos c3] at h
        by_cases c4 : wideB key a b = true
        · rw [if_pos c4] at h; simp at h
        · rw [if_neg c4] at h
          unfold joinR at h
          by_cases c5 : (joinAll key.toNat b [] a).2 = true
          · have ok := joinAll_okR _ _ _ _ c5
            rw [if_pos c5, joinAll_flat _ _ _ _ ok] at h
            rw [Bool.and_eq_true] at c3
            simp only [List.nil_append] at h
            by_cases c6 : 800 < (prodsA key.toNat b a).length
            · rw [if_pos c6] at h; simp at h
            · rw [if_neg c6] at h
              exact ⟨⟨c1.1, c1.2, ha, hb, c3.1, c3.2, by simpa using c4, ok⟩, by omega, h⟩
          · rw [if_neg c5] at h; simp at h
      · rw [if_neg c3] at h; simp at h
    · rw [if_neg c2] at h; exact absurd h c2
  · rw [if_neg c1] at h; simp at h
theorem Joined.sub {key : Int} {a b p : List S42} (h : Joined key a b) (hs : p.Sublist a) : Joined key p b where
  k0 := h.k0
  k1 := h.k1
  ha := set_sub h.ha hs
  hb := h.hb
  la := by
    have := h.la
    unfold longB at this ⊢
    rw [List.all_eq_true] at this ⊢
    exact fun x hx => this x (hs.subset hx)
  lb := h.lb
  nw := by
    have := h.nw
    unfold wideB at this ⊢
    rw [List.any_eq_false] at this ⊢
    exact fun x hx => this x (hs.subset hx)
  ok := fun x hx => h.ok x (hs.subset hx)
theorem rowF_of {r : List Int} (h : r.length ≤ 4) (h2 : ∀ x ∈ r, -1000000000 ≤ x ∧ x ≤ 1000000000) : rowF r = 0 := by
  unfold rowF
  rw [if_neg (by omega), if_pos (List.all_eq_true.2 fun x hx => by simpa [inC] using h2 x hx)]
theorem rowF_app {key : Int} {x y : List Int} (hk : 1 ≤ key ∧ key ≤ 4) (hx : rowF x = 0) (hy : rowF y = 0) (ly : key ≤ (y.length : Int)) (h : (x.length : Int) + (y.length : Int) - key ≤ 4) : rowF (x ++ y.drop key.toNat) = 0 := by
  obtain ⟨_, h1⟩ := rowF_zero hx
  obtain ⟨_, h2⟩ := rowF_zero hy
  refine rowF_of ?_ (fun z hz => ?_)
  · rw [List.length_append, List.length_drop]; omega
  · rcases List.mem_append.1 hz with hz | hz
    · exact h1 z hz
    · exact h2 z (List.mem_of_mem_drop hz)
theorem prods_row {key : Int} (hk : 1 ≤ key ∧ key ≤ 4) {x : S42} (hx : rowF x.f0 = 0) : ∀ ys : List S42, (∀ y ∈ ys, rowF y.f0 = 0 ∧ key ≤ (y.f0.length : Int) ∧ (x.f0.length : Int) + (y.f0.length : Int) - key ≤ 4) → ∀ z ∈ prods key.toNat x ys, rowF z.f0 = 0
  | [], _, z, hz => by simp [prods] at hz
  | y :: ys, h, z, hz => by
    have ih := prods_row hk hx ys (fun u hu => h u (List.mem_cons_of_mem _ hu))
    obtain ⟨a, b, c⟩ := h y (List.mem_cons_self ..)
    unfold prods at hz
    by_cases q : x.f0.take key.toNat = y.f0.take key.toNat
    · rw [if_pos q] at hz
      rcases List.mem_cons.1 hz with rfl | hz
      · exact rowF_app hk hx a b c
      · exact ih z hz
    · rw [if_neg q] at hz; exact ih z hz
theorem prodsA_mem {n : Nat} {b : List S42} : ∀ {xs : List S42} {z : S42}, z ∈ prodsA n b xs → ∃ x ∈ xs, z ∈ prods n x b
  | [], z, hz => by simp [prodsA] at hz
  | x :: xs, z, hz => by
    unfold prodsA at hz
    rcases List.mem_append.1 hz with hz | hz
    · exact ⟨x, List.mem_cons_self .., hz⟩
    · obtain ⟨y, hy, h⟩ := prodsA_mem hz
      exact ⟨y, List.mem_cons_of_mem _ hy, h⟩
theorem prodsA_row {key : Int} {a b : List S42} (J : Joined key a b) : ∀ z ∈ prodsA key.toNat b a, rowF z.f0 = 0 := by
  intro z hz
  obtain ⟨x, hx, h⟩ := prodsA_mem hz
  have ga := ((setF_ok J.ha).2 x hx).1
  have lb := J.lb
  have nw := J.nw
  unfold longB at lb
  rw [List.all_eq_true] at lb
  unfold wideB wide1 at nw
  rw [List.any_eq_false] at nw
  have nx := nw x hx
  rw [List.any_eq_true] at nx
  refine prods_row ⟨J.k0, J.k1⟩ ga b (fun y hy => ⟨((setF_ok J.hb).2 y hy).1, by simpa using lb y hy, ?_⟩) z h
  refine Classical.byContradiction fun hc => nx ⟨y, hy, by simp only [decide_eq_true_eq]; omega⟩
theorem mulP_neg {a b : Int} (h : (mulP a b).2 = true) : (mulP (-a) b).2 = true ∧ (mulP (-a) b).1 = -(mulP a b).1 := by
  unfold mulP at h ⊢
  by_cases c : (a * b).natAbs ≤ 1000000000000
  · rw [if_pos c] at h ⊢
    have e : -a * b = -(a * b) := Int.neg_mul ..
    rw [e, Int.natAbs_neg, if_pos c]
    exact ⟨rfl, rfl⟩
  · rw [if_neg c] at h; simp at h
theorem prods_neg (n : Nat) (x : S42) : ∀ ys : List S42, OkRow n x ys → prods n (negE x) ys = (prods n x ys).map negE
  | [], _ => rfl
  | y :: ys, h => by
    have ih := prods_neg n x ys (fun z hz => h z (List.mem_cons_of_mem _ hz))
    have e0 : (negE x).f0 = x.f0 := rfl
    have e1 : (negE x).f1 = -x.f1 := rfl
    unfold prods
    rw [e0, e1, ih]
    by_cases c : x.f0.take n = y.f0.take n
    · rw [if_pos c, if_pos c, (mulP_neg (h y (List.mem_cons_self ..) c)).2]; rfl
    · rw [if_neg c, if_neg c]
theorem prodsA_neg (n : Nat) (b : List S42) : ∀ xs : List S42, (∀ x ∈ xs, OkRow n x b) → prodsA n b (xs.map negE) = (prodsA n b xs).map negE
  | [], _ => rfl
  | x :: xs, h => by
    rw [List.map_cons]
    unfold prodsA
    rw [prods_neg n x b (h x (List.mem_cons_self ..)), prodsA_neg n b xs (fun z hz => h z (List.mem_cons_of_mem _ hz)), List.map_append]
theorem Joined.neg {key : Int} {a b : List S42} (h : Joined key a b) : Joined key (a.map negE) b where
  k0 := h.k0
  k1 := h.k1
  ha := neg_set h.ha
  hb := h.hb
  la := by
    have := h.la
    unfold longB at this ⊢
    rw [List.all_map]
    exact this
  lb := h.lb
  nw := by
    have := h.nw
    unfold wideB at this ⊢
    rw [List.any_map]
    exact this
  ok := fun x hx y hy hc => by
    obtain ⟨z, hz, rfl⟩ := List.mem_map.1 hx
    exact (mulP_neg (h.ok z hz y hy hc)).1
/-- A join without fault of a set that is told apart: both parts join without fault, and together they are the whole. -/
theorem join_parts {key : Int} {a b p q : List S42} (h : (joinF key a b).1 = 0) (h2 : TwoL a) (hn : a.length * b.length ≤ 200) (hp : Parts a p q) :
    (joinF key p b).1 = 0 ∧ (joinF key q b).1 = 0 ∧ addF (joinF key p b).2 (joinF key q b).2 = (0, (joinF key a b).2) ∧ setF (joinF key a b).2 = 0 ∧ joinF key (a.map negE) b = (0, (joinF key a b).2.map negE) := by
  obtain ⟨J, n8, s0⟩ := joined_of h
  obtain ⟨sp, sq⟩ := hp.subs
  have Jp := J.sub sp
  have Jq := J.sub sq
  have hl := setF_len J.ha
  have hl2 := setF_len J.hb
  have ln : ∀ z : List S42, z.Sublist a → (prodsA key.toNat b z).length ≤ 200 := fun z hz =>
    Nat.le_trans (prodsA_len _ _ _) (Nat.le_trans (Nat.mul_le_mul_right _ hz.length_le) hn)
  have sm : ∀ z : List S42, z.Sublist a → Small (prodsA key.toNat b z) := fun z hz => ⟨by have := ln z hz; omega, prodsA_w _ _ _⟩
  have fa := J.f n8
  have rw_ : ∀ z : List S42, Joined key z b → z.Sublist a → ∀ x ∈ prodsA key.toNat b z, rowF x.f0 = 0 := by
    intro z Jz hz x hx
    exact prodsA_row Jz x hx
  obtain ⟨g1, g2, _⟩ := sum_good (sm a (List.Sublist.refl _)) (rw_ a J (List.Sublist.refl _)) s0
  have bnd : ∀ r, (-1000000000000 ≤ wAt r (prodsA key.toNat b p) ∧ wAt r (prodsA key.toNat b p) ≤ 1000000000000) ∧ -1000000000000 ≤ wAt r (prodsA key.toNat b q) ∧ wAt r (prodsA key.toNat b q) ≤ 1000000000000 := by
    intro r
    rw [prodsA_at, prodsA_at]
    refine hp.small (fun x _ => prods_small _ x r b (setF_srt J.hb)) (cnt_two (r := r) (setF_srt J.ha) h2 (fun x _ hx => prods_from _ x r b hx)) ?_
    rw [← prodsA_at, ← g2 r]
    exact set_wAt g1 r
  have op := sum_ok (ln p sp) (prodsA_w _ _ _) (fun r => (bnd r).1)
  have oq := sum_ok (ln q sq) (prodsA_w _ _ _) (fun r => (bnd r).2)
  have fp := Jp.f (by have := ln p sp; omega)
  have fq := Jq.f (by have := ln q sq; omega)
  obtain ⟨p1, p2, _⟩ := sum_good (sm p sp) (rw_ p Jp sp) op
  obtain ⟨q1, q2, _⟩ := sum_good (sm q sq) (rw_ q Jq sq) oq
  have e := sum_is (c := (sumF (prodsA key.toNat b a)).1) (small_app p1 q1) g1 (fun r => by
    rw [wAt_app, p2 r, q2 r, g2 r, prodsA_at, prodsA_at, prodsA_at, hp.sum])
  have fn := J.neg.f (by rw [prodsA_neg _ _ _ J.ok, List.length_map]; exact n8)
  have en := sum_is (l := prodsA key.toNat b (a.map negE)) (c := (sumF (prodsA key.toNat b a)).1.map negE) ⟨by rw [prodsA_neg _ _ _ J.ok, List.length_map]; omega, prodsA_w _ _ _⟩ (neg_set g1) (fun r => by
    rw [prodsA_neg _ _ _ J.ok, wAt_neg, wAt_neg, g2 r])
  rw [fp, fq, fa]
  refine ⟨op, oq, ?_, g1, ?_⟩
  · unfold addF
    simp only
    rw [if_pos p1, if_pos q1, e]
  · rw [fn, en]
theorem putE_from (e : S42) : ∀ acc : List S42, ∀ y ∈ putE acc e, y.f0 = e.f0 ∨ ∃ x ∈ acc, x.f0 = y.f0
  | [], y, hy => by
    unfold putE at hy
    rw [List.mem_singleton.1 hy]; exact .inl rfl
  | x :: xs, y, hy => by
    unfold putE at hy
    by_cases h1 : cmpR x.f0 e.f0 < 0
    · rw [if_pos h1] at hy
      rcases List.mem_cons.1 hy with rfl | hy
      · exact .inr ⟨_, List.mem_cons_self .., rfl⟩
      · rcases putE_from e xs y hy with h | ⟨z, hz, h⟩
        · exact .inl h
        · exact .inr ⟨z, List.mem_cons_of_mem _ hz, h⟩
    · rw [if_neg h1] at hy
      by_cases h2 : cmpR x.f0 e.f0 = 0
      · rw [if_pos h2] at hy
        rcases List.mem_cons.1 hy with rfl | hy
        · exact .inr ⟨x, List.mem_cons_self .., rfl⟩
        · exact .inr ⟨y, List.mem_cons_of_mem _ hy, rfl⟩
      · rw [if_neg h2] at hy
        rcases List.mem_cons.1 hy with rfl | hy
        · exact .inl rfl
        · exact .inr ⟨y, hy, rfl⟩
theorem foldE_from : ∀ (l acc : List S42), ∀ y ∈ l.foldl putE acc, (∃ x ∈ l, x.f0 = y.f0) ∨ ∃ x ∈ acc, x.f0 = y.f0
  | [], acc, y, hy => .inr ⟨y, hy, rfl⟩
  | e :: l, acc, y, hy => by
    rw [List.foldl_cons] at hy
    rcases foldE_from l (putE acc e) y hy with ⟨x, hx, h⟩ | ⟨x, hx, h⟩
    · exact .inl ⟨x, List.mem_cons_of_mem _ hx, h⟩
    · rcases putE_from e acc x hx with q | ⟨z, hz, q⟩
      · exact .inl ⟨e, List.mem_cons_self .., q.symm.trans h⟩
      · exact .inr ⟨z, hz, q.trans h⟩
theorem sumF_from (z : List S42) : (sumF z).1.length ≤ z.length ∧ ∀ y ∈ (sumF z).1, ∃ x ∈ z, x.f0 = y.f0 := by
  have n := foldE_len z []
  have nf : ((z.foldl putE []).filter nzE).length ≤ (z.foldl putE []).length := List.length_filter_le _ _
  have fr := foldE_from z []
  rw [List.length_nil] at n
  rw [sumF_fin]
  unfold finE
  repeat' split
  · simp
  · simp
  · refine ⟨by simp only; omega, fun y hy => ?_⟩
    rcases fr y (List.mem_filter.1 hy).1 with h | ⟨x, hx, _⟩
    · exact h
    · cases hx
theorem entriesW_l0 {c : List Int} (hc : BytesOk c) {w : Int} (hw : 0 ≤ w ∧ w ≤ 10) : ∀ (n : Nat) (t : Int) (acc : List S42), acc.length + n ≤ 7 → (∀ x ∈ acc, (x.f0.length : Int) = w) → 0 ≤ t → t + 100 * n ≤ 900000000000 →
    ∃ r t', Ev (fun k => spec_l2Entries.l0 k w acc (n : Int) c t) (r, t') ∧ r.length ≤ 7 ∧ (∀ x ∈ r, (x.f0.length : Int) = w) ∧ t ≤ t' ∧ t' ≤ t + 100 * n := by
  intro n
  induction n with
  | zero =>
    intro t acc h1 h2 h3 h4
    refine ⟨acc, t, Kit.Ev.up ?_, by omega, h2, by omega, by omega⟩
    simp only [spec_l2Entries.l0]
    exact Kit.Ev.neg (by omega) (Kit.Ev.const rfl)
  | succ n ih =>
    intro t acc h1 h2 h3 h4
    obtain ⟨r1, H1, hl⟩ := row_some hc (t := t) h3 (by omega) (n := w) (by omega) (by omega)
    obtain ⟨v, e2, _⟩ := next_some hc (t := t + 6 * w) (by omega) (by omega) 9
    obtain ⟨u, e3, _⟩ := pick_some hc (t := t + 6 * w + 1) (by omega) (by omega) ([1, 1, 2, (-1), wrap64 (v - 4)] : List Int) (by simp)
    obtain ⟨r, t', H, q1, q2, q3, q4⟩ := ih (t + 6 * w + 1 + 1) (acc ++ [⟨r1, u⟩]) (by rw [List.length_append]; simp only [List.length_cons, List.length_nil]; omega) (fun x hx => by
      rcases List.mem_append.1 hx with hx | hx
      · exact h2 x hx
      · rw [List.mem_singleton.1 hx]; exact hl) (by omega) (by omega)
    refine ⟨r, t', Kit.Ev.up ?_, q1, q2, by omega, by omega⟩
    simp only [spec_l2Entries.l0]
    have e : wrap64 (((n + 1 : Nat) : Int) - 1) = (n : Int) := by rw [Kit.w64 (by omega) (by omega)]; omega
    rw [e]
    exact Kit.Ev.pos (by omega) (Kit.Ev.then H1 (Kit.Ev.call e2 (Kit.Ev.call e3 (Kit.Ev.pos (by omega) H))))
theorem entriesW_some {c : List Int} (hc : BytesOk c) {t w : Int} (h0 : 0 ≤ t) (h1 : t ≤ 800000000000) (hw : 0 ≤ w ∧ w ≤ 10) : ∃ r t', Ev (fun k => spec_l2Entries.f k c t w) (r, t') ∧ r.length ≤ 7 ∧ (∀ x ∈ r, (x.f0.length : Int) = w) ∧ t ≤ t' ∧ t' ≤ t + 1000 := by
  obtain ⟨v, e, hv, _⟩ := next_some hc h0 (by omega) 7
  obtain ⟨v0, v1⟩ := hv (by omega)
  obtain ⟨m, rfl⟩ := Int.eq_ofNat_of_zero_le v0
  obtain ⟨r, t', H, q1, q2, q3, q4⟩ := entriesW_l0 hc hw m (t + 1) [] (by simp only [List.length_nil]; omega) (by simp) (by omega) (by omega)
  refine ⟨r, t', ?_, q1, q2, by omega, by omega⟩
  unfold spec_l2Entries.f
  exact Kit.Ev.call e H
theorem l2DrawW_some {c : List Int} (hc : BytesOk c) {t w : Int} (h0 : 0 ≤ t) (h1 : t ≤ 800000000000) (hw : 0 ≤ w ∧ w ≤ 10) : ∃ r t', Ev (fun k => spec_l2Draw.f k c t w) (r, t') ∧ (r.length ≤ 7 ∧ ∀ x ∈ r, (x.f0.length : Int) = w) ∧ t ≤ t' ∧ t' ≤ t + 1000 := by
  obtain ⟨z, t1, H1, q1, q2, q3, q4⟩ := entriesW_some hc h0 h1 hw
  have hz : Fine z := ⟨by omega, fun x hx => by have := q2 x hx; omega⟩
  obtain ⟨n, fr⟩ := sumF_from z
  refine ⟨(sumF z).1, t1, ?_, ⟨by omega, fun x hx => ?_⟩, q3, q4⟩
  · unfold spec_l2Draw.f
    exact Kit.Ev.then H1 (Kit.Ev.then (l2Set_ev z hz) (Kit.Ev.const rfl))
  · obtain ⟨y, hy, e⟩ := fr x hx
    rw [← e]; exact q2 y hy
/-- How many, and how long, the entries of a drawn list are. -/
def Drawn2 (r : List S42) : Prop := Fine r ∧ TwoL r ∧ (r.length ≤ 8 ∨ r.length = 201)
theorem l2BentW_some {c : List Int} (hc : BytesOk c) {t w : Int} (h0 : 0 ≤ t) (h1 : t ≤ 700000000000) (hw : 0 ≤ w ∧ w ≤ 10) : ∃ r t', Ev (fun k => spec_l2Bent.f k c t w) (r, t') ∧ Drawn2 r ∧ t ≤ t' ∧ t' ≤ t + 5000 := by
  obtain ⟨z, t1, H1, ⟨q1, q2⟩, q3, q4⟩ := l2DrawW_some hc h0 (by omega) hw
  obtain ⟨w, rfl⟩ := Int.eq_ofNat_of_zero_le hw.1
  have q2 : ∀ x ∈ z, x.f0.length = w := fun x hx => by have := q2 x hx; omega
  have mk2 : ∀ {r : List S42} (v : Nat), v ≤ 1000 → (∀ x ∈ r, x.f0.length = w ∨ x.f0.length = v) → r.length ≤ 8 ∨ r.length = 201 → Drawn2 r := fun v hv h n => ⟨⟨by omega, fun x hx => by have := h x hx; omega⟩, ⟨w, v, h⟩, n⟩
  unfold spec_l2Bent.f
  by_cases hz : (z.length : Int) = 0
  · exact ⟨z, t1, Kit.Ev.then H1 (Kit.Ev.pos hz (Kit.Ev.const rfl)), mk2 w (by omega) (fun x hx => .inl (q2 x hx)) (.inl (by omega)), by omega, by omega⟩
  obtain ⟨i, e2, hi, _⟩ := next_some hc (t := t1) (by omega) (by omega) (z.length : Int)
  obtain ⟨i0, i1⟩ := hi (by omega)
  obtain ⟨v, e3, hv, _⟩ := next_some hc (t := t1 + 1) (by omega) (by omega) 20
  have hset : ∀ x : S42, x.f0.length ≤ 1000 → Drawn2 (z.set (i : Int).toNat x) := fun x hx => mk2 x.f0.length hx (fun y hy => by
    rcases List.mem_or_eq_of_mem_set hy with h | h
    · exact .inl (q2 y h)
    · rw [h]; exact .inr rfl) (.inl (by rw [List.length_set]; omega))
  by_cases c0 : v = 0
  · obtain ⟨r, t2, H2, hr, ht, ht'⟩ := bent_some hc (t := t1 + 1 + 1) (by omega) (by omega)
    exact ⟨_, t2, Kit.Ev.then H1 (Kit.Ev.neg hz (Kit.Ev.call e2 (Kit.Ev.call e3 (Kit.Ev.pos c0 (Kit.Ev.then H2 (Kit.Ev.pos i0 (Kit.Ev.pos i1 (Kit.Ev.const rfl)))))))), hset _ (by simp only; omega), by omega, by omega⟩
  have him : (rd_T42 z i).f0.length = w := by
    obtain ⟨m, rfl⟩ := Int.eq_ofNat_of_zero_le i0
    exact q2 _ (rdE_mem (xs := z) (i := m) (by omega))
  by_cases c1 : v = 1
  · obtain ⟨u, e4, _⟩ := pick_some hc (t := t1 + 1 + 1) (by omega) (by omega) ([0, 1000000000000, 1000000000001, (-1000000000000), (-1000000000001), (-9223372036854775808)] : List Int) (by simp)
    exact ⟨_, _, Kit.Ev.then H1 (Kit.Ev.neg hz (Kit.Ev.call e2 (Kit.Ev.call e3 (Kit.Ev.neg c0 (Kit.Ev.pos c1 (Kit.Ev.call e4 (Kit.Ev.pos i0 (Kit.Ev.pos i1 (Kit.Ev.const rfl))))))))), hset _ (by simp only; omega), by simp only; omega, by simp only; omega⟩
  by_cases c2 : v = 2
  · refine ⟨_, _, Kit.Ev.then H1 (Kit.Ev.neg hz (Kit.Ev.call e2 (Kit.Ev.call e3 (Kit.Ev.neg c0 (Kit.Ev.neg c1 (Kit.Ev.pos c2 (Kit.Ev.pos i0 (Kit.Ev.pos i1 (Kit.Ev.pos (by simp only; omega) (Kit.Ev.const rfl)))))))))), mk2 w (by omega) (fun y hy => ?_) (.inl ?_), by simp only; omega, by simp only; omega⟩
    · rcases List.mem_append.1 hy with hy | hy
      · exact .inl (q2 y hy)
      · rw [List.mem_singleton.1 hy]; exact .inl him
    · rw [List.length_append]; simp only [List.length_cons, List.length_nil]; omega
  by_cases c3 : v = 3
  · refine ⟨_, _, Kit.Ev.then H1 (Kit.Ev.neg hz (Kit.Ev.call e2 (Kit.Ev.call e3 (Kit.Ev.neg c0 (Kit.Ev.neg c1 (Kit.Ev.neg c2 (Kit.Ev.pos c3 (Kit.Ev.pos (by omega) (Kit.Ev.const rfl))))))))), mk2 0 (by omega) (fun y hy => ?_) (.inr (by rw [List.length_replicate])), by simp only; omega, by simp only; omega⟩
    rw [(List.mem_replicate.1 hy).2]; exact .inr (by simp [z42])
  · exact ⟨_, _, Kit.Ev.then H1 (Kit.Ev.neg hz (Kit.Ev.call e2 (Kit.Ev.call e3 (Kit.Ev.neg c0 (Kit.Ev.neg c1 (Kit.Ev.neg c2 (Kit.Ev.neg c3 (Kit.Ev.const rfl)))))))), mk2 w (by omega) (fun x hx => .inl (q2 x hx)) (.inl (by simp only; omega)), by simp only; omega, by simp only; omega⟩
theorem drawJoins_some {c : List Int} (hc : BytesOk c) : ∃ a b key, Ev (fun k => spec_DrawJoinSets.f k c) (a, b, key) ∧ Drawn2 a ∧ Drawn2 b := by
  obtain ⟨w, e1, hw, _⟩ := next_some hc (t := 0) (by omega) (by omega) 2
  obtain ⟨w0, w1⟩ := hw (by omega)
  have v1 : wrap64 (1 + w) = 1 + w := Kit.w64 (by omega) (by omega)
  obtain ⟨a, t1, H1, ha, p1, p2⟩ := l2BentW_some hc (t := 0 + 1) (w := 1 + w) (by omega) (by omega) (by omega)
  obtain ⟨u, e2, hu, _⟩ := next_some hc (t := t1) (by omega) (by omega) 3
  obtain ⟨u0, u1⟩ := hu (by omega)
  have v2 : wrap64 (1 + u) = 1 + u := Kit.w64 (by omega) (by omega)
  obtain ⟨b, t2, H2, hb, p3, p4⟩ := l2BentW_some hc (t := t1 + 1) (w := 1 + u) (by omega) (by omega) (by omega)
  rw [← v1] at H1
  rw [← v2] at H2
  unfold spec_DrawJoinSets.f spec_l1Source.f
  simp only [Option.bind_some]
  by_cases hz : (a.length : Int) > 0
  · obtain ⟨d, e3⟩ := chance_some hc (t := t2) (by omega) (by omega) 20
    obtain ⟨key, e4, _⟩ := pick_some hc (t := t2 + 1) (by omega) (by omega) ([1, 1, 1, 2, 0, 5] : List Int) (by simp)
    by_cases hd : d = true
    · refine ⟨_, b, key, Kit.Ev.call e1 (Kit.Ev.then H1 (Kit.Ev.call e2 (Kit.Ev.then H2 (Kit.Ev.pos hz (Kit.Ev.call e3 (Kit.Ev.pos hd (Kit.Ev.pos (by simp only; omega) (Kit.Ev.call e4 (Kit.Ev.const rfl))))))))), ?_, hb⟩
      obtain ⟨⟨f1, f2⟩, ⟨u', v', h2⟩, n⟩ := ha
      have hm := rdE_mem (xs := a) (i := 0) (by omega)
      have er : rd_T42 a ((0 : Nat) : Int) = rd_T42 a 0 := rfl
      rw [er] at hm
      refine ⟨⟨by rw [List.length_set]; exact f1, fun x hx => ?_⟩, ⟨u', v', fun x hx => ?_⟩, by rw [List.length_set]; exact n⟩
      · rcases List.mem_or_eq_of_mem_set hx with h | h
        · exact f2 x h
        · rw [h]; exact (f2 (rd_T42 a 0) hm :)
      · rcases List.mem_or_eq_of_mem_set hx with h | h
        · exact h2 x h
        · rw [h]; exact (h2 (rd_T42 a 0) hm :)
    · exact ⟨a, b, key, Kit.Ev.call e1 (Kit.Ev.then H1 (Kit.Ev.call e2 (Kit.Ev.then H2 (Kit.Ev.pos hz (Kit.Ev.call e3 (Kit.Ev.neg hd (Kit.Ev.call e4 (Kit.Ev.const rfl)))))))), ha, hb⟩
  · obtain ⟨key, e4, _⟩ := pick_some hc (t := t2) (by omega) (by omega) ([1, 1, 1, 2, 0, 5] : List Int) (by simp)
    exact ⟨a, b, key, Kit.Ev.call e1 (Kit.Ev.then H1 (Kit.Ev.call e2 (Kit.Ev.then H2 (Kit.Ev.neg hz (Kit.Ev.call e4 (Kit.Ev.const rfl)))))), ha, hb⟩
theorem joins_l0 {c : List Int} (hc : BytesOk c) {a b : List S42} {key : Int} (ha : Fine a) (hb : Fine b) (h0 : (joinF key a b).1 = 0) (h2 : TwoL a) (hn : a.length * b.length ≤ 200) (hl : a.length ≤ 200) :
    ∀ (d i : Nat) (p q : List S42), i + d = a.length → Parts (a.take i) p q → Ev (fun k => laws_FnJoins.l0 k c a b key p q (i : Int) (joinF key a b).1 (joinF key a b).2) true := by
  intro d
  induction d with
  | zero =>
    intro i p q hi hp
    rw [List.take_of_length_le (by omega)] at hp
    obtain ⟨sp, sq⟩ := hp.subs
    have fp : Fine p := ⟨Nat.le_trans sp.length_le ha.1, fun x hx => ha.2 x (sp.subset hx)⟩
    have fq : Fine q := ⟨Nat.le_trans sq.length_le ha.1, fun x hx => ha.2 x (sq.subset hx)⟩
    have fs := joinF_fine key a b
    have neg : ∀ {l : List S42}, Fine l → Fine (l.map negE) := fun h => ⟨by rw [List.length_map]; exact h.1, fun y hy => by obtain ⟨z, hz, rfl⟩ := List.mem_map.1 hy; exact h.2 z hz⟩
    obtain ⟨e1, e2, e3, e4, e5⟩ := join_parts h0 h2 hn hp
    obtain ⟨J, _, _⟩ := joined_of h0
    have na : negF a = (0, a.map negE) := by unfold negF; rw [if_pos J.ha]
    have ns : negF (joinF key a b).2 = (0, (joinF key a b).2.map negE) := by unfold negF; rw [if_pos e4]
    refine Kit.Ev.up ?_
    simp only [laws_FnJoins.l0]
    refine Kit.Ev.neg (by omega) ?_
    refine Kit.Ev.then (implJoinS_ev key p b fp hb) (Kit.Ev.then (implJoinS_ev key q b fq hb) (Kit.Ev.then (e3 ▸ implAddS_ev _ _ (joinF_fine ..) (joinF_fine ..)) (Kit.Ev.then (na ▸ implNeg_ev a ha) (Kit.Ev.then (e5 ▸ implJoinS_ev key (a.map negE) b (neg ha) hb) ?_))))
    refine Kit.Ev.pos e1 (Kit.Ev.pos e2 (Kit.Ev.pos rfl (Kit.Ev.then (implSame_ev _ _ fs) (Kit.Ev.pos (sameB_refl _) (Kit.Ev.then (implSet_ev _ fs) (Kit.Ev.pos e4 (Kit.Ev.then (ns ▸ implNeg_ev _ fs) (Kit.Ev.then (implSame_ev _ _ (neg fs)) (Kit.Ev.const ?_)))))))))
    rw [sameB_refl]
  | succ d ih =>
    intro i p q hi hp
    have hi' : i < a.length := by omega
    obtain ⟨sp, sq⟩ := hp.subs
    have np := sp.length_le
    have nq := sq.length_le
    rw [List.length_take] at np nq
    obtain ⟨v, ev, _⟩ := lwAt_some hc (i := (i : Int)) (by omega) (by omega) 2
    have er : (⟨(rd_T42 a (i : Int)).f0, (rd_T42 a (i : Int)).f1⟩ : S42) = a[i] := by rw [rdE_at hi']
    have et : a.take (i + 1) = a.take i ++ [a[i]] := (List.take_append_getElem hi').symm
    refine Kit.Ev.up ?_
    simp only [laws_FnJoins.l0]
    rw [er, Kit.w64s (n := a.length) (by omega) (by omega) (by omega)]
    refine Kit.Ev.pos (by omega) (Kit.Ev.call ev (Kit.Ev.ite (fun _ => ?_) (fun _ => ?_)))
    · refine Kit.Ev.pos (by omega) (Kit.Ev.pos (by omega) ?_)
      exact ih (i + 1) _ _ (by omega) (et ▸ Parts.left _ hp)
    · refine Kit.Ev.pos (by omega) (Kit.Ev.pos (by omega) ?_)
      exact ih (i + 1) _ _ (by omega) (et ▸ Parts.right _ hp)
theorem FnJoins : laws_FnJoins.Pure := by
  intro l0 _ _ hb8
  refine Kit.Ev.ex ?_
  unfold laws_FnJoins.f laws_lwBig.f
  simp only [Option.bind_some]
  refine Kit.Ev.ite (fun _ => Kit.Ev.const rfl) (fun hbig => ?_)
  have hc : BytesOk l0 := bytesOk_of (by simp only [decide_eq_true_eq] at hbig; omega) hb8
  obtain ⟨a, b, key, H, ⟨ha, h2, na⟩, ⟨hb, _, nb⟩⟩ := drawJoins_some hc
  refine Kit.Ev.then H (Kit.Ev.then (implJoinS_ev key a b ha hb) (Kit.Ev.ite (fun h0 => ?_) (fun h0 => ?_)))
  · obtain ⟨J, _, _⟩ := joined_of h0
    have la := (setF_ok J.ha).1
    have lb := (setF_ok J.hb).1
    have hm : a.length * b.length ≤ 8 * 8 := Nat.mul_le_mul (by omega) (by omega)
    exact joins_l0 hc ha hb h0 h2 (by omega) (by omega) a.length 0 [] [] (by omega) Parts.nil
  · refine Kit.Ev.then (specJoinS_ev key a b ha hb) (Kit.Ev.const ?_)
    simp

end Go.Proofs.Ythgmicingbjemaa.Pure
