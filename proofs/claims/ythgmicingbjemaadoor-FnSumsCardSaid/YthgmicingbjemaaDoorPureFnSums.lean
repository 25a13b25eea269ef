/- The law FnSums answers true for every list of bytes. -/
import Derived.Test.YthgmicingbjemaaDoorKit
import Derived.Test.YthgmicingbjemaaDoorPFnSumsx11
namespace Go.Proofs.YthgmicingbjemaaDoor.Pure
open Go.RowKit Go.Proofs.YthgmicingbjemaaDoor.PFnSums Go.Proofs.YthgmicingbjemaaDoorW.PrintWords Go.Proofs.YthgmicingbjemaaDoorW.PrintLast Go.Proofs.YthgmicingbjemaaDoor
set_option linter.unusedSimpArgs false
set_option linter.unusedVariables false

theorem w64n {i n : Nat} (h : i < n) (hn : n ≤ 9223372036854775807) : wrap64 ((i : Int) + 1) = ((i + 1 : Nat) : Int) := by
  rw [Kit.w64 (by omega) (by omega)]; rfl
theorem rd_drop {xs : List Int} {i : Nat} (h : i < xs.length) : xs.drop i = rd xs (i : Int) :: xs.drop (i + 1) := by
  rw [Kit.rd_at h]; exact List.drop_eq_getElem_cons h
theorem specIn_eq (a b c : Int) : spec_l1In.f a b c = some (decide (b ≤ a ∧ a ≤ c)) := by
  unfold spec_l1In.f
  by_cases h : a ≥ b
  · rw [if_pos h]; simp [show b ≤ a from h]
  · rw [if_neg h]; simp; intro h'; omega
theorem implIn_eq (a b c : Int) : impl_in.f a b c = some (decide (b ≤ a ∧ a ≤ c)) := by
  unfold impl_in.f
  by_cases h : a ≥ b
  · rw [if_pos h]; simp [show b ≤ a from h]
  · rw [if_neg h]; simp; intro h'; omega
def isW (x : Int) : Bool := decide (-1000000000000 ≤ x ∧ x ≤ 1000000000000)
theorem isW_iff {x : Int} : isW x = true ↔ -1000000000000 ≤ x ∧ x ≤ 1000000000000 := by simp [isW]
def addW (a b : Int) : Int × Int := if isW a = true ∧ isW b = true then (if isW (a + b) = true then (0, a + b) else (8, 0)) else (3, 0)
theorem addW_comm (a b : Int) : addW a b = addW b a := by
  unfold addW
  rw [Int.add_comm b a]; simp only [and_comm]
def mulP (a b : Int) : Int × Bool := if (a * b).natAbs ≤ 1000000000000 then (a * b, true) else (0, false)
theorem mulP_comm (a b : Int) : mulP a b = mulP b a := by
  unfold mulP
  rw [Int.mul_comm b a]
def mulW (a b : Int) : Int × Int := if isW a = true ∧ isW b = true then (if (mulP a b).2 = true then (0, (mulP a b).1) else (8, 0)) else (3, 0)
theorem mulW_comm (a b : Int) : mulW a b = mulW b a := by
  unfold mulW
  rw [mulP_comm b a]; simp only [and_comm]
theorem specWeight_eq (a : Int) : spec_l1Weight.f a = some (isW a) := by
  unfold spec_l1Weight.f
  rw [specIn_eq]; rfl
theorem implWeight_eq (a : Int) : impl_isWeight.f a = some (isW a) := by
  unfold impl_isWeight.f
  rw [implIn_eq]; rfl
theorem mul_gt {x y : Int} (hx : 0 ≤ x) (hy : 0 < y) : (x > (1000000000000 : Int) / y) ↔ ¬ (x * y).natAbs ≤ 1000000000000 := by
  have h0 : 0 ≤ x * y := Int.mul_nonneg hx (Int.le_of_lt hy)
  have h1 : ((1000000000000 : Int) / y < x) ↔ 1000000000000 < x * y := Int.ediv_lt_iff_lt_mul hy
  constructor
  · intro h
    have := h1.1 h
    omega
  · intro h
    exact h1.2 (by omega)
theorem wrap_quo {y : Int} (hy : 0 < y) : wrap64 ((1000000000000 : Int) / y) = (1000000000000 : Int) / y := by
  have h0 : 0 ≤ (1000000000000 : Int) / y := Int.ediv_nonneg (by omega) (by omega)
  have h1 : (1000000000000 : Int) / y ≤ 1000000000000 := Int.ediv_le_self _ (by omega)
  exact Kit.w64 (by omega) (by omega)
theorem wrap_tquo {y : Int} (hy : 0 < y) : wrap64 (Int.tdiv (1000000000000 : Int) y) = (1000000000000 : Int) / y := by
  rw [Int.tdiv_eq_ediv_of_nonneg (by omega)]
  exact wrap_quo hy
theorem wrap_mul {a b : Int} (h : (a * b).natAbs ≤ 1000000000000) : wrap64 (a * b) = a * b := Kit.w64 (by omega) (by omega)
theorem abs_mul (a b : Int) : ((a.natAbs : Int) * (b.natAbs : Int)).natAbs = (a * b).natAbs := by
  rw [Int.natAbs_mul, Int.natAbs_mul]; simp
theorem implMulP_ev (a b : Int) (ha : isW a = true) (hb : isW b = true) : Ev (fun k => impl_mulWeight.f k a b) (mulP a b) := by
  have ha' := isW_iff.1 ha
  have hb' := isW_iff.1 hb
  refine Kit.Ev.up ?_
  unfold impl_mulWeight.f
  simp only [impl_mulWeight.j0]
  by_cases a0 : a = 0
  · subst a0; exact Kit.Ev.const (by simp [mulP])
  by_cases b0 : b = 0
  · subst b0; exact Kit.Ev.const (by simp [mulP, a0])
  have hbe : (b == 0) = false := by simp [b0]
  simp only [a0, if_false, hbe, Bool.false_eq_true]
  rw [Kit.w64 (x := -a) (by omega) (by omega), Kit.w64 (x := -b) (by omega) (by omega)]
  have ea : mx a (-a) = (a.natAbs : Int) := by unfold mx; split <;> omega
  have eb : mx b (-b) = (b.natAbs : Int) := by unfold mx; split <;> omega
  rw [ea, eb]
  have hy : (0 : Int) < (b.natAbs : Int) := by omega
  simp only [wrap_tquo hy, wrap_quo hy]
  refine Kit.Ev.neg (by omega) (Kit.Ev.const ?_)
  unfold mulP
  by_cases h : (a.natAbs : Int) > (1000000000000 : Int) / (b.natAbs : Int)
  · rw [if_pos h, if_neg]
    have := (mul_gt (by omega) hy).1 h
    rwa [abs_mul] at this
  · have h2 : (a * b).natAbs ≤ 1000000000000 := by
      have := mt (mul_gt (by omega) hy).2 h
      rw [abs_mul] at this
      omega
    rw [if_neg h, if_pos h2, wrap_mul h2]
def inC (x : Int) : Bool := decide (-1000000000 ≤ x ∧ x ≤ 1000000000)
def rowF (xs : List Int) : Int := if 4 < xs.length then 2 else if xs.all inC = true then 0 else 3
theorem specRow_l0 (xs : List Int) (hn : xs.length ≤ 9223372036854775807) : ∀ (d i : Nat), i + d = xs.length → Ev (fun k => spec_RowFault.l0 k xs (i : Int)) (if (xs.drop i).all inC = true then 0 else 3) := by
  intro d
  induction d with
  | zero =>
    intro i hd
    refine Kit.Ev.up ?_
    simp only [spec_RowFault.l0]
    refine Kit.Ev.neg (by omega) (Kit.Ev.const ?_)
    rw [List.drop_eq_nil_of_le (by omega)]; simp
  | succ d ih =>
    intro i hd
    refine Kit.Ev.up ?_
    simp only [spec_RowFault.l0]
    refine Kit.Ev.pos (by omega) (Kit.Ev.pos (by omega) ?_)
    rw [specIn_eq]
    simp only [Option.bind_some]
    rw [rd_drop (xs := xs) (i := i) (by omega), w64n (n := xs.length) (by omega) hn]
    by_cases h : inC (rd xs (i : Int)) = true
    · refine Kit.Ev.pos h ((ih (i + 1) (by omega)).eq ?_)
      simp [h]
    · refine Kit.Ev.neg h (Kit.Ev.const ?_)
      simp [h]
theorem specRow_ev (xs : List Int) (hn : xs.length ≤ 9223372036854775807) : Ev (fun k => spec_RowFault.f k xs) (rowF xs) := by
  unfold spec_RowFault.f
  refine Kit.Ev.ite (fun h => Kit.Ev.const ?_) (fun h => ?_)
  · simp [rowF, show 4 < xs.length by omega]
  · exact (specRow_l0 xs hn xs.length 0 (by omega)).eq (by simp [rowF, show ¬ 4 < xs.length by omega])
theorem implRow_l0 (xs : List Int) (hn : xs.length ≤ 9223372036854775807) : ∀ (d i : Nat), i + d = xs.length → Ev (fun k => impl_RowFault.l0 k xs (xs.length : Int) (i : Int)) (if (xs.drop i).all inC = true then 0 else 3) := by
  intro d
  induction d with
  | zero =>
    intro i hd
    refine Kit.Ev.up ?_
    simp only [impl_RowFault.l0]
    refine Kit.Ev.neg (by omega) (Kit.Ev.const ?_)
    rw [List.drop_eq_nil_of_le (by omega)]; simp
  | succ d ih =>
    intro i hd
    refine Kit.Ev.up ?_
    simp only [impl_RowFault.l0]
    refine Kit.Ev.pos (by omega) (Kit.Ev.pos (by omega) (Kit.Ev.pos (by omega) ?_))
    rw [implIn_eq]
    simp only [Option.bind_some]
    rw [rd_drop (xs := xs) (i := i) (by omega), w64n (n := xs.length) (by omega) hn]
    by_cases h : inC (rd xs (i : Int)) = true
    · refine Kit.Ev.pos h ((ih (i + 1) (by omega)).eq ?_)
      simp [h]
    · refine Kit.Ev.neg h (Kit.Ev.const ?_)
      simp [h]
theorem implRow_ev (xs : List Int) (hn : xs.length ≤ 9223372036854775807) : Ev (fun k => impl_RowFault.f k xs) (rowF xs) := by
  unfold impl_RowFault.f
  refine Kit.Ev.ite (fun h => Kit.Ev.const ?_) (fun h => ?_)
  · simp [rowF, show 4 < xs.length by omega]
  · exact (implRow_l0 xs hn xs.length 0 (by omega)).eq (by simp [rowF, show ¬ 4 < xs.length by omega])
def cmpR : List Int → List Int → Int
  | [], [] => 0
  | [], _ :: _ => -1
  | _ :: _, [] => 1
  | a :: xs, b :: ys => if a < b then -1 else if b < a then 1 else cmpR xs ys
theorem cmpR_len : ∀ (xs ys : List Int), xs = [] ∨ ys = [] → cmpR xs ys = if xs.length < ys.length then -1 else if ys.length < xs.length then 1 else 0
  | [], [], _ => rfl
  | [], _ :: _, _ => by simp [cmpR]
  | _ :: _, [], _ => by simp [cmpR]
  | _ :: _, _ :: _, h => by simp at h
theorem specCmp_l0 (xs ys : List Int) (hn : xs.length ≤ 9223372036854775807) : ∀ (d i : Nat), i + d = min xs.length ys.length → Ev (fun k => spec_CompareRows.l0 k xs ys (i : Int)) (cmpR (xs.drop i) (ys.drop i)) := by
  intro d
  induction d with
  | zero =>
    intro i hd
    refine Kit.Ev.up (Kit.Ev.up ?_)
    simp only [spec_CompareRows.l0, spec_CompareRows.j1]
    have hend : Ev (fun _ : Nat => if (xs.length : Int) < (ys.length : Int) then some (-1 : Int) else if (xs.length : Int) > (ys.length : Int) then some 1 else some 0) (cmpR (xs.drop i) (ys.drop i)) := by
      refine Kit.Ev.const ?_
      rw [cmpR_len _ _ (by
        by_cases h : i = xs.length
        · exact .inl (List.drop_eq_nil_of_le (by omega))
        · exact .inr (List.drop_eq_nil_of_le (by omega)))]
      simp only [List.length_drop]
      by_cases h1 : xs.length < ys.length
      · rw [if_pos (by omega), if_pos (by omega)]
      · by_cases h2 : ys.length < xs.length
        · rw [if_neg (by omega), if_pos (by omega), if_neg (by omega), if_pos (by omega)]
        · rw [if_neg (by omega), if_neg (by omega), if_neg (by omega), if_neg (by omega)]
    refine Kit.Ev.ite (fun h => ?_) (fun h => ?_)
    · refine Kit.Ev.neg (by simp; omega) hend
    · exact Kit.Ev.neg (by simp) hend
  | succ d ih =>
    intro i hd
    refine Kit.Ev.up (Kit.Ev.up ?_)
    simp only [spec_CompareRows.l0, spec_CompareRows.j1]
    refine Kit.Ev.pos (by omega) (Kit.Ev.pos (by simp; omega) (Kit.Ev.pos (by omega) (Kit.Ev.pos (by omega) (Kit.Ev.pos (by omega) ?_))))
    rw [rd_drop (xs := xs) (i := i) (by omega), rd_drop (xs := ys) (i := i) (by omega), w64n (n := xs.length) (by omega) hn]
    simp only [cmpR]
    refine Kit.Ev.ite2 (fun _ => Kit.Ev.const rfl) (fun _ => ?_)
    exact Kit.Ev.ite2 (fun _ => Kit.Ev.const rfl) (fun _ => ih (i + 1) (by omega))
theorem specCmp_ev (xs ys : List Int) (hn : xs.length ≤ 9223372036854775807) : Ev (fun k => spec_CompareRows.f k xs ys) (cmpR xs ys) := specCmp_l0 xs ys hn _ 0 (Nat.zero_add _)
theorem cmp64_eq (a b : Int) : cmp_Compare_int64.f a b = some (if a < b then -1 else if b < a then 1 else 0) := by
  unfold cmp_Compare_int64.f cmp_isNaN_int64.f
  simp only [bne_self_eq_false, Option.bind_some, Bool.false_eq_true, if_false]
  by_cases h1 : a < b
  · simp [h1]
  · by_cases h2 : b < a <;> simp [h1, h2]
theorem cmpI_eq (a b : Int) : cmp_Compare_int.f a b = some (if a < b then -1 else if b < a then 1 else 0) := by
  unfold cmp_Compare_int.f cmp_isNaN_int.f
  simp only [bne_self_eq_false, Option.bind_some, Bool.false_eq_true, if_false]
  by_cases h1 : a < b
  · simp [h1]
  · by_cases h2 : b < a <;> simp [h1, h2]
theorem implCmp_l0 (xs ys : List Int) (hn : xs.length ≤ 9223372036854775807) : ∀ (d i : Nat), i + d = min xs.length ys.length → Ev (fun k => impl_CompareRows.l0 k xs ys ((min xs.length ys.length : Nat) : Int) (i : Int)) (cmpR (xs.drop i) (ys.drop i)) := by
  intro d
  induction d with
  | zero =>
    intro i hd
    refine Kit.Ev.up ?_
    simp only [impl_CompareRows.l0]
    refine Kit.Ev.neg (by omega) ?_
    rw [cmpI_eq]
    refine Kit.Ev.const ?_
    rw [cmpR_len _ _ (by
      by_cases h : i = xs.length
      · exact .inl (List.drop_eq_nil_of_le (by omega))
      · exact .inr (List.drop_eq_nil_of_le (by omega)))]
    simp only [List.length_drop, Option.bind_some]
    by_cases h1 : xs.length < ys.length
    · rw [if_pos (by omega), if_pos (by omega)]
    · by_cases h2 : ys.length < xs.length
      · rw [if_neg (by omega), if_pos (by omega), if_neg (by omega), if_pos (by omega)]
      · rw [if_neg (by omega), if_neg (by omega), if_neg (by omega), if_neg (by omega)]
  | succ d ih =>
    intro i hd
    refine Kit.Ev.up ?_
    simp only [impl_CompareRows.l0]
    refine Kit.Ev.pos (by omega) (Kit.Ev.pos (by omega) (Kit.Ev.pos (by omega) (Kit.Ev.pos (by omega) ?_)))
    rw [rd_drop (xs := xs) (i := i) (by omega), rd_drop (xs := ys) (i := i) (by omega), w64n (n := xs.length) (by omega) hn, cmp64_eq]
    simp only [cmpR, Option.bind_some]
    by_cases h1 : rd xs (i : Int) < rd ys (i : Int)
    · simp only [h1, if_true]; exact Kit.Ev.const rfl
    · by_cases h2 : rd ys (i : Int) < rd xs (i : Int)
      · simp only [h1, h2, if_true, if_false]; exact Kit.Ev.const rfl
      · simp only [h1, h2, if_true, if_false]; exact ih (i + 1) (by omega)
theorem implCmp_ev (xs ys : List Int) (hn : xs.length ≤ 9223372036854775807) : Ev (fun k => impl_CompareRows.f k xs ys) (cmpR xs ys) := by
  unfold impl_CompareRows.f
  refine Kit.Ev.ite (fun h => ?_) (fun h => ?_)
  · have := implCmp_l0 xs ys hn _ 0 (Nat.zero_add _)
    rwa [Nat.min_eq_right (by omega)] at this
  · have := implCmp_l0 xs ys hn _ 0 (Nat.zero_add _)
    rwa [Nat.min_eq_left (by omega)] at this
def BytesOk (l : List Int) : Prop := l.length ≤ 1048576 ∧ ∀ x ∈ l, 0 ≤ x ∧ x ≤ 255
theorem wfu8 {x : Int} (h : (Lit.int .u8 x).wf = true) : 0 ≤ x ∧ x ≤ 255 := by
  simp only [Lit.wf, Bool.and_eq_true, decide_eq_true_eq] at h
  obtain ⟨h0, h1⟩ := h
  have e0 : IntKind.u8.min = 0 := by rfl
  have e1 : IntKind.u8.max = 255 := by rfl
  rw [e0] at h0
  rw [e1] at h1
  exact ⟨h0, h1⟩
theorem bytesOk_of {l : List Int} (h : l.length ≤ 1048576) (hw : ∀ x ∈ l, (Lit.int .u8 x).wf = true) : BytesOk l := ⟨h, fun x hx => wfu8 (hw x hx)⟩
theorem BytesOk.rd {l : List Int} (h : BytesOk l) (i : Int) : 0 ≤ rd l i ∧ rd l i ≤ 255 := by
  unfold Go.Proofs.YthgmicingbjemaaDoorW.PrintWords.rd
  by_cases hi : i.toNat < l.length
  · rw [List.getD_eq_getElem?_getD, List.getElem?_eq_getElem hi]
    exact h.2 _ (List.getElem_mem hi)
  · rw [List.getD_eq_getElem?_getD, List.getElem?_eq_none (by omega)]
    simp
theorem tmod_in {x n : Int} (hx : 0 ≤ x) (hn : 1 ≤ n) : 0 ≤ Int.tmod x n ∧ Int.tmod x n < n := by
  rw [Int.tmod_eq_emod_of_nonneg hx]
  exact ⟨Int.emod_nonneg _ (by omega), Int.emod_lt_of_pos _ (by omega)⟩
theorem tdiv_in {x n : Int} (hx : 0 ≤ x) (hn : 1 ≤ n) : 0 ≤ Int.tdiv x n ∧ Int.tdiv x n ≤ x := by
  rw [Int.tdiv_eq_ediv_of_nonneg hx]
  exact ⟨Int.ediv_nonneg hx (by omega), Int.ediv_le_self _ hx⟩
/-- A draw of a number: it answers, within its bounds, and goes one place on. -/
theorem next_some {c : List Int} (hc : BytesOk c) {t : Int} (h0 : 0 ≤ t) (h1 : t ≤ 1000000000000) (n : Int) :
    ∃ v, spec_l1Next.f c t n = some (v, t + 1) ∧ (1 ≤ n → 0 ≤ v ∧ v < n) ∧ (n < 1 → v = 0) := by
  unfold spec_l1Next.f
  have e1 : wrap64 (t + 1) = t + 1 := Kit.w64 (by omega) (by omega)
  have e2 : wrap64 (t + 1 - 1) = t := by rw [Kit.w64 (by omega) (by omega)]; omega
  simp only [e1, e2]
  by_cases hn : n < 1
  · rw [if_pos hn]
    exact ⟨0, rfl, fun h => by omega, fun _ => rfl⟩
  rw [if_neg hn]
  have hn1 : 1 ≤ n := by omega
  by_cases hl : (c.length : Int) = 0
  · rw [if_pos hl, if_neg (by omega)]
    have e4 : wrap64 (t * 7) = t * 7 := Kit.w64 (by omega) (by omega)
    rw [e4]
    exact ⟨_, rfl, fun _ => tmod_in (by omega) hn1, fun h => by omega⟩
  rw [if_neg hl]
  have hl1 : 1 ≤ (c.length : Int) := by omega
  have m1 := tmod_in h0 hl1
  have m2 := tmod_in (x := t + 1) (by omega) hl1
  have q1 := tdiv_in h0 hl1
  have r1 := hc.rd (Int.tmod t (c.length : Int))
  have r2 := hc.rd (Int.tmod (t + 1) (c.length : Int))
  rw [if_pos m1.1, if_pos m1.2]
  generalize rd c (Int.tmod t (c.length : Int)) = x1 at *
  generalize rd c (Int.tmod (t + 1) (c.length : Int)) = x2 at *
  generalize Int.tdiv t (c.length : Int) = d at *
  have w1 : wrap64 x1 = x1 := Kit.w64 (by omega) (by omega)
  have w2 : wrap64 x2 = x2 := Kit.w64 (by omega) (by omega)
  have w3 : wrap64 d = d := Kit.w64 (by omega) (by omega)
  have w4 : wrap64 (d * 37) = d * 37 := Kit.w64 (by omega) (by omega)
  have w5 : wrap64 (x1 + d * 37) = x1 + d * 37 := Kit.w64 (by omega) (by omega)
  have w6 : wrap64 ((x1 + d * 37) * 251) = (x1 + d * 37) * 251 := Kit.w64 (by omega) (by omega)
  have w7 : wrap64 (x2 * 13) = x2 * 13 := Kit.w64 (by omega) (by omega)
  have w8 : wrap64 ((x1 + d * 37) * 251 + x2 * 13) = (x1 + d * 37) * 251 + x2 * 13 := Kit.w64 (by omega) (by omega)
  have w9 : wrap64 ((x1 + d * 37) * 251 + x2 * 13 + t) = (x1 + d * 37) * 251 + x2 * 13 + t := Kit.w64 (by omega) (by omega)
  by_cases h200 : n > 200
  · rw [if_pos h200, if_pos m2.1, if_pos m2.2, if_neg (by omega)]
    simp only [w1, w2, w3, w4, w5, w6, w7, w8, w9]
    exact ⟨_, rfl, fun _ => tmod_in (by omega) hn1, fun h => by omega⟩
  · rw [if_neg h200, if_neg (by omega)]
    simp only [w1, w3, w4, w5]
    exact ⟨_, rfl, fun _ => tmod_in (by omega) hn1, fun h => by omega⟩
theorem pick_some {c : List Int} (hc : BytesOk c) {t : Int} (h0 : 0 ≤ t) (h1 : t ≤ 1000000000000) (l : List Int) (hl : 1 ≤ l.length) :
    ∃ v, spec_l1Pick.f c t l = some (v, t + 1) ∧ v ∈ l := by
  unfold spec_l1Pick.f
  obtain ⟨v, e, hv, _⟩ := next_some hc h0 h1 (l.length : Int)
  obtain ⟨g0, g1⟩ := hv (by omega)
  rw [e]
  simp only [Option.bind_some]
  rw [if_pos g0, if_pos g1]
  refine ⟨_, rfl, ?_⟩
  unfold Go.Proofs.YthgmicingbjemaaDoorW.PrintWords.rd
  have hi : v.toNat < l.length := by omega
  rw [List.getD_eq_getElem?_getD, List.getElem?_eq_getElem hi]
  exact List.getElem_mem hi
theorem drawW_some {c : List Int} (hc : BytesOk c) {t : Int} (h0 : 0 ≤ t) (h1 : t ≤ 999999999000) : ∃ v, spec_l1DrawWeight.f c t = some (v, t + 3) := by
  unfold spec_l1DrawWeight.f
  obtain ⟨v1, e1, _⟩ := next_some hc h0 (by omega) 9
  obtain ⟨v2, e2, _⟩ := next_some hc (t := t + 1) (by omega) (by omega) 90000
  rw [e1]; simp only [Option.bind_some]
  rw [e2]; simp only [Option.bind_some]
  obtain ⟨v3, e3, _⟩ := pick_some hc (t := t + 1 + 1) (by omega) (by omega) ([wrap64 (v1 - 4), v2, 1000000000000, (-1000000000000), 1000000000001, 1000000, 1000001, 0, 4611686018427387904, (-9223372036854775808)] : List Int) (by simp)
  rw [e3]
  exact ⟨v3, by simp only [Option.bind_some]; congr 2; omega⟩
def sameB : List S31 → List S31 → Bool
  | [], [] => true
  | x :: xs, y :: ys => if x.f0 = y.f0 then (if x.f1 = y.f1 then sameB xs ys else false) else false
  | [], _ :: _ => false
  | _ :: _, [] => false
theorem sameB_iff : ∀ xs ys : List S31, sameB xs ys = true ↔ xs = ys
  | [], [] => by simp [sameB]
  | [], _ :: _ => by simp [sameB]
  | _ :: _, [] => by simp [sameB]
  | ⟨a, b⟩ :: xs, ⟨c, d⟩ :: ys => by
    simp only [sameB]
    by_cases h1 : a = c
    · by_cases h2 : b = d
      · rw [if_pos h1, if_pos h2, sameB_iff xs ys, h1, h2]; simp
      · rw [if_pos h1, if_neg h2]; simp [h2]
    · rw [if_neg h1]; simp [h1]
theorem sameB_len {xs ys : List S31} (h : ¬ (xs.length : Int) = (ys.length : Int)) : sameB xs ys = false := by
  cases e : sameB xs ys with
  | false => rfl
  | true => exact absurd (by rw [(sameB_iff xs ys).mp e]) h
theorem slicesEq_l0 (xs ys : List Int) (hn : xs.length ≤ 9223372036854775807) (hl : xs.length = ys.length) : ∀ (d i : Nat), i + d = xs.length → Ev (fun k => slices_Equal_int64_int64.l0 k xs ys (xs.length : Int) (i : Int)) (decide (xs.drop i = ys.drop i)) := by
  intro d
  induction d with
  | zero =>
    intro i hd
    refine Kit.Ev.up ?_
    simp only [slices_Equal_int64_int64.l0]
    refine Kit.Ev.neg (by omega) (Kit.Ev.const ?_)
    rw [List.drop_eq_nil_of_le (by omega), List.drop_eq_nil_of_le (by omega)]; simp
  | succ d ih =>
    intro i hd
    refine Kit.Ev.up ?_
    simp only [slices_Equal_int64_int64.l0]
    refine Kit.Ev.pos (by omega) (Kit.Ev.pos (by omega) (Kit.Ev.pos (by omega) (Kit.Ev.pos (by omega) ?_)))
    rw [rd_drop (xs := xs) (i := i) (by omega), rd_drop (xs := ys) (i := i) (by omega), w64n (n := xs.length) (by omega) hn]
    refine Kit.Ev.ite (fun h => ?_) (fun h => Kit.Ev.const ?_)
    · exact (ih (i + 1) (by omega)).eq (by rw [h]; simp)
    · simp [h]
theorem slicesEq_ev (xs ys : List Int) (hn : xs.length ≤ 9223372036854775807) : Ev (fun k => slices_Equal_int64_int64.f k xs ys) (decide (xs = ys)) := by
  unfold slices_Equal_int64_int64.f
  refine Kit.Ev.ite (fun h => ?_) (fun h => Kit.Ev.const ?_)
  · exact (slicesEq_l0 xs ys hn (by omega) xs.length 0 (by omega)).eq (by simp)
  · have : xs ≠ ys := fun e => h (by rw [e])
    simp [this]
theorem rdE_at {xs : List S31} {i : Nat} (h : i < xs.length) : rd_T31 xs (i : Int) = xs[i] := by simp [rd_T31, h]
theorem rdE_drop {xs : List S31} {i : Nat} (h : i < xs.length) : xs.drop i = rd_T31 xs (i : Int) :: xs.drop (i + 1) := by
  rw [rdE_at h]; exact List.drop_eq_getElem_cons h
theorem rdE_mem {xs : List S31} {i : Nat} (h : i < xs.length) : rd_T31 xs (i : Int) ∈ xs := by
  rw [rdE_at h]; exact List.getElem_mem h
/-- The rows are no longer than any machine's. -/
def Fine (l : List S31) : Prop := l.length ≤ 1048576 ∧ ∀ x ∈ l, x.f0.length ≤ 1048576
theorem Fine.n {l : List S31} (h : Fine l) : l.length ≤ 9223372036854775807 := by have := h.1; omega
theorem Fine.r {l : List S31} (h : Fine l) : ∀ x ∈ l, x.f0.length ≤ 9223372036854775807 := fun x hx => by have := h.2 x hx; omega
theorem implSame_l0 (xs ys : List S31) (hx : Fine xs) (hl : xs.length = ys.length) : ∀ (d i : Nat), i + d = xs.length → Ev (fun k => slices_EqualFunc_impl_sameSets_1.l0 k ys xs (xs.length : Int) (i : Int)) (sameB (xs.drop i) (ys.drop i)) := by
  intro d
  induction d with
  | zero =>
    intro i hd
    refine Kit.Ev.up ?_
    simp only [slices_EqualFunc_impl_sameSets_1.l0]
    refine Kit.Ev.neg (by omega) (Kit.Ev.const ?_)
    rw [List.drop_eq_nil_of_le (by omega), List.drop_eq_nil_of_le (by omega)]; simp [sameB]
  | succ d ih =>
    intro i hd
    refine Kit.Ev.up ?_
    simp only [slices_EqualFunc_impl_sameSets_1.l0, impl_sameSets_1.f]
    have hm := hx.r _ (rdE_mem (xs := xs) (i := i) (by omega))
    refine Kit.Ev.pos (by omega) (Kit.Ev.pos (by omega) (Kit.Ev.pos (by omega) (Kit.Ev.pos (by omega) ?_)))
    rw [rdE_drop (xs := xs) (i := i) (by omega), rdE_drop (xs := ys) (i := i) (by omega), w64n (n := xs.length) (by omega) hx.n]
    simp only [sameB]
    by_cases h1 : (rd_T31 xs (i : Int)).f1 = (rd_T31 ys (i : Int)).f1
    · refine Kit.Ev.then (Kit.Ev.pos h1 (Kit.Ev.then (slicesEq_ev _ _ hm) (Kit.Ev.const rfl))) ?_
      refine Kit.Ev.ite (fun h => ?_) (fun h => Kit.Ev.const ?_)
      · rw [if_pos (by simpa using h), if_pos h1]
        exact ih (i + 1) (by omega)
      · rw [if_neg (by simpa using h)]
    · refine Kit.Ev.then (a := false) (Kit.Ev.neg h1 (Kit.Ev.const rfl)) (Kit.Ev.neg (by decide) (Kit.Ev.const ?_))
      rw [if_neg h1]; simp
theorem implSameS_ev (xs ys : List S31) (hx : Fine xs) : Ev (fun k => impl_sameSets.f k xs ys) (sameB xs ys) := by
  unfold impl_sameSets.f slices_EqualFunc_impl_sameSets_1.f
  refine Kit.Ev.then (a := sameB xs ys) (Kit.Ev.ite (fun h => ?_) (fun h => Kit.Ev.const (by rw [sameB_len h]))) (Kit.Ev.const rfl)
  exact (implSame_l0 xs ys hx (by omega) xs.length 0 (by omega)).eq (by simp)
theorem implSame_ev (xs ys : List S31) (hx : Fine xs) : Ev (fun k => impl_SameSets.f k xs ys) (sameB xs ys) := by
  unfold impl_SameSets.f
  exact Kit.Ev.then (implSameS_ev xs ys hx) (Kit.Ev.const rfl)
theorem cmpR_trans : ∀ a b c : List Int, cmpR a b < 0 → cmpR b c < 0 → cmpR a c < 0
  | [], [], _, h, _ => by simp [cmpR] at h
  | [], _ :: _, [], _, h => by simp [cmpR] at h
  | [], _ :: _, _ :: _, _, _ => by simp [cmpR]
  | _ :: _, [], _, h, _ => by simp [cmpR] at h
  | _ :: _, _ :: _, [], _, h => by simp [cmpR] at h
  | x :: a, y :: b, z :: c, h1, h2 => by
    simp only [cmpR] at h1 h2 ⊢
    by_cases xy : x < y
    · by_cases yz : y < z
      · rw [if_pos (by omega)]; omega
      · by_cases zy : z < y
        · rw [if_neg yz, if_pos zy] at h2; omega
        · rw [if_pos (by omega)]; omega
    · by_cases yx : y < x
      · rw [if_neg xy, if_pos yx] at h1; omega
      · rw [if_neg xy, if_neg yx] at h1
        by_cases yz : y < z
        · rw [if_pos (by omega)]; omega
        · by_cases zy : z < y
          · rw [if_neg yz, if_pos zy] at h2; omega
          · rw [if_neg yz, if_neg zy] at h2
            rw [if_neg (by omega), if_neg (by omega)]
            exact cmpR_trans a b c h1 h2
def setG : Option (List Int) → List S31 → Int
  | _, [] => 0
  | p, x :: xs => if rowF x.f0 = 0 then (if isW x.f1 = true ∧ x.f1 ≠ 0 then (match p with | some q => if cmpR q x.f0 ≥ 0 then 1 else setG (some x.f0) xs | none => setG (some x.f0) xs) else 3) else rowF x.f0
def setF (l : List S31) : Int := if 200 < l.length then 2 else setG none l
def prevE (xs : List S31) (i : Nat) : Option (List Int) := if i = 0 then none else some (rd_T31 xs ((i - 1 : Nat) : Int)).f0
theorem prevE_succ (xs : List S31) (i : Nat) : prevE xs (i + 1) = some (rd_T31 xs (i : Int)).f0 := by simp [prevE]
theorem w64p {i : Nat} (h : 0 < i) (hn : i ≤ 9223372036854775807) : wrap64 ((i : Int) - 1) = ((i - 1 : Nat) : Int) := by
  rw [Kit.w64 (by omega) (by omega)]; omega
/-- The rows ascend. -/
def Srt (l : List S31) : Prop := l.Pairwise (fun x y => cmpR x.f0 y.f0 < 0)
theorem setG_srt : ∀ (p : Option (List Int)) (l : List S31), setG p l = 0 → Srt l ∧ ∀ q, p = some q → ∀ x ∈ l, cmpR q x.f0 < 0
  | _, [], _ => ⟨List.Pairwise.nil, fun _ _ _ h => by simp at h⟩
  | p, x :: xs, h => by
    simp only [setG] at h
    by_cases h1 : rowF x.f0 = 0
    · rw [if_pos h1] at h
      by_cases h2 : isW x.f1 = true ∧ x.f1 ≠ 0
      · rw [if_pos h2] at h
        cases p with
        | none =>
          obtain ⟨s, b⟩ := setG_srt _ _ h
          exact ⟨List.Pairwise.cons (fun y hy => b _ rfl y hy) s, fun q e => by cases e⟩
        | some q =>
          simp only at h
          by_cases h3 : cmpR q x.f0 ≥ 0
          · rw [if_pos h3] at h; omega
          · rw [if_neg h3] at h
            obtain ⟨s, b⟩ := setG_srt _ _ h
            refine ⟨List.Pairwise.cons (fun y hy => b _ rfl y hy) s, fun q' e y hy => ?_⟩
            injection e with e
            subst e
            rcases List.mem_cons.mp hy with rfl | hy
            · omega
            · exact cmpR_trans _ _ _ (by omega) (b _ rfl y hy)
      · rw [if_neg h2] at h; omega
    · rw [if_neg h1] at h; exact absurd h h1
theorem setF_srt {l : List S31} (h : setF l = 0) : Srt l := by
  unfold setF at h
  by_cases h1 : 200 < l.length
  · rw [if_pos h1] at h; omega
  · rw [if_neg h1] at h; exact (setG_srt _ _ h).1
theorem Srt.at_ {l : List S31} (h : Srt l) {i j : Nat} (hij : i < j) (hj : j < l.length) : cmpR (rd_T31 l (i : Int)).f0 (rd_T31 l (j : Int)).f0 < 0 := by
  rw [rdE_at (by omega), rdE_at hj]
  exact List.pairwise_iff_getElem.mp h i j (by omega) hj hij
def weightL (row : List Int) : List S31 → Int
  | [] => 0
  | x :: xs => if cmpR x.f0 row = 0 then x.f1 else weightL row xs
def weightF (row : List Int) (l : List S31) : Int × Int := if setF l = 0 then (if rowF row = 0 then (0, weightL row l) else (rowF row, 0)) else (setF l, 0)
theorem weightL_none {row : List Int} : ∀ {l : List S31}, (∀ x ∈ l, cmpR x.f0 row ≠ 0) → weightL row l = 0
  | [], _ => rfl
  | x :: xs, h => by
    simp only [weightL]
    rw [if_neg (h x (by simp)), weightL_none (fun y hy => h y (by simp [hy]))]
theorem weightL_at {row : List Int} : ∀ {l : List S31} {m : Nat}, m < l.length → (∀ q, q < m → cmpR (rd_T31 l (q : Int)).f0 row ≠ 0) → cmpR (rd_T31 l (m : Int)).f0 row = 0 → weightL row l = (rd_T31 l (m : Int)).f1
  | [], m, h, _, _ => by simp at h
  | x :: xs, 0, _, _, h0 => by
    simp only [weightL]
    have e : rd_T31 (x :: xs) ((0 : Nat) : Int) = x := rfl
    rw [e] at h0 ⊢
    rw [if_pos h0]
  | x :: xs, m + 1, h, hq, h0 => by
    simp only [weightL]
    have s : ∀ q : Nat, rd_T31 (x :: xs) ((q + 1 : Nat) : Int) = rd_T31 xs (q : Int) := fun q => by
      unfold rd_T31
      rw [Int.toNat_natCast, Int.toNat_natCast]
      simp
    have e : rd_T31 (x :: xs) ((0 : Nat) : Int) = x := rfl
    have h1 := hq 0 (by omega)
    rw [e] at h1
    rw [if_neg h1]
    rw [s] at h0 ⊢
    exact weightL_at (by simpa using h) (fun q hqm => by rw [← s]; exact hq (q + 1) (by omega)) h0
def eE (x : S31) : Sum.En := (x.f0, x.f1)
def dE (p : Sum.En) : S31 := ⟨p.1, p.2⟩
theorem dE_eE (l : List S31) : (l.map eE).map dE = l := by rw [List.map_map]; exact List.map_id _
def putE : List S31 → S31 → List S31
  | [], e => [e]
  | x :: xs, e => if cmpR x.f0 e.f0 < 0 then x :: putE xs e else if cmpR x.f0 e.f0 = 0 then ⟨x.f0, wrap64 (x.f1 + e.f1)⟩ :: xs else e :: x :: xs
theorem cmpR_sum : ∀ a b : List Int, cmpR a b = Sum.cmpR a b
  | [], [] => rfl
  | [], _ :: _ => rfl
  | _ :: _, [] => rfl
  | x :: xs, y :: ys => by unfold cmpR Sum.cmpR; rw [cmpR_sum xs ys]
theorem putE_sum : ∀ (l : List S31) (e : S31), (putE l e).map eE = Sum.put (l.map eE) (eE e)
  | [], _ => rfl
  | x :: xs, e => by
    rw [List.map_cons]
    unfold putE Sum.put
    rw [cmpR_sum]
    show _ = if Sum.cmpR x.f0 e.f0 < 0 then _ else if Sum.cmpR x.f0 e.f0 = 0 then _ else _
    by_cases h1 : Sum.cmpR x.f0 e.f0 < 0
    · rw [if_pos h1, if_pos h1, List.map_cons, putE_sum xs e]
    · rw [if_neg h1, if_neg h1]
      by_cases h2 : Sum.cmpR x.f0 e.f0 = 0
      · rw [if_pos h2, if_pos h2]; rfl
      · rw [if_neg h2, if_neg h2]; rfl
theorem foldE_sum : ∀ (l s : List S31), (l.foldl putE s).map eE = (l.map eE).foldl Sum.put (s.map eE)
  | [], _ => rfl
  | x :: xs, s => by rw [List.foldl_cons, List.map_cons, List.foldl_cons, foldE_sum xs, putE_sum]
theorem putE_len : ∀ (l : List S31) (e : S31), (putE l e).length ≤ l.length + 1
  | [], _ => by simp [putE]
  | x :: xs, e => by
    have := putE_len xs e
    unfold putE
    split
    · simp only [List.length_cons]; omega
    · split <;> simp only [List.length_cons] <;> omega
theorem putE_rows : ∀ (l : List S31) (e : S31) {n : Nat}, (∀ x ∈ l, x.f0.length ≤ n) → e.f0.length ≤ n → ∀ x ∈ putE l e, x.f0.length ≤ n
  | [], e, n, _, he => by intro x hx; unfold putE at hx; rw [List.mem_singleton.mp hx]; exact he
  | y :: ys, e, n, hl, he => by
    have ih := putE_rows ys e (n := n) (fun x hx => hl x (List.mem_cons_of_mem _ hx)) he
    have hy := hl y (List.mem_cons_self ..)
    intro x hx
    unfold putE at hx
    split at hx
    · rcases List.mem_cons.mp hx with rfl | hx
      · exact hy
      · exact ih x hx
    · split at hx
      · rcases List.mem_cons.mp hx with rfl | hx
        · exact hy
        · exact hl x (List.mem_cons_of_mem _ hx)
      · rcases List.mem_cons.mp hx with rfl | hx
        · exact he
        · exact hl x hx
/-- The entries put together, and a code. -/
def sumF (l : List S31) : List S31 × Int := ((Sum.sumSet (l.map eE)).1.map dE, (Sum.sumSet (l.map eE)).2)
def nzE (x : S31) : Bool := decide (x.f1 ≠ 0)
def badE (x : S31) : Bool := !isW x.f1
def finE (s : List S31) : List S31 × Int := if s.any badE = true then ([], 8) else if 200 < (s.filter nzE).length then ([], 2) else (s.filter nzE, 0)
theorem finE_sum (s : List S31) : finE s = ((Sum.finish (s.map eE)).1.map dE, (Sum.finish (s.map eE)).2) := by
  have e1 : (s.map eE).any (fun e => !(decide (-1000000000000 ≤ e.2) && decide (e.2 ≤ 1000000000000))) = s.any badE := by
    rw [List.any_map]
    congr 1
    funext x
    show (!(decide (-1000000000000 ≤ x.f1) && decide (x.f1 ≤ 1000000000000))) = !isW x.f1
    unfold isW
    rw [Bool.decide_and]
  have e2 : (s.map eE).filter (fun e => decide (e.2 ≠ 0)) = (s.filter nzE).map eE := by
    rw [List.filter_map]; rfl
  unfold finE Sum.finish
  rw [e1, e2, List.length_map]
  by_cases c1 : s.any badE = true
  · rw [if_pos c1, if_pos c1]; rfl
  · rw [if_neg c1, if_neg c1]
    by_cases c2 : 200 < (s.filter nzE).length
    · rw [if_pos c2, if_pos c2]; rfl
    · rw [if_neg c2, if_neg c2, dE_eE]
theorem sumF_fin (l : List S31) : sumF l = finE (l.foldl putE []) := by
  unfold sumF
  rw [finE_sum, foldE_sum]
  rfl
theorem finE_len (s : List S31) : (finE s).1.length ≤ 200 := by
  unfold finE
  repeat' split
  · simp
  · simp
  · simp only; omega
theorem foldE_rows {n : Nat} : ∀ (l s : List S31), (∀ x ∈ l, x.f0.length ≤ n) → (∀ x ∈ s, x.f0.length ≤ n) → ∀ x ∈ l.foldl putE s, x.f0.length ≤ n
  | [], _, _, hs => hs
  | y :: ys, s, hl, hs => by
    rw [List.foldl_cons]
    exact foldE_rows ys _ (fun x hx => hl x (List.mem_cons_of_mem _ hx)) (putE_rows s y hs (hl y (List.mem_cons_self ..)))
theorem sumF_fine {l : List S31} (h : Fine l) : Fine (sumF l).1 := by
  rw [sumF_fin]
  refine ⟨Nat.le_trans (finE_len _) (by omega), fun x hx => ?_⟩
  refine foldE_rows (n := 1048576) l [] h.2 (by simp) x ?_
  unfold finE at hx
  split at hx
  · simp at hx
  · split at hx
    · simp at hx
    · exact (List.mem_filter.mp hx).1
theorem l2Row_eq (l : List Int) (h : l.length ≤ 1048576) : spec_l2Row.f l = some l := by
  unfold spec_l2Row.f
  simp only [Option.bind_some, List.nil_append]
  rw [if_pos (by simp only [List.length_nil]; omega)]
theorem l2Put_j1 (xs : List S31) (row : List Int) (w : Int) (hl : xs.length ≤ 1048576) (hx : ∀ x ∈ xs, x.f0.length ≤ 1048576) (hr : row.length ≤ 1048576) (i : Nat) (hi : i ≤ xs.length) (h2 : ∀ (hi : i < xs.length), ¬ cmpR xs[i].f0 row < 0) :
    Ev (fun k => spec_l2Put.j1 k xs (i : Int) row w) (xs.take i ++ putE (xs.drop i) ⟨row, w⟩) := by
  have len : (xs.take i).length = i := by rw [List.length_take]; omega
  have len2 : (xs.drop i).length = xs.length - i := List.length_drop
  refine Kit.Ev.up ?_
  simp only [spec_l2Put.j1, Option.bind_some, List.nil_append, l2Row_eq _ hr, Int.toNat_natCast]
  by_cases hlt : i < xs.length
  · have hd : xs.drop i = xs[i] :: xs.drop (i + 1) := List.drop_eq_getElem_cons hlt
    have hm := hx _ (List.getElem_mem hlt)
    simp only [rdE_at hlt]
    refine Kit.Ev.pos (by omega) (Kit.Ev.pos (by omega) (Kit.Ev.then (specCmp_ev _ row (by omega)) ?_))
    by_cases h0 : cmpR xs[i].f0 row = 0
    · refine Kit.Ev.pos h0 (Kit.Ev.const ?_)
      rw [hd, List.set_eq_take_append_cons_drop, if_pos hlt]
      unfold putE
      rw [if_neg (h2 hlt), if_pos h0]
    · refine Kit.Ev.neg h0 (Kit.Ev.pos (by omega) (Kit.Ev.pos (by simp only [List.length_nil, len]; omega) (Kit.Ev.pos (by rw [len]; omega) (Kit.Ev.pos (by simp only [List.length_append, len, len2, List.length_cons, List.length_nil]; omega) (Kit.Ev.const ?_)))))
      rw [hd]
      unfold putE
      rw [if_neg (h2 hlt), if_neg h0, List.append_assoc]; rfl
  · have hd : xs.drop i = [] := List.drop_eq_nil_of_le (by omega)
    refine Kit.Ev.neg (by omega) (Kit.Ev.pos (by omega) (Kit.Ev.pos (by omega) (Kit.Ev.pos (by simp only [List.length_nil, len]; omega) (Kit.Ev.pos (by rw [len]; omega) (Kit.Ev.pos (by simp only [List.length_append, len, len2, List.length_cons, List.length_nil]; omega) (Kit.Ev.const ?_))))))
    rw [hd]
    unfold putE
    rw [List.append_nil]
theorem l2Put_l0 (xs : List S31) (row : List Int) (w : Int) (hl : xs.length ≤ 1048576) (hx : ∀ x ∈ xs, x.f0.length ≤ 1048576) (hr : row.length ≤ 1048576) : ∀ (d i : Nat), i + d = xs.length → Ev (fun k => spec_l2Put.l0 k xs (i : Int) row w) (xs.take i ++ putE (xs.drop i) ⟨row, w⟩) := by
  intro d
  induction d with
  | zero =>
    intro i hd
    refine Kit.Ev.up ?_
    simp only [spec_l2Put.l0]
    exact Kit.Ev.neg (by omega) (l2Put_j1 xs row w hl hx hr i (by omega) (fun h => by omega))
  | succ d ih =>
    intro i hd
    have hlt : i < xs.length := by omega
    have hdr : xs.drop i = xs[i] :: xs.drop (i + 1) := List.drop_eq_getElem_cons hlt
    have hm := hx _ (List.getElem_mem hlt)
    refine Kit.Ev.up ?_
    simp only [spec_l2Put.l0, rdE_at hlt]
    refine Kit.Ev.pos (by omega) (Kit.Ev.pos (by omega) (Kit.Ev.then (specCmp_ev _ row (by omega)) ?_))
    by_cases h : cmpR xs[i].f0 row < 0
    · refine Kit.Ev.pos h ?_
      rw [w64n (n := xs.length) (by omega) (by omega)]
      refine (ih (i + 1) (by omega)).eq ?_
      rw [hdr, List.take_add_one, List.getElem?_eq_getElem hlt, List.append_assoc]
      show _ = _ ++ putE (xs[i] :: _) _
      conv => rhs; unfold putE
      rw [if_pos h]; rfl
    · exact Kit.Ev.neg h (l2Put_j1 xs row w hl hx hr i (by omega) (fun _ => h))
theorem l2Put_ev (xs : List S31) (row : List Int) (w : Int) (hl : xs.length ≤ 1048576) (hx : ∀ x ∈ xs, x.f0.length ≤ 1048576) (hr : row.length ≤ 1048576) : Ev (fun k => spec_l2Put.f k xs row w) (putE xs ⟨row, w⟩) := by
  unfold spec_l2Put.f
  exact l2Put_l0 xs row w hl hx hr xs.length 0 (by omega)
theorem l2Set_l1 (all : List S31) (hl : all.length ≤ 1048576) : ∀ (d i : Nat) (out : List S31), i + d = all.length → out.length ≤ i → Ev (fun k => spec_l2Set.l1 k all out (i : Int)) (if (all.drop i).any badE = true then ([], 8) else if 200 < (out ++ (all.drop i).filter nzE).length then ([], 2) else (out ++ (all.drop i).filter nzE, 0)) := by
  intro d
  induction d with
  | zero =>
    intro i out hd ho
    refine Kit.Ev.up ?_
    simp only [spec_l2Set.l1]
    refine Kit.Ev.neg (by omega) ?_
    rw [List.drop_eq_nil_of_le (by omega)]
    simp only [List.any_nil, Bool.false_eq_true, if_false, List.filter_nil, List.append_nil]
    by_cases h : 200 < out.length
    · rw [if_pos h]; exact Kit.Ev.pos (by omega) (Kit.Ev.const rfl)
    · rw [if_neg h]; exact Kit.Ev.neg (by omega) (Kit.Ev.const rfl)
  | succ d ih =>
    intro i out hd ho
    have hlt : i < all.length := by omega
    have hdr : all.drop i = all[i] :: all.drop (i + 1) := List.drop_eq_getElem_cons hlt
    refine Kit.Ev.up ?_
    simp only [spec_l2Set.l1, rdE_at hlt, specWeight_eq, Option.bind_some]
    rw [hdr, List.any_cons, List.filter_cons, w64n (n := all.length) (by omega) (by omega)]
    refine Kit.Ev.pos (by omega) (Kit.Ev.pos (by omega) ?_)
    by_cases hw : isW all[i].f1 = true
    · have hb : badE all[i] = false := by unfold badE; rw [hw]; rfl
      rw [hb, Bool.false_or]
      refine Kit.Ev.pos hw ?_
      by_cases hz : all[i].f1 = 0
      · have hn : nzE all[i] = false := by unfold nzE; simp [hz]
        simp only [hn, Bool.false_eq_true, if_false]
        exact Kit.Ev.pos hz (ih (i + 1) out (by omega) (by omega))
      · have hn : nzE all[i] = true := by unfold nzE; simp [hz]
        rw [if_pos hn]
        refine Kit.Ev.neg hz (Kit.Ev.pos (by omega) ?_)
        refine (ih (i + 1) (out ++ [all[i]]) (by omega) (by rw [List.length_append]; simp only [List.length_cons, List.length_nil]; omega)).eq ?_
        rw [List.append_assoc]; rfl
    · have hb : badE all[i] = true := by unfold badE; simp only [Bool.not_eq_true] at hw; rw [hw]; rfl
      rw [hb, Bool.true_or, if_pos rfl]
      exact Kit.Ev.neg hw (Kit.Ev.const rfl)
theorem l2Set_l0 (xs : List S31) (hx : Fine xs) : ∀ (d i : Nat) (acc : List S31), i + d = xs.length → acc.length ≤ i → (∀ x ∈ acc, x.f0.length ≤ 1048576) → Ev (fun k => spec_l2Set.l0 k xs acc (i : Int)) (finE ((xs.drop i).foldl putE acc)) := by
  have hl := hx.1
  intro d
  induction d with
  | zero =>
    intro i acc hd ha hr
    refine Kit.Ev.up ?_
    simp only [spec_l2Set.l0]
    refine Kit.Ev.neg (by omega) ?_
    rw [List.drop_eq_nil_of_le (by omega), List.foldl_nil]
    exact l2Set_l1 acc (by omega) acc.length 0 [] (by omega) (by simp)
  | succ d ih =>
    intro i acc hd ha hr
    have hlt : i < xs.length := by omega
    have hm := hx.2 _ (List.getElem_mem hlt)
    have hpl := putE_len acc xs[i]
    refine Kit.Ev.up ?_
    simp only [spec_l2Set.l0, rdE_at hlt]
    rw [List.drop_eq_getElem_cons hlt, List.foldl_cons, w64n (n := xs.length) (by omega) hx.n]
    refine Kit.Ev.pos (by omega) (Kit.Ev.pos (by omega) (Kit.Ev.then (l2Put_ev acc xs[i].f0 xs[i].f1 (by omega) hr hm) ?_))
    exact ih (i + 1) (putE acc xs[i]) (by omega) (by omega) (putE_rows acc xs[i] hr hm)
theorem l2Set_ev (xs : List S31) (hx : Fine xs) : Ev (fun k => spec_l2Set.f k xs) (sumF xs) := by
  unfold spec_l2Set.f
  rw [sumF_fin]
  exact l2Set_l0 xs hx xs.length 0 [] (by omega) (by simp) (by simp)
theorem summed_eq (xs : List S31) (hx : Fine xs) (hw : ∀ x ∈ xs, -9223372036854775808 ≤ x.f1 ∧ x.f1 ≤ 9223372036854775807) : impl_summed.f xs = some (sumF xs) := by
  unfold impl_summed.f
  rw [if_pos ⟨hx.1, fun x hx' => ⟨hx.2 x hx', hw x hx'⟩⟩]
  rfl
/-- The first fault among entries: of a row, or of a weight. -/
def chkF : List S31 → Int
  | [] => 0
  | x :: xs => if rowF x.f0 = 0 then (if isW x.f1 = true then chkF xs else 3) else rowF x.f0
theorem chkF_ok : ∀ {l : List S31}, chkF l = 0 → ∀ x ∈ l, isW x.f1 = true
  | [], _ => by simp
  | y :: ys, h => by
    unfold chkF at h
    by_cases h1 : rowF y.f0 = 0
    · rw [if_pos h1] at h
      by_cases h2 : isW y.f1 = true
      · rw [if_pos h2] at h
        intro x hx
        rcases List.mem_cons.mp hx with rfl | hx
        · exact h2
        · exact chkF_ok h x hx
      · rw [if_neg h2] at h; exact absurd h (by decide)
    · rw [if_neg h1] at h; exact absurd h h1
def consF (l : List S31) : Int × List S31 := if 800 < l.length then (2, []) else if chkF l = 0 then ((sumF l).2, (sumF l).1) else (chkF l, [])
theorem consF_fine {l : List S31} (hx : Fine l) : Fine (consF l).2 := by
  have nil : Fine ([] : List S31) := ⟨by simp, by simp⟩
  unfold consF
  repeat' split
  · exact nil
  · exact sumF_fine hx
  · exact nil
theorem specCons_l0 (xs : List S31) (hx : Fine xs) : ∀ (d i : Nat), i + d = xs.length → Ev (fun k => spec_Consolidate.l0 k xs (i : Int)) (if chkF (xs.drop i) = 0 then ((sumF xs).2, (sumF xs).1) else (chkF (xs.drop i), [])) := by
  have hl := hx.1
  intro d
  induction d with
  | zero =>
    intro i hd
    refine Kit.Ev.up ?_
    simp only [spec_Consolidate.l0]
    refine Kit.Ev.neg (by omega) ?_
    rw [List.drop_eq_nil_of_le (by omega)]
    exact Kit.Ev.then (l2Set_ev xs hx) (Kit.Ev.const rfl)
  | succ d ih =>
    intro i hd
    have hlt : i < xs.length := by omega
    have hm := hx.2 _ (List.getElem_mem hlt)
    refine Kit.Ev.up ?_
    simp only [spec_Consolidate.l0, rdE_at hlt, specWeight_eq, Option.bind_some]
    rw [List.drop_eq_getElem_cons hlt, w64n (n := xs.length) (by omega) hx.n]
    refine Kit.Ev.pos (by omega) (Kit.Ev.pos (by omega) (Kit.Ev.then (specRow_ev _ (by omega)) ?_))
    unfold chkF
    by_cases h1 : rowF xs[i].f0 = 0
    · rw [if_pos h1]
      refine Kit.Ev.pos h1 ?_
      by_cases h2 : isW xs[i].f1 = true
      · rw [if_pos h2]; exact Kit.Ev.pos h2 (ih (i + 1) (by omega))
      · rw [if_neg h2]; exact Kit.Ev.neg h2 (Kit.Ev.const rfl)
    · rw [if_neg h1, if_neg h1]; exact Kit.Ev.neg h1 (Kit.Ev.const rfl)
theorem specCons_ev (xs : List S31) (hx : Fine xs) : Ev (fun k => spec_Consolidate.f k xs) (consF xs) := by
  unfold spec_Consolidate.f consF
  by_cases h : 800 < xs.length
  · rw [if_pos h]; exact Kit.Ev.pos (by omega) (Kit.Ev.const rfl)
  · rw [if_neg h]; exact Kit.Ev.neg (by omega) (specCons_l0 xs hx xs.length 0 (by omega))
theorem implCons_l0 (xs : List S31) (hx : Fine xs) : ∀ (d i : Nat), i + d = xs.length → (∀ x ∈ xs.take i, isW x.f1 = true) → Ev (fun k => impl_Consolidate.l0 k xs xs (xs.length : Int) (i : Int)) (if chkF (xs.drop i) = 0 then ((sumF xs).2, (sumF xs).1) else (chkF (xs.drop i), [])) := by
  have hl := hx.1
  intro d
  induction d with
  | zero =>
    intro i hd hw
    refine Kit.Ev.up ?_
    simp only [impl_Consolidate.l0]
    refine Kit.Ev.neg (by omega) ?_
    rw [List.drop_eq_nil_of_le (by omega)]
    rw [List.take_of_length_le (by omega)] at hw
    refine Kit.Ev.call (summed_eq xs hx (fun x hx' => ?_)) (Kit.Ev.const rfl)
    have := isW_iff.mp (hw x hx')
    omega
  | succ d ih =>
    intro i hd hw
    have hlt : i < xs.length := by omega
    have hm := hx.2 _ (List.getElem_mem hlt)
    refine Kit.Ev.up ?_
    simp only [impl_Consolidate.l0, rdE_at hlt, implWeight_eq, Option.bind_some]
    rw [List.drop_eq_getElem_cons hlt, w64n (n := xs.length) (by omega) hx.n]
    refine Kit.Ev.pos (by omega) (Kit.Ev.pos (by omega) (Kit.Ev.pos (by omega) (Kit.Ev.then (implRow_ev _ (by omega)) ?_)))
    unfold chkF
    by_cases h1 : rowF xs[i].f0 = 0
    · rw [if_pos h1]
      refine Kit.Ev.pos h1 ?_
      by_cases h2 : isW xs[i].f1 = true
      · rw [if_pos h2]
        refine Kit.Ev.pos h2 (ih (i + 1) (by omega) (fun x hx' => ?_))
        rw [List.take_add_one, List.getElem?_eq_getElem hlt] at hx'
        rcases List.mem_append.mp hx' with h | h
        · exact hw x h
        · rw [List.mem_singleton.mp h]; exact h2
      · rw [if_neg h2]; exact Kit.Ev.neg h2 (Kit.Ev.const rfl)
    · rw [if_neg h1, if_neg h1]; exact Kit.Ev.neg h1 (Kit.Ev.const rfl)
theorem implCons_ev (xs : List S31) (hx : Fine xs) : Ev (fun k => impl_Consolidate.f k xs) (consF xs) := by
  unfold impl_Consolidate.f consF
  by_cases h : 800 < xs.length
  · rw [if_pos h]; exact Kit.Ev.pos (by omega) (Kit.Ev.const rfl)
  · rw [if_neg h]; exact Kit.Ev.neg (by omega) (implCons_l0 xs hx xs.length 0 (by omega) (by simp))
theorem clone_eq (l : List Int) (h : l.length ≤ 1048576) : slices_Clone_int64_int64.f l = some l := by
  unfold slices_Clone_int64_int64.f
  rw [if_pos (by omega)]
def negE (x : S31) : S31 := ⟨x.f0, -x.f1⟩
def negF (l : List S31) : Int × List S31 := if setF l = 0 then (0, l.map negE) else (setF l, [])
theorem setG_ok : ∀ (p : Option (List Int)) (l : List S31), setG p l = 0 → ∀ x ∈ l, rowF x.f0 = 0 ∧ isW x.f1 = true ∧ x.f1 ≠ 0
  | _, [], _, _, h => by simp at h
  | p, x :: xs, h, y, hy => by
    simp only [setG] at h
    by_cases h1 : rowF x.f0 = 0
    · rw [if_pos h1] at h
      by_cases h2 : isW x.f1 = true ∧ x.f1 ≠ 0
      · rw [if_pos h2] at h
        have hr : setG (some x.f0) xs = 0 := by
          cases p with
          | none => exact h
          | some q =>
            simp only at h
            by_cases h3 : cmpR q x.f0 ≥ 0
            · rw [if_pos h3] at h; omega
            · rw [if_neg h3] at h; exact h
        rcases List.mem_cons.mp hy with rfl | hy
        · exact ⟨h1, h2.1, h2.2⟩
        · exact setG_ok _ xs hr y hy
      · rw [if_neg h2] at h; omega
    · rw [if_neg h1] at h; exact absurd h h1
theorem setF_ok {l : List S31} (h : setF l = 0) : l.length ≤ 200 ∧ ∀ x ∈ l, rowF x.f0 = 0 ∧ isW x.f1 = true ∧ x.f1 ≠ 0 := by
  unfold setF at h
  by_cases h1 : 200 < l.length
  · rw [if_pos h1] at h; omega
  · rw [if_neg h1] at h; exact ⟨by omega, setG_ok _ _ h⟩
theorem isW_in {x : Int} (h : isW x = true) : -1000000000000 ≤ x ∧ x ≤ 1000000000000 := by
  simpa [isW] using h
/-- The entries times a number, as far as all products are weights. -/
def scaledF (by_ : Int) : List S31 → List S31 → List S31 × Bool
  | out, [] => (out, true)
  | out, x :: xs => if (mulP x.f1 by_).2 = true then (if (mulP x.f1 by_).1 = 0 then scaledF by_ out xs else scaledF by_ (out ++ [⟨x.f0, (mulP x.f1 by_).1⟩]) xs) else ([], false)
theorem implScaled_l0 (xs : List S31) (hx : Fine xs) (by_ : Int) (hb : isW by_ = true) (hw : ∀ x ∈ xs, isW x.f1 = true) : ∀ (d i : Nat) (out : List S31), i + d = xs.length → out.length ≤ i → Ev (fun k => impl_scaled.l0 k by_ out xs (xs.length : Int) (i : Int)) (scaledF by_ out (xs.drop i)) := by
  have hl := hx.1
  intro d
  induction d with
  | zero =>
    intro i out hd _
    refine Kit.Ev.up ?_
    simp only [impl_scaled.l0]
    refine Kit.Ev.neg (by omega) (Kit.Ev.const ?_)
    rw [List.drop_eq_nil_of_le (by omega)]; rfl
  | succ d ih =>
    intro i out hd ho
    refine Kit.Ev.up ?_
    simp only [impl_scaled.l0]
    have hm := rdE_mem (xs := xs) (i := i) (by omega)
    rw [rdE_drop (xs := xs) (i := i) (by omega)]
    refine Kit.Ev.pos (by omega) (Kit.Ev.pos (by omega) (Kit.Ev.pos (by omega) (Kit.Ev.then (implMulP_ev _ _ (hw _ hm) hb) ?_)))
    rw [w64n (n := xs.length) (by omega) hx.n]
    simp only [scaledF]
    by_cases h1 : (mulP (rd_T31 xs (i : Int)).f1 by_).2 = true
    · rw [if_pos h1]
      refine Kit.Ev.pos h1 ?_
      by_cases h2 : (mulP (rd_T31 xs (i : Int)).f1 by_).1 = 0
      · rw [if_pos h2]
        exact Kit.Ev.pos h2 (ih (i + 1) out (by omega) (by omega))
      · rw [if_neg h2]
        refine Kit.Ev.neg h2 (Kit.Ev.call (clone_eq _ (hx.2 _ hm)) (Kit.Ev.pos (by omega) ?_))
        exact ih (i + 1) _ (by omega) (by rw [List.length_append]; simp only [List.length_cons, List.length_nil]; omega)
    · rw [if_neg h1]
      exact Kit.Ev.neg h1 (Kit.Ev.const rfl)
theorem implScaled_ev (xs : List S31) (hx : Fine xs) (by_ : Int) (hb : isW by_ = true) (hw : ∀ x ∈ xs, isW x.f1 = true) : Ev (fun k => impl_scaled.f k xs by_) (scaledF by_ [] xs) := by
  unfold impl_scaled.f
  exact implScaled_l0 xs hx by_ hb hw xs.length 0 [] (by omega) (by simp)
def scaleR (p : List S31 × Bool) : Int × List S31 := if p.2 = true then (0, p.1) else (8, [])
def scaleF (by_ : Int) (l : List S31) : Int × List S31 := if setF l = 0 then (if isW by_ = true then scaleR (scaledF by_ [] l) else (3, [])) else (setF l, [])
theorem scaledF_fine (by_ : Int) : ∀ (xs out : List S31), (∀ x ∈ xs, x.f0.length ≤ 1048576) → (∀ x ∈ out, x.f0.length ≤ 1048576) → (scaledF by_ out xs).1.length ≤ out.length + xs.length ∧ ∀ x ∈ (scaledF by_ out xs).1, x.f0.length ≤ 1048576
  | [], out, _, ho => ⟨by simp [scaledF], by simpa [scaledF] using ho⟩
  | x :: xs, out, hx, ho => by
    simp only [scaledF]
    have hxs : ∀ y ∈ xs, y.f0.length ≤ 1048576 := fun y hy => hx y (by simp [hy])
    by_cases h1 : (mulP x.f1 by_).2 = true
    · rw [if_pos h1]
      by_cases h2 : (mulP x.f1 by_).1 = 0
      · rw [if_pos h2]
        obtain ⟨a, b⟩ := scaledF_fine by_ xs out hxs ho
        exact ⟨by simp only [List.length_cons]; omega, b⟩
      · rw [if_neg h2]
        obtain ⟨a, b⟩ := scaledF_fine by_ xs (out ++ [⟨x.f0, (mulP x.f1 by_).1⟩]) hxs (fun y hy => by
          rcases List.mem_append.mp hy with h | h
          · exact ho y h
          · rw [List.mem_singleton] at h; rw [h]; exact hx x (by simp))
        rw [List.length_append] at a
        simp only [List.length_cons, List.length_nil] at a
        exact ⟨by simp only [List.length_cons]; omega, b⟩
    · rw [if_neg h1]; exact ⟨by simp, by simp⟩
theorem scaleF_fine (by_ : Int) {l : List S31} (hx : Fine l) : Fine (scaleF by_ l).2 := by
  have nil : Fine ([] : List S31) := ⟨by simp, by simp⟩
  unfold scaleF
  by_cases h : setF l = 0
  · rw [if_pos h]
    by_cases hb : isW by_ = true
    · rw [if_pos hb]
      unfold scaleR
      obtain ⟨a, b⟩ := scaledF_fine by_ l [] hx.2 (by simp)
      have := hx.1
      simp only [List.length_nil] at a
      by_cases h2 : (scaledF by_ [] l).2 = true
      · rw [if_pos h2]; exact ⟨by show (scaledF by_ [] l).1.length ≤ 1048576; omega, b⟩
      · rw [if_neg h2]; exact nil
    · rw [if_neg hb]; exact nil
  · rw [if_neg h]; exact nil
theorem implSet_l0 (xs : List S31) (hx : Fine xs) : ∀ (d i : Nat), i + d = xs.length → Ev (fun k => impl_SetFault.l0 k xs xs (xs.length : Int) (i : Int)) (setG (prevE xs i) (xs.drop i)) := by
  have hn := hx.n
  intro d
  induction d with
  | zero =>
    intro i hd
    refine Kit.Ev.up ?_
    simp only [impl_SetFault.l0]
    refine Kit.Ev.neg (by omega) (Kit.Ev.const ?_)
    rw [List.drop_eq_nil_of_le (by omega)]; simp [setG]
  | succ d ih =>
    intro i hd
    have hm := hx.r _ (rdE_mem (xs := xs) (i := i) (by omega))
    have hj : ∀ b : Bool, b = ! decide (isW (rd_T31 xs (i : Int)).f1 = true ∧ (rd_T31 xs (i : Int)).f1 ≠ 0) → rowF (rd_T31 xs (i : Int)).f0 = 0 → Ev (fun k => impl_SetFault.j1 k xs (i : Int) xs (xs.length : Int) (i : Int) b (rd_T31 xs (i : Int)).f0 (rd_T31 xs (i : Int)).f1) (setG (prevE xs i) (xs.drop i)) := by
      intro b hb hrow
      rw [rdE_drop (xs := xs) (i := i) (by omega)]
      simp only [setG]
      rw [if_pos hrow]
      refine Kit.Ev.up ?_
      simp only [impl_SetFault.j1]
      by_cases hw : isW (rd_T31 xs (i : Int)).f1 = true ∧ (rd_T31 xs (i : Int)).f1 ≠ 0
      · rw [if_pos hw]
        refine Kit.Ev.neg (by rw [hb]; simp [hw]) ?_
        by_cases h0 : i = 0
        · subst h0
          refine Kit.Ev.neg (by omega) ?_
          rw [w64n (n := xs.length) (by omega) hn]
          have := ih 1 (by omega)
          rw [show prevE xs 1 = some (rd_T31 xs ((0 : Nat) : Int)).f0 from prevE_succ xs 0] at this
          simpa [prevE] using this
        · refine Kit.Ev.pos (by omega) ?_
          rw [w64p (by omega) (by omega)]
          have hp := hx.r _ (rdE_mem (xs := xs) (i := i - 1) (by omega))
          refine Kit.Ev.pos (by omega) (Kit.Ev.pos (by omega) ?_)
          refine Kit.Ev.then (implCmp_ev _ _ hp) ?_
          rw [w64n (n := xs.length) (by omega) hn, show prevE xs i = some (rd_T31 xs ((i - 1 : Nat) : Int)).f0 from by simp [prevE, h0]]
          dsimp only
          refine Kit.Ev.ite (fun hc => Kit.Ev.const ?_) (fun hc => ?_)
          · rw [if_pos (by omega)]
          · rw [if_neg (by omega), ← prevE_succ]
            exact ih (i + 1) (by omega)
      · rw [if_neg hw]
        exact Kit.Ev.pos (by rw [hb]; simp only [hw, decide_false]; rfl) (Kit.Ev.const rfl)
    refine Kit.Ev.up ?_
    simp only [impl_SetFault.l0]
    refine Kit.Ev.pos (by omega) (Kit.Ev.pos (by omega) (Kit.Ev.pos (by omega) (Kit.Ev.then (implRow_ev _ hm) ?_)))
    refine Kit.Ev.ite (fun hrow => ?_) (fun hrow => Kit.Ev.const ?_)
    · rw [implWeight_eq]
      simp only [Option.bind_some]
      refine Kit.Ev.ite (fun hw => hj _ ?_ hrow) (fun hw => hj _ ?_ hrow)
      · by_cases hz : (rd_T31 xs (i : Int)).f1 = 0 <;> simp [hw, hz]
      · simp [hw]
    · rw [rdE_drop (xs := xs) (i := i) (by omega)]
      simp only [setG]
      rw [if_neg hrow]
theorem implSet_ev (xs : List S31) (hx : Fine xs) : Ev (fun k => impl_SetFault.f k xs) (setF xs) := by
  unfold impl_SetFault.f setF
  refine Kit.Ev.ite (fun h => Kit.Ev.const ?_) (fun h => ?_)
  · rw [if_pos (by omega)]
  · rw [if_neg (by omega)]
    exact (implSet_l0 xs hx xs.length 0 (by omega)).eq (by simp [prevE])
theorem implScale_ev (l : List S31) (hx : Fine l) (by_ : Int) : Ev (fun k => impl_ScaleSet.f k l by_) (scaleF by_ l) := by
  unfold impl_ScaleSet.f scaleF
  refine Kit.Ev.then (implSet_ev l hx) (Kit.Ev.ite (fun h => ?_) (fun h => Kit.Ev.const (by rw [if_neg h])))
  rw [if_pos h]
  obtain ⟨h1, h2⟩ := setF_ok h
  refine Kit.Ev.call (implWeight_eq by_) (Kit.Ev.ite (fun hb => ?_) (fun hb => Kit.Ev.const (by rw [if_neg hb])))
  rw [if_pos hb]
  refine Kit.Ev.then (implScaled_ev l hx by_ hb (fun x hx' => (h2 x hx').2.1)) ?_
  unfold scaleR
  exact Kit.Ev.ite2 (fun _ => Kit.Ev.const rfl) (fun _ => Kit.Ev.const rfl)
def cellB (c : Int) : List Int := [((c + 549755813888) / 4294967296) % 256, ((c + 549755813888) / 16777216) % 256, ((c + 549755813888) / 65536) % 256, ((c + 549755813888) / 256) % 256, (c + 549755813888) % 256]
def packR (r : List Int) : List Int := ((r.length : Int) % 256) :: r.flatMap cellB
def packG : List Int → List (List Int) → Int × List Int
  | out, [] => (0, out)
  | out, r :: rs => if rowF r = 0 then packG (out ++ packR r) rs else (rowF r, [])
def packV (rows : List (List Int)) : Int × List Int := if 60 < rows.length then (2, []) else packG [] rows
theorem rowF_zero {r : List Int} (h : rowF r = 0) : r.length ≤ 4 ∧ ∀ x ∈ r, -1000000000 ≤ x ∧ x ≤ 1000000000 := by
  unfold rowF at h
  by_cases h1 : 4 < r.length
  · rw [if_pos h1] at h; omega
  · rw [if_neg h1] at h
    by_cases h2 : r.all inC = true
    · refine ⟨by omega, fun x hx => ?_⟩
      have := List.all_eq_true.mp h2 x hx
      simpa [inC] using this
    · rw [if_neg h2] at h; omega
theorem cells_len : ∀ r : List Int, (r.flatMap cellB).length = 5 * r.length
  | [] => rfl
  | x :: r => by rw [List.flatMap_cons, List.length_append, cells_len r]; simp only [cellB, List.length_cons, List.length_nil]; omega
theorem packR_len (r : List Int) : (packR r).length = 1 + 5 * r.length := by simp only [packR, List.length_cons, cells_len]; omega
theorem rd2_drop {xs : List (List Int)} {i : Nat} (h : i < xs.length) : xs.drop i = rd_L2 xs (i : Int) :: xs.drop (i + 1) := by
  rw [List.drop_eq_getElem_cons h]
  simp [rd_L2, List.getD_eq_getElem?_getD, List.getElem?_eq_getElem h]
theorem rd2_mem {xs : List (List Int)} {i : Nat} (h : i < xs.length) : rd_L2 xs (i : Int) ∈ xs := by
  simp only [rd_L2, Int.toNat_natCast, List.getD_eq_getElem?_getD, List.getElem?_eq_getElem h, Option.getD_some]
  exact List.getElem_mem h
theorem rd_mem {xs : List Int} {i : Nat} (h : i < xs.length) : rd xs (i : Int) ∈ xs := by
  rw [Kit.rd_at h]; exact List.getElem_mem h
def cellV (a b c d e : Int) : Int := (((a * 256 + b) * 256 + c) * 256 + d) * 256 + e - 549755813888
def cells : Nat → List Int → List Int
  | 0, _ => []
  | n + 1, l => cellV (rd l 0) (rd l 1) (rd l 2) (rd l 3) (rd l 4) :: cells n (l.drop 5)
def rowOk (b : Int) (rest : List Int) : Prop := b ≤ 4 ∧ 5 * b ≤ (rest.length : Int) ∧ rowF (cells b.toNat rest) = 0
instance (b : Int) (rest : List Int) : Decidable (rowOk b rest) := by unfold rowOk; infer_instance
def unG : Nat → Int → List (List Int) → List Int → Int × Int × List (List Int)
  | 0, _, rows, _ => (0, 0, rows)
  | _ + 1, _, rows, [] => (0, 0, rows)
  | n + 1, at_, rows, b :: rest =>
    if rowOk b rest ∧ rows.length ≠ 60 then unG n (at_ + 1 + 5 * b) (rows ++ [cells b.toNat rest]) (rest.drop (5 * b.toNat)) else (5, at_, [])
def unV (data : List Int) : Int × Int × List (List Int) := unG (data.length + 1) 0 [] data
theorem cells_length : ∀ (n : Nat) (l : List Int), (cells n l).length = n
  | 0, _ => rfl
  | n + 1, l => by simp only [cells, List.length_cons, cells_length n]
theorem cells_snoc : ∀ (n : Nat) (l : List Int), cells (n + 1) l = cells n l ++ [cellV (rd (l.drop (5 * n)) 0) (rd (l.drop (5 * n)) 1) (rd (l.drop (5 * n)) 2) (rd (l.drop (5 * n)) 3) (rd (l.drop (5 * n)) 4)]
  | 0, l => by simp [cells]
  | n + 1, l => by
    rw [cells, cells_snoc n (l.drop 5), cells, List.cons_append, List.drop_drop]
    rw [show 5 + 5 * n = 5 * (n + 1) by omega]
theorem rd_dropi (l : List Int) (m i : Nat) : rd (l.drop m) (i : Int) = rd l ((m + i : Nat) : Int) := by
  rw [Kit.rd_nat, Kit.rd_nat, List.getD_eq_getElem?_getD, List.getD_eq_getElem?_getD, List.getElem?_drop]
theorem cmpR_zero : ∀ xs ys : List Int, cmpR xs ys = 0 ↔ xs = ys
  | [], [] => by simp [cmpR]
  | [], _ :: _ => by simp [cmpR]
  | _ :: _, [] => by simp [cmpR]
  | a :: xs, b :: ys => by
    simp only [cmpR]
    by_cases h1 : a < b
    · rw [if_pos h1]; simp; omega
    · by_cases h2 : b < a
      · rw [if_neg h1, if_pos h2]; simp; omega
      · rw [if_neg h1, if_neg h2, cmpR_zero xs ys]
        have : a = b := by omega
        simp [this]
theorem cmpR_in : ∀ xs ys : List Int, cmpR xs ys = -1 ∨ cmpR xs ys = 0 ∨ cmpR xs ys = 1
  | [], [] => by simp [cmpR]
  | [], _ :: _ => by simp [cmpR]
  | _ :: _, [] => by simp [cmpR]
  | a :: xs, b :: ys => by
    simp only [cmpR]
    by_cases h1 : a < b
    · rw [if_pos h1]; simp
    · by_cases h2 : b < a
      · rw [if_neg h1, if_pos h2]; simp
      · rw [if_neg h1, if_neg h2]; exact cmpR_in xs ys
theorem cell_some {c : List Int} (hc : BytesOk c) {t : Int} (h0 : 0 ≤ t) (h1 : t ≤ 999999999000) : ∃ v, spec_l1Cell.f c t = some (v, t + 6) := by
  unfold spec_l1Cell.f
  obtain ⟨v1, e1, _⟩ := next_some hc h0 (by omega) 4
  obtain ⟨v2, e2, _⟩ := next_some hc (t := t + 1) (by omega) (by omega) 4
  obtain ⟨v3, e3, _⟩ := next_some hc (t := t + 1 + 1) (by omega) (by omega) 4
  obtain ⟨v4, e4, _⟩ := next_some hc (t := t + 1 + 1 + 1) (by omega) (by omega) 5
  obtain ⟨v5, e5, _⟩ := next_some hc (t := t + 1 + 1 + 1 + 1) (by omega) (by omega) 90000
  simp only [e1, e2, e3, e4, e5, Option.bind_some]
  obtain ⟨v6, e6, _⟩ := pick_some hc (t := t + 1 + 1 + 1 + 1 + 1) (by omega) (by omega) ([v1, v2, v3, wrap64 (-v4), v5] : List Int) (by simp)
  rw [e6]
  exact ⟨v6, by simp only [Option.bind_some]; congr 2; omega⟩
theorem row_ev {c : List Int} (hc : BytesOk c) : ∀ (n : Nat) (t : Int) (acc : List Int), n ≤ 100 → acc.length + n ≤ 1000 → 0 ≤ t → t + 6 * n ≤ 999999900000 → ∃ r, Ev (fun k => spec_l1Row.l0 k (n : Int) acc c t) (r, t + 6 * n) ∧ r.length = acc.length + n := by
  intro n
  induction n with
  | zero =>
    intro t acc _ _ _ _
    refine ⟨acc, Kit.Ev.up ?_, by omega⟩
    simp only [spec_l1Row.l0]
    exact Kit.Ev.neg (by omega) (Kit.Ev.const (by congr 2; omega))
  | succ n ih =>
    intro t acc hn ha h0 h1
    obtain ⟨v, e⟩ := cell_some hc h0 (by omega)
    obtain ⟨r, H, hr⟩ := ih (t + 6) (acc ++ [v]) (by omega) (by rw [List.length_append]; simp only [List.length_cons, List.length_nil]; omega) (by omega) (by omega)
    refine ⟨r, Kit.Ev.up ?_, by rw [hr, List.length_append]; simp only [List.length_cons, List.length_nil]; omega⟩
    simp only [spec_l1Row.l0]
    refine Kit.Ev.pos (by omega) (Kit.Ev.call e (Kit.Ev.pos (by omega) ?_))
    have e1 : wrap64 (((n + 1 : Nat) : Int) - 1) = (n : Int) := by rw [Kit.w64 (by omega) (by omega)]; omega
    rw [e1]
    exact H.eq (by congr 1; omega)
theorem row_some {c : List Int} (hc : BytesOk c) {t : Int} (h0 : 0 ≤ t) (h1 : t ≤ 999999000000) {n : Int} (hn : 0 ≤ n) (hn' : n ≤ 100) : ∃ r, Ev (fun k => spec_l1Row.f k c t n) (r, t + 6 * n) ∧ (r.length : Int) = n := by
  obtain ⟨m, rfl⟩ := Int.eq_ofNat_of_zero_le hn
  obtain ⟨r, H, hr⟩ := row_ev hc m t [] (by omega) (by simp; omega) h0 (by omega)
  exact ⟨r, H, by simp at hr; omega⟩
theorem chance_some {c : List Int} (hc : BytesOk c) {t : Int} (h0 : 0 ≤ t) (h1 : t ≤ 1000000000000) (n : Int) : ∃ b, spec_l1Chance.f c t n = some (b, t + 1) := by
  unfold spec_l1Chance.f
  obtain ⟨v, e, _⟩ := next_some hc h0 h1 n
  exact ⟨_, by rw [e]; rfl⟩
theorem bent_some {c : List Int} (hc : BytesOk c) {t : Int} (h0 : 0 ≤ t) (h1 : t ≤ 999998000000) : ∃ r t', Ev (fun k => spec_l1Bent.f k c t) (r, t') ∧ r.length ≤ 5 ∧ t ≤ t' ∧ t' ≤ t + 1000 := by
  have j1 : ∀ (r : List Int) (u : Int), r.length ≤ 5 → t ≤ u → u ≤ t + 500 → ∃ r' t', Ev (fun k => spec_l1Bent.j1 k r c u) (r', t') ∧ r'.length ≤ 5 ∧ t ≤ t' ∧ t' ≤ t + 1000 := by
    intro r u hr hu hu'
    obtain ⟨b, e⟩ := chance_some hc (t := u) (by omega) (by omega) 24
    by_cases hb : b = true
    · obtain ⟨r', H, hl⟩ := row_some hc (t := u + 1) (by omega) (by omega) (n := 5) (by omega) (by omega)
      refine ⟨r', u + 1 + 6 * 5, Kit.Ev.up ?_, by omega, by omega, by omega⟩
      simp only [spec_l1Bent.j1]
      exact Kit.Ev.call e (Kit.Ev.pos hb (Kit.Ev.then H (Kit.Ev.const rfl)))
    · refine ⟨r, u + 1, Kit.Ev.up ?_, hr, by omega, by omega⟩
      simp only [spec_l1Bent.j1]
      exact Kit.Ev.call e (Kit.Ev.neg hb (Kit.Ev.const rfl))
  have j0 : ∀ (r : List Int) (b : Bool) (u : Int), r.length ≤ 5 → (b = true → 0 < r.length) → t ≤ u → u ≤ t + 400 → ∃ r' t', Ev (fun k => spec_l1Bent.j0 k r b c u) (r', t') ∧ r'.length ≤ 5 ∧ t ≤ t' ∧ t' ≤ t + 1000 := by
    intro r b u hr hb hu hu'
    by_cases h : b = true
    · obtain ⟨v, e, _⟩ := pick_some hc (t := u) (by omega) (by omega) ([1000000000, (-1000000000), 1000000001, (-1000000001), 4611686018427387904, (-9223372036854775808)] : List Int) (by simp)
      obtain ⟨r', t', H, q⟩ := j1 (r.set (0 : Int).toNat v) (u + 1) (by rw [List.length_set]; exact hr) (by omega) (by omega)
      refine ⟨r', t', Kit.Ev.up ?_, q⟩
      simp only [spec_l1Bent.j0]
      have := hb h
      exact Kit.Ev.pos h (Kit.Ev.call e (Kit.Ev.pos (by omega) H))
    · obtain ⟨r', t', H, q⟩ := j1 r u hr (by omega) (by omega)
      refine ⟨r', t', Kit.Ev.up ?_, q⟩
      simp only [spec_l1Bent.j0]
      exact Kit.Ev.neg h H
  obtain ⟨n, e1, hv, _⟩ := next_some hc h0 (by omega) 5
  obtain ⟨g0, g1⟩ := hv (by omega)
  obtain ⟨r, H1, hl⟩ := row_some hc (t := t + 1) (by omega) (by omega) (n := n) (by omega) (by omega)
  by_cases hp : (r.length : Int) > 0
  · obtain ⟨b, e2⟩ := chance_some hc (t := t + 1 + 6 * n) (by omega) (by omega) 12
    obtain ⟨r', t', H, q⟩ := j0 r b (t + 1 + 6 * n + 1) (by omega) (fun _ => by omega) (by omega) (by omega)
    refine ⟨r', t', ?_, q⟩
    unfold spec_l1Bent.f
    exact Kit.Ev.call e1 (Kit.Ev.then H1 (Kit.Ev.pos hp (Kit.Ev.call e2 H)))
  · obtain ⟨r', t', H, q⟩ := j0 r false (t + 1 + 6 * n) (by omega) (fun h => absurd h (by decide +kernel)) (by omega) (by omega)
    refine ⟨r', t', ?_, q⟩
    unfold spec_l1Bent.f
    exact Kit.Ev.call e1 (Kit.Ev.then H1 (Kit.Ev.neg hp H))
theorem cmpR_anti : ∀ xs ys : List Int, cmpR xs ys = - cmpR ys xs
  | [], [] => rfl
  | [], _ :: _ => rfl
  | _ :: _, [] => rfl
  | a :: xs, b :: ys => by
    simp only [cmpR]
    have ih := cmpR_anti xs ys
    by_cases h1 : a < b
    · rw [if_pos h1, if_neg (by omega), if_pos h1]
    · by_cases h2 : b < a
      · rw [if_neg h1, if_pos h2, if_pos h2]; rfl
      · rw [if_neg h1, if_neg h2, if_neg h2, if_neg h1]; exact ih
def totW (s : Int) (l : List S31) : Int := l.foldl (fun s x => wrap64 (s + x.f1)) s
def totalF (l : List S31) : Int × Int := if setF l = 0 then (0, totW 0 l) else (setF l, 0)
theorem implTotal_l0 (xs : List S31) (hn : xs.length ≤ 9223372036854775807) : ∀ (d i : Nat) (s : Int), i + d = xs.length → Ev (fun k => impl_TotalWeight.l0 k s xs (xs.length : Int) (i : Int)) (0, totW s (xs.drop i)) := by
  intro d
  induction d with
  | zero =>
    intro i s hd
    refine Kit.Ev.up ?_
    simp only [impl_TotalWeight.l0]
    refine Kit.Ev.neg (by omega) (Kit.Ev.const ?_)
    rw [List.drop_eq_nil_of_le (by omega)]; simp [totW]
  | succ d ih =>
    intro i s hd
    refine Kit.Ev.up ?_
    simp only [impl_TotalWeight.l0]
    refine Kit.Ev.pos (by omega) (Kit.Ev.pos (by omega) (Kit.Ev.pos (by omega) ?_))
    rw [rdE_drop (xs := xs) (i := i) (by omega), w64n (n := xs.length) (by omega) hn]
    exact ih (i + 1) _ (by omega)
theorem implTotal_ev (xs : List S31) (hx : Fine xs) : Ev (fun k => impl_TotalWeight.f k xs) (totalF xs) := by
  unfold impl_TotalWeight.f totalF
  refine Kit.Ev.then (implSet_ev xs hx) (Kit.Ev.ite (fun h => ?_) (fun h => Kit.Ev.const ?_))
  · rw [if_pos h]; exact implTotal_l0 xs hx.n xs.length 0 0 (by omega)
  · rw [if_neg h]
def addF (a b : List S31) : Int × List S31 := if setF a = 0 then (if setF b = 0 then ((sumF (a ++ b)).2, (sumF (a ++ b)).1) else (setF b, [])) else (setF a, [])
theorem fine_app {a b : List S31} (ha : setF a = 0) (hb : setF b = 0) : Fine (a ++ b) := by
  obtain ⟨n1, h1⟩ := setF_ok ha
  obtain ⟨n2, h2⟩ := setF_ok hb
  refine ⟨by rw [List.length_append]; omega, fun x hx => ?_⟩
  rcases List.mem_append.mp hx with h | h
  · have := (rowF_zero (h1 x h).1).1; omega
  · have := (rowF_zero (h2 x h).1).1; omega
theorem addF_fine (a b : List S31) : Fine (addF a b).2 := by
  have nil : Fine ([] : List S31) := ⟨by simp, by simp⟩
  unfold addF
  by_cases h1 : setF a = 0
  · rw [if_pos h1]
    by_cases h2 : setF b = 0
    · rw [if_pos h2]; exact sumF_fine (fine_app h1 h2)
    · rw [if_neg h2]; exact nil
  · rw [if_neg h1]; exact nil
/-- Bytes as a text. -/
def ba (l : List UInt8) : ByteArray := ⟨l.toArray⟩
theorem ba_size (l : List UInt8) : (ba l).size = l.length := by
  show l.toArray.size = _
  simp
theorem ba_app (a b : List UInt8) : ba a ++ ba b = ba (a ++ b) := by
  apply ByteArray.ext
  rw [ByteArray.data_append]
  simp [ba]
theorem ba_one (x : Int) (h0 : 0 ≤ x) (h1 : x < 256) : strOfNums [x] = ba [UInt8.ofNat x.toNat] := by
  unfold strOfNums ba
  congr 1
theorem dec_len (u : Nat) : (Lib.decDigits u).length ≤ u + 1 := by
  induction u using Nat.strongRecOn with
  | _ u ih =>
    rw [Lib.decDigits]
    by_cases h : u < 10
    · rw [dif_pos h]; simp
    · rw [dif_neg h, List.length_append]
      have := ih (u / 10) (by omega)
      simp only [List.length_cons, List.length_nil]
      omega
theorem itoa_len (n : Int) : (Lib.itoa n).length ≤ n.natAbs + 2 := by
  unfold Lib.itoa
  by_cases h : n < 0
  · rw [if_pos h, List.length_cons]
    have := dec_len n.natAbs
    omega
  · rw [if_neg h]
    have := dec_len n.toNat
    omega
/-- A row's cells, each with the blank behind it. -/
def cellsT (cs : List Int) : List UInt8 := (cs.map fun c => Lib.itoa c ++ [32]).flatten
def tailT (w : Int) : List UInt8 := [58, 32] ++ Lib.itoa w ++ [10]
def textT : List S31 → List UInt8
  | [] => []
  | x :: xs => cellsT x.f0 ++ tailT x.f1 ++ textT xs
theorem cellsT_len : ∀ (cs : List Int), (∀ c ∈ cs, -1000000000 ≤ c ∧ c ≤ 1000000000) → (cellsT cs).length ≤ cs.length * 1000000003
  | [], _ => by simp [cellsT]
  | c :: cs, h => by
    have ih := cellsT_len cs (fun x hx => h x (List.mem_cons_of_mem _ hx))
    have hc := h c (List.mem_cons_self ..)
    have hl := itoa_len c
    have e : cellsT (c :: cs) = Lib.itoa c ++ [32] ++ cellsT cs := by simp [cellsT]
    rw [e, List.length_append, List.length_append, List.length_cons, List.length_cons, List.length_nil]
    omega
theorem tailT_len (w : Int) (h : -1000000000000 ≤ w ∧ w ≤ 1000000000000) : (tailT w).length ≤ 1000000000005 := by
  have hl := itoa_len w
  unfold tailT
  simp only [List.length_append, List.length_cons, List.length_nil]
  omega
theorem textT_len : ∀ (l : List S31), (∀ x ∈ l, rowF x.f0 = 0 ∧ isW x.f1 = true) → (textT l).length ≤ l.length * 1010000000000
  | [], _ => by simp [textT]
  | x :: xs, h => by
    have ih := textT_len xs (fun y hy => h y (List.mem_cons_of_mem _ hy))
    obtain ⟨h1, h2⟩ := h x (List.mem_cons_self ..)
    obtain ⟨r1, r2⟩ := rowF_zero h1
    have hc := cellsT_len x.f0 r2
    have ht := tailT_len x.f1 (isW_iff.mp h2)
    unfold textT
    rw [List.length_append, List.length_append, List.length_cons]
    omega
theorem cellsT_cons (c : Int) (cs : List Int) : cellsT (c :: cs) = Lib.itoa c ++ [32] ++ cellsT cs := by simp [cellsT]
def textF (l : List S31) : ByteArray := if setF l = 0 then ba (textT l) else ba []
theorem setF_good {l : List S31} (h : setF l = 0) : (∀ x ∈ l, rowF x.f0 = 0 ∧ isW x.f1 = true) ∧ (textT l).length ≤ 202000000000000 := by
  obtain ⟨h1, h2⟩ := setF_ok h
  have hg : ∀ x ∈ l, rowF x.f0 = 0 ∧ isW x.f1 = true := fun x hx => ⟨(h2 x hx).1, (h2 x hx).2.1⟩
  have := textT_len l hg
  exact ⟨hg, by omega⟩
theorem join_row : ∀ (cs : List Int) (w : Int), Lib.join (cs.map Lib.itoa ++ [[58], Lib.itoa w]) [32] = cellsT cs ++ [58, 32] ++ Lib.itoa w
  | [], w => by rw [List.map_nil, List.nil_append, Lib.join_cons]; simp [Lib.joinTail, cellsT]
  | c :: cs, w => by
    have ih := join_row cs w
    rw [List.map_cons, List.cons_append, Lib.join_cons]
    have e : ∀ (l : List (List UInt8)), l ≠ [] → Lib.joinTail [32] l = [32] ++ Lib.join l [32] := by
      intro l hl
      cases l with
      | nil => exact absurd rfl hl
      | cons y r => rw [Lib.join_cons]; simp [Lib.joinTail]
    rw [e _ (by simp), ih]
    simp [cellsT]
theorem dec_eq (n : Int) (h0 : -1000000000000 ≤ n) (h1 : n ≤ 1000000000000) : impl_decimal.f n = some (ba (Lib.itoa n)) := by
  unfold impl_decimal.f
  rw [if_pos ⟨by omega, by omega⟩]; rfl
theorem dataL (l : List (List UInt8)) : (l.map ba).map (fun b => b.data.toList) = l := by
  rw [List.map_map]
  exact (List.map_congr_left (fun x _ => by simp [ba])).trans (List.map_id l)
theorem implText_l1 (xs : List S31) (hx : Fine xs) (hg : ∀ x ∈ xs, rowF x.f0 = 0 ∧ isW x.f1 = true) (i : Nat) (hi : i < xs.length) (acc : List UInt8)
    (hb : acc.length + (cellsT (rd_T31 xs (i : Int)).f0 ++ tailT (rd_T31 xs (i : Int)).f1 ++ textT (xs.drop (i + 1))).length ≤ 4000000000000000000)
    (next : ∀ acc : List UInt8, acc.length + (textT (xs.drop (i + 1))).length ≤ 4000000000000000000 → Ev (fun k => impl_SetText.l0 k (ba acc) xs (xs.length : Int) ((i + 1 : Nat) : Int)) (ba (acc ++ textT (xs.drop (i + 1))))) :
    ∀ (d j : Nat), j + d = (rd_T31 xs (i : Int)).f0.length →
      Ev (fun k => impl_SetText.l1 k (ba acc) ((((rd_T31 xs (i : Int)).f0.take j).map Lib.itoa).map ba) xs (xs.length : Int) (i : Int) (rd_T31 xs (i : Int)).f0 ((rd_T31 xs (i : Int)).f0.length : Int) (j : Int) (rd_T31 xs (i : Int)).f0 (rd_T31 xs (i : Int)).f1) (ba (acc ++ (cellsT (rd_T31 xs (i : Int)).f0 ++ tailT (rd_T31 xs (i : Int)).f1 ++ textT (xs.drop (i + 1))))) := by
  obtain ⟨hrow, hw⟩ := hg _ (rdE_mem (xs := xs) (i := i) hi)
  obtain ⟨hr1, hr2⟩ := rowF_zero hrow
  have hwb := isW_iff.mp hw
  intro d
  induction d with
  | zero =>
    intro j hd
    have htk : (rd_T31 xs (i : Int)).f0.take j = (rd_T31 xs (i : Int)).f0 := List.take_of_length_le (by omega)
    rw [htk]
    have hcl := cellsT_len _ hr2
    have htl := tailT_len _ hwb
    have hil := itoa_len (rd_T31 xs (i : Int)).f1
    simp only [List.length_append] at hb
    have et : (tailT (rd_T31 xs (i : Int)).f1).length = 2 + (Lib.itoa (rd_T31 xs (i : Int)).f1).length + 1 := by
      unfold tailT
      simp only [List.length_append, List.length_cons, List.length_nil]
    refine Kit.Ev.up ?_
    simp only [impl_SetText.l1]
    refine Kit.Ev.neg (by omega) (Kit.Ev.call (dec_eq _ hwb.1 hwb.2) ?_)
    simp only [Option.bind_some]
    refine Kit.Ev.pos (by simp only [List.length_map, List.length_cons, List.length_nil]; omega) ?_
    have ej : strings_Join.f ((((rd_T31 xs (i : Int)).f0).map Lib.itoa).map ba ++ [(⟨#[58]⟩ : ByteArray), ba (Lib.itoa (rd_T31 xs (i : Int)).f1)]) (⟨#[32]⟩ : ByteArray) = some (ba (cellsT (rd_T31 xs (i : Int)).f0 ++ [58, 32] ++ Lib.itoa (rd_T31 xs (i : Int)).f1)) := by
      have e0 : (((rd_T31 xs (i : Int)).f0).map Lib.itoa).map ba ++ [(⟨#[58]⟩ : ByteArray), ba (Lib.itoa (rd_T31 xs (i : Int)).f1)] = (((rd_T31 xs (i : Int)).f0).map Lib.itoa ++ [[58], Lib.itoa (rd_T31 xs (i : Int)).f1]).map ba := by
        rw [List.map_append]; rfl
      have es : (⟨#[32]⟩ : ByteArray).data.toList = [32] := rfl
      rw [e0]
      unfold strings_Join.f
      rw [dataL, es, join_row]
      rw [if_pos ⟨by simp only [List.length_map, List.length_append, List.length_cons, List.length_nil]; omega, by simp only [List.length_append, List.length_cons, List.length_nil]; omega⟩]
      rfl
    refine Kit.Ev.call ej ?_
    have e3 : ba (cellsT (rd_T31 xs (i : Int)).f0 ++ [58, 32] ++ Lib.itoa (rd_T31 xs (i : Int)).f1) ++ (⟨#[10]⟩ : ByteArray) = ba (cellsT (rd_T31 xs (i : Int)).f0 ++ [58, 32] ++ Lib.itoa (rd_T31 xs (i : Int)).f1 ++ [10]) := ba_app _ [10]
    simp only [e3, ba_app]
    refine Kit.Ev.pos (by simp only [ba_size, List.length_append, List.length_cons, List.length_nil]; omega) (Kit.Ev.pos (by simp only [ba_size, List.length_append, List.length_cons, List.length_nil]; omega) ?_)
    rw [w64n (n := xs.length) (by omega) hx.n]
    refine (next _ (by simp only [List.length_append, List.length_cons, List.length_nil]; omega)).eq ?_
    congr 1
    simp [tailT]
  | succ d ih =>
    intro j hd
    have hj : j < (rd_T31 xs (i : Int)).f0.length := by omega
    have hcb := hr2 _ (List.getElem_mem hj)
    refine Kit.Ev.up ?_
    simp only [impl_SetText.l1, Kit.rd_at hj]
    refine Kit.Ev.pos (by omega) (Kit.Ev.pos (by omega) (Kit.Ev.pos (by omega) (Kit.Ev.call (dec_eq _ (by omega) (by omega)) (Kit.Ev.pos (by simp only [List.length_map, List.length_take]; omega) ?_))))
    rw [w64n (n := (rd_T31 xs (i : Int)).f0.length) (by omega) (by omega)]
    have e : (((rd_T31 xs (i : Int)).f0.take j).map Lib.itoa).map ba ++ [ba (Lib.itoa (rd_T31 xs (i : Int)).f0[j])] = (((rd_T31 xs (i : Int)).f0.take (j + 1)).map Lib.itoa).map ba := by
      rw [List.take_add_one, List.getElem?_eq_getElem hj, List.map_append, List.map_append]; rfl
    rw [e]
    exact ih (j + 1) (by omega)
theorem implText_l0 (xs : List S31) (hx : Fine xs) (hg : ∀ x ∈ xs, rowF x.f0 = 0 ∧ isW x.f1 = true) : ∀ (d i : Nat) (acc : List UInt8), i + d = xs.length → acc.length + (textT (xs.drop i)).length ≤ 4000000000000000000 → Ev (fun k => impl_SetText.l0 k (ba acc) xs (xs.length : Int) (i : Int)) (ba (acc ++ textT (xs.drop i))) := by
  intro d
  induction d with
  | zero =>
    intro i acc hd hb
    refine Kit.Ev.up ?_
    simp only [impl_SetText.l0]
    refine Kit.Ev.neg (by omega) (Kit.Ev.const ?_)
    rw [List.drop_eq_nil_of_le (by omega)]
    simp [textT]
  | succ d ih =>
    intro i acc hd hb
    rw [rdE_drop (xs := xs) (i := i) (by omega)] at hb ⊢
    unfold textT at hb ⊢
    refine Kit.Ev.up ?_
    simp only [impl_SetText.l0]
    refine Kit.Ev.pos (by omega) (Kit.Ev.pos (by omega) (Kit.Ev.pos (by omega) ?_))
    exact implText_l1 xs hx hg i (by omega) acc hb (fun acc' hb' => ih (i + 1) acc' (by omega) hb') (rd_T31 xs (i : Int)).f0.length 0 (by omega)
theorem implText_ev (l : List S31) (hx : Fine l) : Ev (fun k => impl_SetText.f k l) (textF l) := by
  unfold impl_SetText.f textF
  refine Kit.Ev.then (implSet_ev l hx) (Kit.Ev.ite2 (fun h => ?_) (fun _ => Kit.Ev.const rfl))
  obtain ⟨hg, hb⟩ := setF_good h
  exact implText_l0 l hx hg l.length 0 [] (by omega) (by simp only [List.length_nil, List.drop_zero]; omega)
/-- The weight that a list gives to a row. -/
def wAt (r : List Int) : List S31 → Int
  | [] => 0
  | x :: xs => (if x.f0 = r then x.f1 else 0) + wAt r xs
/-- All weights put together. -/
def totE : List S31 → Int
  | [] => 0
  | x :: xs => x.f1 + totE xs
def Rows (l : List S31) (r : List Int) : Prop := ∃ y ∈ l, y.f0 = r
theorem rows_nil (r : List Int) : ¬ Rows [] r := fun ⟨_, h, _⟩ => by cases h
theorem rows_cons (x : S31) (xs : List S31) (r : List Int) : Rows (x :: xs) r ↔ x.f0 = r ∨ Rows xs r := by
  unfold Rows
  constructor
  · rintro ⟨y, hy, e⟩
    rcases List.mem_cons.1 hy with rfl | hy
    · exact .inl e
    · exact .inr ⟨y, hy, e⟩
  · rintro (e | ⟨y, hy, e⟩)
    · exact ⟨x, List.mem_cons_self .., e⟩
    · exact ⟨y, List.mem_cons_of_mem _ hy, e⟩
theorem rows_app (a b : List S31) (r : List Int) : Rows (a ++ b) r ↔ Rows a r ∨ Rows b r := by
  unfold Rows
  constructor
  · rintro ⟨y, hy, e⟩
    rcases List.mem_append.1 hy with hy | hy
    · exact .inl ⟨y, hy, e⟩
    · exact .inr ⟨y, hy, e⟩
  · rintro (⟨y, hy, e⟩ | ⟨y, hy, e⟩)
    · exact ⟨y, List.mem_append_left _ hy, e⟩
    · exact ⟨y, List.mem_append_right _ hy, e⟩
theorem wAt_app (r : List Int) : ∀ a b : List S31, wAt r (a ++ b) = wAt r a + wAt r b
  | [], b => by simp [wAt]
  | x :: xs, b => by
    rw [List.cons_append]
    simp only [wAt]
    rw [wAt_app r xs b]
    omega
theorem totE_app : ∀ a b : List S31, totE (a ++ b) = totE a + totE b
  | [], b => by simp [totE]
  | x :: xs, b => by
    rw [List.cons_append]
    simp only [totE]
    rw [totE_app xs b]
    omega
theorem wAt_neg (r : List Int) : ∀ a : List S31, wAt r (a.map negE) = - wAt r a
  | [] => by simp [wAt]
  | x :: xs => by
    have ih := wAt_neg r xs
    have e : wAt r ((x :: xs).map negE) = (if x.f0 = r then -x.f1 else 0) + wAt r (xs.map negE) := rfl
    have e2 : wAt r (x :: xs) = (if x.f0 = r then x.f1 else 0) + wAt r xs := rfl
    rw [e, e2, ih]
    by_cases h : x.f0 = r
    · rw [if_pos h, if_pos h]; omega
    · rw [if_neg h, if_neg h]; omega
theorem wAt_none (r : List Int) : ∀ a : List S31, ¬ Rows a r → wAt r a = 0
  | [], _ => rfl
  | x :: xs, h => by
    rw [rows_cons] at h
    simp only [wAt]
    rw [if_neg (fun e => h (.inl e)), wAt_none r xs (fun e => h (.inr e))]
    rfl
theorem srt_head {x : S31} {xs : List S31} (h : Srt (x :: xs)) : ¬ Rows xs x.f0 := by
  rintro ⟨y, hy, e⟩
  have := (List.pairwise_cons.1 h).1 y hy
  rw [e, (cmpR_zero _ _).mpr rfl] at this
  omega
theorem wAt_mem : ∀ {a : List S31}, Srt a → ∀ {x : S31}, x ∈ a → wAt x.f0 a = x.f1
  | [], _, _, h => by cases h
  | y :: ys, hs, x, hx => by
    simp only [wAt]
    have h1 := srt_head hs
    rcases List.mem_cons.1 hx with rfl | hx
    · rw [if_pos rfl, wAt_none _ _ h1]; omega
    · have hne : ¬ y.f0 = x.f0 := fun e => h1 ⟨x, hx, e.symm⟩
      rw [if_neg hne, wAt_mem (List.pairwise_cons.1 hs).2 hx]; omega
/-- A sorted list is known by its rows and their weights. -/
theorem srt_canon : ∀ {a b : List S31}, Srt a → Srt b → (∀ r, Rows a r ↔ Rows b r) → (∀ r, wAt r a = wAt r b) → a = b
  | [], [], _, _, _, _ => rfl
  | [], y :: ys, _, _, h, _ => absurd ((h y.f0).mpr ⟨y, List.mem_cons_self .., rfl⟩) (rows_nil _)
  | x :: xs, [], _, _, h, _ => absurd ((h x.f0).mp ⟨x, List.mem_cons_self .., rfl⟩) (rows_nil _)
  | x :: xs, y :: ys, ha, hb, h, hw => by
    have ha' := List.pairwise_cons.1 ha
    have hb' := List.pairwise_cons.1 hb
    have e0 : x.f0 = y.f0 := by
      have h1 := (h x.f0).mp ⟨x, List.mem_cons_self .., rfl⟩
      have h2 := (h y.f0).mpr ⟨y, List.mem_cons_self .., rfl⟩
      rw [rows_cons] at h1 h2
      rcases h1 with h1 | ⟨z, hz, ez⟩
      · exact h1.symm
      · rcases h2 with h2 | ⟨u, hu, eu⟩
        · exact h2
        · have c1 := hb'.1 z hz
          have c2 := ha'.1 u hu
          rw [ez] at c1
          rw [eu] at c2
          have := cmpR_anti x.f0 y.f0
          omega
    have e1 : x.f1 = y.f1 := by
      have := hw x.f0
      rw [wAt_mem ha (List.mem_cons_self ..), e0, wAt_mem hb (List.mem_cons_self ..)] at this
      exact this
    have ex : x = y := by
      obtain ⟨x0, x1⟩ := x
      obtain ⟨y0, y1⟩ := y
      simp only at e0 e1
      rw [e0, e1]
    subst ex
    have ht : xs = ys := by
      refine srt_canon ha'.2 hb'.2 (fun r => ?_) (fun r => ?_)
      · have := h r
        rw [rows_cons, rows_cons] at this
        constructor
        · intro hr
          rcases this.mp (.inr hr) with e | e
          · exact absurd (e ▸ hr) (srt_head ha)
          · exact e
        · intro hr
          rcases this.mpr (.inr hr) with e | e
          · exact absurd (e ▸ hr) (srt_head hb)
          · exact e
      · have := hw r
        simp only [wAt] at this
        omega
    rw [ht]
theorem putE_all {acc : List S31} {e : S31} (hs : Srt acc) (hb : ∀ y ∈ acc, -9223372036854775808 ≤ y.f1 + e.f1 ∧ y.f1 + e.f1 ≤ 9223372036854775807) :
    Srt (putE acc e) ∧ (∀ r, wAt r (putE acc e) = wAt r acc + (if e.f0 = r then e.f1 else 0)) ∧ (∀ r, Rows (putE acc e) r ↔ Rows acc r ∨ e.f0 = r) ∧ totE (putE acc e) = totE acc + e.f1 := by
  induction acc with
  | nil =>
    unfold putE
    refine ⟨List.pairwise_singleton .., fun r => ?_, fun r => ?_, ?_⟩
    · simp [wAt]
    · rw [rows_cons]
      exact ⟨fun h => h.elim .inr (fun q => absurd q (rows_nil _)), fun h => h.elim (fun q => absurd q (rows_nil _)) .inl⟩
    · simp [totE]
  | cons x xs ih =>
    have hs' := List.pairwise_cons.1 hs
    obtain ⟨i1, i2, i3, i4⟩ := ih hs'.2 (fun y hy => hb y (List.mem_cons_of_mem _ hy))
    unfold putE
    by_cases h1 : cmpR x.f0 e.f0 < 0
    · rw [if_pos h1]
      refine ⟨List.pairwise_cons.2 ⟨fun y hy => ?_, i1⟩, fun r => ?_, fun r => ?_, ?_⟩
      · rcases (i3 y.f0).mp ⟨y, hy, rfl⟩ with ⟨z, hz, ez⟩ | q
        · rw [← ez]; exact hs'.1 z hz
        · rw [← q]; exact h1
      · simp only [wAt]; rw [i2 r]; omega
      · rw [rows_cons, rows_cons, i3 r, or_assoc]
      · simp only [totE]; rw [i4]; omega
    · rw [if_neg h1]
      by_cases h2 : cmpR x.f0 e.f0 = 0
      · rw [if_pos h2]
        have e0 := (cmpR_zero _ _).mp h2
        obtain ⟨b1, b2⟩ := hb x (List.mem_cons_self ..)
        have hw : wrap64 (x.f1 + e.f1) = x.f1 + e.f1 := Kit.w64 b1 b2
        rw [hw]
        refine ⟨List.pairwise_cons.2 ⟨fun y hy => hs'.1 y hy, hs'.2⟩, fun r => ?_, fun r => ?_, ?_⟩
        · have w1 : wAt r ((⟨x.f0, x.f1 + e.f1⟩ : S31) :: xs) = (if x.f0 = r then x.f1 + e.f1 else 0) + wAt r xs := rfl
          have w2 : wAt r (x :: xs) = (if x.f0 = r then x.f1 else 0) + wAt r xs := rfl
          rw [w1, w2, ← e0]
          by_cases c : x.f0 = r
          · rw [if_pos c, if_pos c, if_pos c]; omega
          · rw [if_neg c, if_neg c, if_neg c]; omega
        · rw [rows_cons, rows_cons, ← e0]
          constructor
          · intro h; exact .inl h
          · rintro (h | h)
            · exact h
            · exact .inl h
        · simp only [totE]; omega
      · rw [if_neg h2]
        have h3 : cmpR e.f0 x.f0 < 0 := by
          have := cmpR_anti x.f0 e.f0
          have := cmpR_in x.f0 e.f0
          omega
        refine ⟨List.pairwise_cons.2 ⟨fun y hy => ?_, hs⟩, fun r => ?_, fun r => ?_, ?_⟩
        · rcases List.mem_cons.1 hy with rfl | hy
          · exact h3
          · exact cmpR_trans _ _ _ h3 (hs'.1 y hy)
        · simp only [wAt]; omega
        · rw [rows_cons, or_comm]
        · simp only [totE]; omega
theorem putE_bnd {acc : List S31} {e : S31} {B C : Int} (hB : ∀ y ∈ acc, -B ≤ y.f1 ∧ y.f1 ≤ B) (hC : -C ≤ e.f1 ∧ e.f1 ≤ C) (h0 : 0 ≤ B) (h1 : 0 ≤ C) (h2 : B + C ≤ 9223372036854775807) : ∀ y ∈ putE acc e, -(B + C) ≤ y.f1 ∧ y.f1 ≤ B + C := by
  induction acc with
  | nil =>
    intro y hy
    unfold putE at hy
    rw [List.mem_singleton.1 hy]; omega
  | cons x xs ih =>
    have hx := hB x (List.mem_cons_self ..)
    have ih' := ih (fun y hy => hB y (List.mem_cons_of_mem _ hy))
    intro y hy
    unfold putE at hy
    split at hy
    · rcases List.mem_cons.1 hy with rfl | hy
      · omega
      · exact ih' y hy
    · split at hy
      · rcases List.mem_cons.1 hy with rfl | hy
        · simp only
          rw [Kit.w64 (by omega) (by omega)]; omega
        · have := hB y (List.mem_cons_of_mem _ hy); omega
      · rcases List.mem_cons.1 hy with rfl | hy
        · omega
        · have := hB y hy; omega
/-- Entries put together one by one: sorted, and every row has all its weight. -/
theorem foldE_all : ∀ (l acc : List S31) (B : Int), Srt acc → (∀ y ∈ acc, -B ≤ y.f1 ∧ y.f1 ≤ B) → (∀ x ∈ l, -1000000000000 ≤ x.f1 ∧ x.f1 ≤ 1000000000000) → 0 ≤ B → B + l.length * 1000000000000 ≤ 9000000000000000000 →
    Srt (l.foldl putE acc) ∧ (∀ r, wAt r (l.foldl putE acc) = wAt r acc + wAt r l) ∧ (∀ r, Rows (l.foldl putE acc) r ↔ Rows acc r ∨ Rows l r) ∧ totE (l.foldl putE acc) = totE acc + totE l
  | [], acc, B, hs, hb, _, _, _ => by
    refine ⟨hs, fun r => ?_, fun r => ?_, ?_⟩
    · simp [wAt]
    · exact ⟨.inl, fun h => h.elim id (fun q => absurd q (rows_nil _))⟩
    · simp [totE]
  | x :: xs, acc, B, hs, hb, hl, h0, h1 => by
    have hx := hl x (List.mem_cons_self ..)
    rw [List.length_cons] at h1
    obtain ⟨p1, p2, p3, p4⟩ := putE_all (e := x) hs (fun y hy => by have := hb y hy; omega)
    have p5 := putE_bnd hb hx h0 (by omega) (by omega)
    obtain ⟨q1, q2, q3, q4⟩ := foldE_all xs (putE acc x) (B + 1000000000000) p1 p5 (fun y hy => hl y (List.mem_cons_of_mem _ hy)) (by omega) (by omega)
    rw [List.foldl_cons]
    refine ⟨q1, fun r => ?_, fun r => ?_, ?_⟩
    · rw [q2 r, p2 r]; simp only [wAt]; omega
    · rw [q3 r, p3 r, rows_cons, or_assoc]
    · rw [q4, p4]; simp only [totE]; omega
/-- The bounds of what is put together. -/
def Small (l : List S31) : Prop := l.length ≤ 1000000 ∧ ∀ x ∈ l, -1000000000000 ≤ x.f1 ∧ x.f1 ≤ 1000000000000
theorem fold_all {l : List S31} (h : Small l) : Srt (l.foldl putE []) ∧ (∀ r, wAt r (l.foldl putE []) = wAt r l) ∧ (∀ r, Rows (l.foldl putE []) r ↔ Rows l r) ∧ totE (l.foldl putE []) = totE l := by
  have hl := h.1
  obtain ⟨q1, q2, q3, q4⟩ := foldE_all l [] 0 List.Pairwise.nil (fun y hy => by cases hy) h.2 (by omega) (by omega)
  refine ⟨q1, fun r => ?_, fun r => ?_, ?_⟩
  · rw [q2 r]; simp [wAt]
  · rw [q3 r]; exact ⟨fun h => h.elim (fun q => absurd q (rows_nil _)) id, .inr⟩
  · rw [q4]; simp [totE]
theorem fold_swap {a b : List S31} (h : Small (a ++ b)) : (a ++ b).foldl putE [] = (b ++ a).foldl putE [] := by
  have h' : Small (b ++ a) := ⟨by have := h.1; rw [List.length_append] at this ⊢; omega, fun x hx => h.2 x (by rw [List.mem_append] at hx ⊢; exact hx.symm)⟩
  obtain ⟨p1, p2, p3, _⟩ := fold_all h
  obtain ⟨q1, q2, q3, _⟩ := fold_all h'
  refine srt_canon p1 q1 (fun r => ?_) (fun r => ?_)
  · rw [p3 r, q3 r, rows_app, rows_app, or_comm]
  · rw [p2 r, q2 r, wAt_app, wAt_app]; omega
theorem setG_of : ∀ (p : Option (List Int)) (l : List S31), Srt l → (∀ q, p = some q → ∀ x ∈ l, cmpR q x.f0 < 0) → (∀ x ∈ l, rowF x.f0 = 0 ∧ isW x.f1 = true ∧ x.f1 ≠ 0) → setG p l = 0
  | _, [], _, _, _ => by simp [setG]
  | p, x :: xs, hs, hp, h => by
    obtain ⟨h1, h2, h3⟩ := h x (List.mem_cons_self ..)
    have hs' := List.pairwise_cons.1 hs
    have ih := setG_of (some x.f0) xs hs'.2 (fun q e y hy => by cases e; exact hs'.1 y hy) (fun y hy => h y (List.mem_cons_of_mem _ hy))
    simp only [setG]
    rw [if_pos h1, if_pos ⟨h2, h3⟩]
    cases p with
    | none => exact ih
    | some q =>
      have := hp q rfl x (List.mem_cons_self ..)
      simp only
      rw [if_neg (by omega)]
      exact ih
theorem setF_of {l : List S31} (hn : l.length ≤ 200) (hs : Srt l) (h : ∀ x ∈ l, rowF x.f0 = 0 ∧ isW x.f1 = true ∧ x.f1 ≠ 0) : setF l = 0 := by
  unfold setF
  rw [if_neg (by omega)]
  exact setG_of none l hs (fun q e => by cases e) h
theorem wAt_filter (r : List Int) : ∀ l : List S31, wAt r (l.filter nzE) = wAt r l
  | [] => rfl
  | x :: xs => by
    have ih := wAt_filter r xs
    by_cases h : x.f1 = 0
    · rw [List.filter_cons_of_neg (by simp [nzE, h])]
      simp only [wAt]
      rw [ih, h]; split <;> omega
    · rw [List.filter_cons_of_pos (by simp [nzE, h])]
      simp only [wAt]
      rw [ih]
theorem totE_filter : ∀ l : List S31, totE (l.filter nzE) = totE l
  | [] => rfl
  | x :: xs => by
    have ih := totE_filter xs
    by_cases h : x.f1 = 0
    · rw [List.filter_cons_of_neg (by simp [nzE, h])]
      simp only [totE]
      rw [ih, h]; omega
    · rw [List.filter_cons_of_pos (by simp [nzE, h])]
      simp only [totE]
      rw [ih]
theorem small_set {l : List S31} (h : setF l = 0) : Small l := by
  obtain ⟨h1, h2⟩ := setF_ok h
  exact ⟨by omega, fun x hx => isW_in (h2 x hx).2.1⟩
theorem small_app {a b : List S31} (ha : setF a = 0) (hb : setF b = 0) : Small (a ++ b) := by
  obtain ⟨h1, h2⟩ := setF_ok ha
  obtain ⟨h3, h4⟩ := setF_ok hb
  refine ⟨by rw [List.length_append]; omega, fun x hx => ?_⟩
  rcases List.mem_append.1 hx with h | h
  · exact isW_in (h2 x h).2.1
  · exact isW_in (h4 x h).2.1
/-- What is put together without fault is a set with all the weights. -/
theorem sum_good {l : List S31} (h : Small l) (hr : ∀ x ∈ l, rowF x.f0 = 0) (h0 : (sumF l).2 = 0) : setF (sumF l).1 = 0 ∧ (∀ r, wAt r (sumF l).1 = wAt r l) ∧ totE (sumF l).1 = totE l := by
  obtain ⟨p1, p2, p3, p4⟩ := fold_all h
  rw [sumF_fin] at h0 ⊢
  unfold finE at h0 ⊢
  by_cases c1 : (l.foldl putE []).any badE = true
  · rw [if_pos c1] at h0; simp at h0
  · rw [if_neg c1] at h0 ⊢
    by_cases c2 : 200 < ((l.foldl putE []).filter nzE).length
    · rw [if_pos c2] at h0; simp at h0
    · rw [if_neg c2]
      refine ⟨setF_of (by simp only; omega) (p1.sublist List.filter_sublist) (fun x hx => ?_), fun r => ?_, ?_⟩
      · have hx' := List.mem_filter.1 hx
        obtain ⟨y, hy, ey⟩ := (p3 x.f0).mp ⟨x, hx'.1, rfl⟩
        refine ⟨by rw [← ey]; exact hr y hy, ?_, by simpa [nzE] using hx'.2⟩
        have : badE x ≠ true := fun e => c1 (List.any_eq_true.2 ⟨x, hx'.1, e⟩)
        simpa [badE] using this
      · simp only; rw [wAt_filter, p2 r]
      · simp only; rw [totE_filter, p4]
/-- A list that gives every row the weight that a set gives it, put together, is that set. -/
theorem sum_is {l c : List S31} (h : Small l) (hc : setF c = 0) (hw : ∀ r, wAt r l = wAt r c) : sumF l = (c, 0) := by
  obtain ⟨p1, p2, p3, _⟩ := fold_all h
  obtain ⟨n1, g1⟩ := setF_ok hc
  have hs := setF_srt hc
  have q : (l.foldl putE []).filter nzE = c := by
    refine srt_canon (p1.sublist List.filter_sublist) hs (fun r => ?_) (fun r => by rw [wAt_filter, p2 r, hw r])
    constructor
    · rintro ⟨y, hy, ey⟩
      have hy' := List.mem_filter.1 hy
      refine Classical.byContradiction fun hn => ?_
      have e1 := wAt_mem p1 hy'.1
      rw [p2, hw, ey, wAt_none _ _ hn] at e1
      have : y.f1 ≠ 0 := by simpa [nzE] using hy'.2
      omega
    · rintro ⟨y, hy, ey⟩
      have e1 := wAt_mem hs hy
      have hz := (g1 y hy).2.2
      refine Classical.byContradiction fun hn => ?_
      have e2 : wAt r ((l.foldl putE []).filter nzE) = 0 := wAt_none _ _ hn
      rw [wAt_filter, p2, hw, ← ey, e1] at e2
      exact hz e2
  have hb : ¬ (l.foldl putE []).any badE = true := by
    rw [List.any_eq_true]
    rintro ⟨y, hy, hy2⟩
    have e1 := wAt_mem p1 hy
    rw [p2, hw] at e1
    have : isW y.f1 = true := by
      by_cases hr : Rows c y.f0
      · obtain ⟨z, hz, ez⟩ := hr
        rw [← ez, wAt_mem hs hz] at e1
        rw [← e1]; exact (g1 z hz).2.1
      · rw [wAt_none _ _ hr] at e1
        rw [← e1]; decide
    simp [badE, this] at hy2
  rw [sumF_fin]
  unfold finE
  rw [if_neg hb, q, if_neg (by omega)]
theorem neg_set {b : List S31} (hb : setF b = 0) : setF (b.map negE) = 0 := by
  obtain ⟨n, g⟩ := setF_ok hb
  have hs := setF_srt hb
  refine setF_of (by rw [List.length_map]; exact n) (List.pairwise_map.2 hs) (fun x hx => ?_)
  obtain ⟨y, hy, rfl⟩ := List.mem_map.1 hx
  obtain ⟨g1, g2, g3⟩ := g y hy
  refine ⟨g1, ?_, by simp only [negE]; omega⟩
  have := isW_in g2
  have e : isW (negE y).f1 = decide (-1000000000000 ≤ -y.f1 ∧ -y.f1 ≤ 1000000000000) := by simp [isW, negE]
  rw [e]
  exact decide_eq_true (by omega)
theorem totW_tot : ∀ (l : List S31) (s B : Int), (∀ x ∈ l, -1000000000000 ≤ x.f1 ∧ x.f1 ≤ 1000000000000) → -B ≤ s → s ≤ B → B + l.length * 1000000000000 ≤ 9000000000000000000 → totW s l = s + totE l ∧ -(B + l.length * 1000000000000) ≤ s + totE l ∧ s + totE l ≤ B + l.length * 1000000000000
  | [], s, B, _, _, _, _ => by simp [totW, totE]; omega
  | x :: xs, s, B, h, h1, h2, h3 => by
    have hx := h x (List.mem_cons_self ..)
    rw [List.length_cons] at h3 ⊢
    have hw : wrap64 (s + x.f1) = s + x.f1 := Kit.w64 (by omega) (by omega)
    obtain ⟨i1, i2, i3⟩ := totW_tot xs (s + x.f1) (B + 1000000000000) (fun y hy => h y (List.mem_cons_of_mem _ hy)) (by omega) (by omega) (by omega)
    have e : totW s (x :: xs) = totW (s + x.f1) xs := by
      unfold totW
      rw [List.foldl_cons, hw]
    rw [e, i1]
    simp only [totE]
    omega
theorem total_of {l : List S31} (h : setF l = 0) : totalF l = (0, totE l) ∧ -200000000000000 ≤ totE l ∧ totE l ≤ 200000000000000 := by
  obtain ⟨n, g⟩ := setF_ok h
  obtain ⟨i1, i2, i3⟩ := totW_tot l 0 0 (fun x hx => isW_in (g x hx).2.1) (by omega) (by omega) (by omega)
  unfold totalF
  rw [if_pos h, i1]
  refine ⟨by rw [Int.zero_add], by omega, by omega⟩
theorem add_parts {a b : List S31} (h : (addF a b).1 = 0) : setF a = 0 ∧ setF b = 0 ∧ (sumF (a ++ b)).2 = 0 ∧ addF a b = (0, (sumF (a ++ b)).1) := by
  unfold addF at h ⊢
  by_cases h1 : setF a = 0
  · rw [if_pos h1] at h ⊢
    by_cases h2 : setF b = 0
    · rw [if_pos h2] at h ⊢
      exact ⟨h1, h2, h, Prod.ext h rfl⟩
    · rw [if_neg h2] at h; exact absurd h h2
  · rw [if_neg h1] at h; exact absurd h h1
theorem sum_swap {a b : List S31} (ha : setF a = 0) (hb : setF b = 0) : sumF (a ++ b) = sumF (b ++ a) := by
  rw [sumF_fin, sumF_fin, fold_swap (small_app ha hb)]
theorem add_swap {a b : List S31} (h : ¬ (addF a b).1 = 0) : ¬ (addF b a).1 = 0 := by
  intro h'
  obtain ⟨hb, ha, hs, _⟩ := add_parts h'
  refine h ?_
  unfold addF
  rw [if_pos ha, if_pos hb, sum_swap ha hb]
  exact hs
theorem rows_app_ok {a b : List S31} (ha : setF a = 0) (hb : setF b = 0) : ∀ x ∈ a ++ b, rowF x.f0 = 0 := by
  intro x hx
  rcases List.mem_append.1 hx with h | h
  · exact ((setF_ok ha).2 x h).1
  · exact ((setF_ok hb).2 x h).1
theorem setF_nil : setF ([] : List S31) = 0 := by simp [setF, setG]
theorem add_back {a b : List S31} (ha : setF a = 0) (hb : setF b = 0) (h : (sumF (a ++ b)).2 = 0) : addF (sumF (a ++ b)).1 (b.map negE) = (0, a) := by
  obtain ⟨s1, s2, _⟩ := sum_good (small_app ha hb) (rows_app_ok ha hb) h
  have hn := neg_set hb
  have e := sum_is (c := a) (small_app s1 hn) ha (fun r => by rw [wAt_app, s2 r, wAt_app, wAt_neg]; omega)
  unfold addF
  rw [if_pos s1, if_pos hn, e]
theorem add_none {a : List S31} (ha : setF a = 0) : addF a (a.map negE) = (0, []) := by
  have hn := neg_set ha
  have e := sum_is (c := []) (small_app ha hn) setF_nil (fun r => by rw [wAt_app, wAt_neg]; simp [wAt]; omega)
  unfold addF
  rw [if_pos ha, if_pos hn, e]
theorem weight_head {a : List S31} (ha : setF a = 0) (hp : 0 < a.length) : (weightF (rd_T31 a 0).f0 a).2 = (rd_T31 a 0).f1 := by
  cases a with
  | nil => simp at hp
  | cons x xs =>
    have e : rd_T31 (x :: xs) 0 = x := rfl
    have hr := ((setF_ok ha).2 x (List.mem_cons_self ..)).1
    rw [e]
    unfold weightF
    rw [if_pos ha, if_pos hr]
    simp only [weightL]
    rw [if_pos ((cmpR_zero _ _).mpr rfl)]
theorem sameB_refl (a : List S31) : sameB a a = true := (sameB_iff a a).mpr rfl
theorem entriesW_l0 {c : List Int} (hc : BytesOk c) {w : Int} (hw : 0 ≤ w ∧ w ≤ 10) : ∀ (n : Nat) (t : Int) (acc : List S31), acc.length + n ≤ 7 → (∀ x ∈ acc, (x.f0.length : Int) = w) → 0 ≤ t → t + 100 * n ≤ 900000000000 →
    ∃ r t', Ev (fun k => spec_l2Entries.l0 k w acc (n : Int) c t) (r, t') ∧ r.length ≤ 7 ∧ (∀ x ∈ r, (x.f0.length : Int) = w) ∧ t ≤ t' ∧ t' ≤ t + 100 * n := by
  intro n
  induction n with
  | zero =>
    intro t acc h1 h2 h3 h4
    refine ⟨acc, t, Kit.Ev.up ?_, by omega, h2, by omega, by omega⟩
    simp only [spec_l2Entries.l0]
    exact Kit.Ev.neg (by omega) (Kit.Ev.const rfl)
  | succ n ih =>
    intro t acc h1 h2 h3 h4
    obtain ⟨r1, H1, hl⟩ := row_some hc (t := t) h3 (by omega) (n := w) (by omega) (by omega)
    obtain ⟨v, e2, _⟩ := next_some hc (t := t + 6 * w) (by omega) (by omega) 9
    obtain ⟨u, e3, _⟩ := pick_some hc (t := t + 6 * w + 1) (by omega) (by omega) ([1, 1, 2, (-1), wrap64 (v - 4)] : List Int) (by simp)
    obtain ⟨r, t', H, q1, q2, q3, q4⟩ := ih (t + 6 * w + 1 + 1) (acc ++ [⟨r1, u⟩]) (by rw [List.length_append]; simp only [List.length_cons, List.length_nil]; omega) (fun x hx => by
      rcases List.mem_append.1 hx with hx | hx
      · exact h2 x hx
      · rw [List.mem_singleton.1 hx]; exact hl) (by omega) (by omega)
    refine ⟨r, t', Kit.Ev.up ?_, q1, q2, by omega, by omega⟩
    simp only [spec_l2Entries.l0]
    have e : wrap64 (((n + 1 : Nat) : Int) - 1) = (n : Int) := by rw [Kit.w64 (by omega) (by omega)]; omega
    rw [e]
    exact Kit.Ev.pos (by omega) (Kit.Ev.then H1 (Kit.Ev.call e2 (Kit.Ev.call e3 (Kit.Ev.pos (by omega) H))))
theorem entriesW_some {c : List Int} (hc : BytesOk c) {t w : Int} (h0 : 0 ≤ t) (h1 : t ≤ 800000000000) (hw : 0 ≤ w ∧ w ≤ 10) : ∃ r t', Ev (fun k => spec_l2Entries.f k c t w) (r, t') ∧ r.length ≤ 7 ∧ (∀ x ∈ r, (x.f0.length : Int) = w) ∧ t ≤ t' ∧ t' ≤ t + 1000 := by
  obtain ⟨v, e, hv, _⟩ := next_some hc h0 (by omega) 7
  obtain ⟨v0, v1⟩ := hv (by omega)
  obtain ⟨m, rfl⟩ := Int.eq_ofNat_of_zero_le v0
  obtain ⟨r, t', H, q1, q2, q3, q4⟩ := entriesW_l0 hc hw m (t + 1) [] (by simp only [List.length_nil]; omega) (by simp) (by omega) (by omega)
  refine ⟨r, t', ?_, q1, q2, by omega, by omega⟩
  unfold spec_l2Entries.f
  exact Kit.Ev.call e H
theorem consLoop {c : List Int} (hc : BytesOk c) : ∀ (n i : Nat) (t : Int) (acc : List S31), i + n = 801 → acc.length = i → (∀ x ∈ acc, x.f0.length ≤ 1048576) → 0 ≤ t → t + 2 * n ≤ 900000000000 → ∃ r, Ev (fun k => spec_DrawConsolidate.l0 k acc (i : Int) c t) r ∧ Fine r := by
  intro n
  induction n with
  | zero =>
    intro i t acc hi ha hx h0 h1
    obtain ⟨v, e, hv, _⟩ := next_some hc (t := t) (by omega) (by omega) 2
    obtain ⟨v0, v1⟩ := hv (by omega)
    have ew : wrap64 (800 + v) = 800 + v := Kit.w64 (by omega) (by omega)
    refine ⟨acc, Kit.Ev.up ?_, by omega, hx⟩
    simp only [spec_DrawConsolidate.l0]
    exact Kit.Ev.call e (Kit.Ev.neg (by simp only; rw [ew]; omega) (Kit.Ev.const rfl))
  | succ n ih =>
    intro i t acc hi ha hx h0 h1
    obtain ⟨v, e, hv, _⟩ := next_some hc (t := t) (by omega) (by omega) 2
    obtain ⟨v0, v1⟩ := hv (by omega)
    obtain ⟨u, e2, hu, _⟩ := next_some hc (t := t + 1) (by omega) (by omega) 20
    obtain ⟨u0, u1⟩ := hu (by omega)
    have ew : wrap64 (800 + v) = 800 + v := Kit.w64 (by omega) (by omega)
    have eu : wrap64 (190 + u) = 190 + u := Kit.w64 (by omega) (by omega)
    have ei : wrap64 ((i : Int) + 1) = ((i + 1 : Nat) : Int) := by rw [Kit.w64 (by omega) (by omega)]; omega
    by_cases hlt : (i : Int) < 800 + v
    · obtain ⟨r, H, hr⟩ := ih (i + 1) (t + 1 + 1) (acc ++ [⟨[Int.tmod (i : Int) (190 + u)], 1⟩]) (by omega) (by rw [List.length_append, ha]; rfl) (fun x hx' => by
        rcases List.mem_append.1 hx' with h | h
        · exact hx x h
        · rw [List.mem_singleton.1 h]; simp) (by omega) (by omega)
      refine ⟨r, Kit.Ev.up ?_, hr⟩
      simp only [spec_DrawConsolidate.l0]
      refine Kit.Ev.call e (Kit.Ev.pos (by simp only; rw [ew]; omega) (Kit.Ev.call e2 (Kit.Ev.neg (by simp only; rw [eu]; omega) (Kit.Ev.pos (by omega) ?_))))
      simp only
      rw [eu, ei]
      exact H
    · refine ⟨acc, Kit.Ev.up ?_, by omega, hx⟩
      simp only [spec_DrawConsolidate.l0]
      exact Kit.Ev.call e (Kit.Ev.neg (by simp only; rw [ew]; omega) (Kit.Ev.const rfl))
theorem drawCons_some {c : List Int} (hc : BytesOk c) : ∃ z, Ev (fun k => spec_DrawConsolidate.f k c) z ∧ Fine z := by
  obtain ⟨w, e1, hw, _⟩ := next_some hc (t := 0) (by omega) (by omega) 3
  obtain ⟨w0, w1⟩ := hw (by omega)
  obtain ⟨z, t1, H1, q1, q2, q3, q4⟩ := entriesW_some hc (t := 0 + 1) (w := w) (by omega) (by omega) (by omega)
  have hz : Fine z := ⟨by omega, fun x hx => by have := q2 x hx; omega⟩
  have J : ∀ (x : List S31) (t : Int), Fine x → 0 ≤ t → t ≤ 800000000000 → ∃ r, Ev (fun k => spec_DrawConsolidate.j0 k x c t) r ∧ Fine r := by
    intro x t hx h0 h1
    obtain ⟨b, e⟩ := chance_some hc (t := t) (by omega) (by omega) 60
    by_cases hb : b = true
    · obtain ⟨r, H, hr⟩ := consLoop hc 801 0 (t + 1) [] (by omega) rfl (by simp) (by omega) (by omega)
      refine ⟨r, Kit.Ev.up ?_, hr⟩
      simp only [spec_DrawConsolidate.j0]
      exact Kit.Ev.call e (Kit.Ev.pos hb H)
    · refine ⟨x, Kit.Ev.up ?_, hx⟩
      simp only [spec_DrawConsolidate.j0]
      exact Kit.Ev.call e (Kit.Ev.neg hb (Kit.Ev.const rfl))
  unfold spec_DrawConsolidate.f spec_l1Source.f
  simp only [Option.bind_some]
  by_cases hp : (z.length : Int) > 0
  · obtain ⟨v, e2, _, _⟩ := next_some hc (t := t1) (by omega) (by omega) 12
    have hset : ∀ x : S31, x.f0.length ≤ 1048576 → Fine (z.set (0 : Int).toNat x) := fun x hx => ⟨by rw [List.length_set]; omega, fun y hy => by
      rcases List.mem_or_eq_of_mem_set hy with h | h
      · exact hz.2 y h
      · rw [h]; exact hx⟩
    have hm : (rd_T31 z 0).f0.length ≤ 1048576 := hz.2 _ (rdE_mem (xs := z) (i := 0) (by omega))
    by_cases c0 : v = 0
    · obtain ⟨r, t2, H2, hr, ht, ht'⟩ := bent_some hc (t := t1 + 1) (by omega) (by omega)
      obtain ⟨q, HJ, hq⟩ := J _ t2 (hset ⟨r, (rd_T31 z 0).f1⟩ (by simp only; omega)) (by omega) (by omega)
      exact ⟨q, Kit.Ev.call e1 (Kit.Ev.then H1 (Kit.Ev.pos hp (Kit.Ev.call e2 (Kit.Ev.pos c0 (Kit.Ev.then H2 (Kit.Ev.pos (by simp only; omega) HJ)))))), hq⟩
    by_cases c1 : v = 1
    · obtain ⟨u, e3⟩ := drawW_some hc (t := t1 + 1) (by omega) (by omega)
      obtain ⟨q, HJ, hq⟩ := J _ (t1 + 1 + 3) (hset ⟨(rd_T31 z 0).f0, u⟩ hm) (by omega) (by omega)
      exact ⟨q, Kit.Ev.call e1 (Kit.Ev.then H1 (Kit.Ev.pos hp (Kit.Ev.call e2 (Kit.Ev.neg c0 (Kit.Ev.pos c1 (Kit.Ev.call e3 (Kit.Ev.pos (by simp only; omega) HJ))))))), hq⟩
    by_cases c2 : v = 2
    · have hy := hset ⟨(rd_T31 z 0).f0, 1000000000000⟩ hm
      have hym : (rd_T31 (z.set (0 : Int).toNat ⟨(rd_T31 z 0).f0, 1000000000000⟩) 0).f0.length ≤ 1048576 := hy.2 _ (rdE_mem (i := 0) (by rw [List.length_set]; omega))
      obtain ⟨q, HJ, hq⟩ := J (z.set (0 : Int).toNat ⟨(rd_T31 z 0).f0, 1000000000000⟩ ++ [⟨(rd_T31 (z.set (0 : Int).toNat ⟨(rd_T31 z 0).f0, 1000000000000⟩) 0).f0, (rd_T31 (z.set (0 : Int).toNat ⟨(rd_T31 z 0).f0, 1000000000000⟩) 0).f1⟩]) (t1 + 1) ⟨by rw [List.length_append, List.length_set]; simp only [List.length_cons, List.length_nil]; omega, fun x hx => by
        rcases List.mem_append.1 hx with h | h
        · exact hy.2 x h
        · rw [List.mem_singleton.1 h]; exact hym⟩ (by omega) (by omega)
      exact ⟨q, Kit.Ev.call e1 (Kit.Ev.then H1 (Kit.Ev.pos hp (Kit.Ev.call e2 (Kit.Ev.neg c0 (Kit.Ev.neg c1 (Kit.Ev.pos c2 (Kit.Ev.pos (by simp only; omega) (Kit.Ev.call rfl (Kit.Ev.pos (by simp only [List.length_set]; omega) HJ))))))))), hq⟩
    · obtain ⟨q, HJ, hq⟩ := J z (t1 + 1) hz (by omega) (by omega)
      exact ⟨q, Kit.Ev.call e1 (Kit.Ev.then H1 (Kit.Ev.pos hp (Kit.Ev.call e2 (Kit.Ev.neg c0 (Kit.Ev.neg c1 (Kit.Ev.neg c2 HJ)))))), hq⟩
  · obtain ⟨q, HJ, hq⟩ := J z t1 hz (by omega) (by omega)
    exact ⟨q, Kit.Ev.call e1 (Kit.Ev.then H1 (Kit.Ev.neg hp HJ)), hq⟩
theorem chkF_rows : ∀ {l : List S31}, chkF l = 0 → ∀ x ∈ l, rowF x.f0 = 0
  | [], _ => by simp
  | y :: ys, h => by
    unfold chkF at h
    by_cases h1 : rowF y.f0 = 0
    · rw [if_pos h1] at h
      by_cases h2 : isW y.f1 = true
      · rw [if_pos h2] at h
        intro x hx
        rcases List.mem_cons.mp hx with rfl | hx
        · exact h1
        · exact chkF_rows h x hx
      · rw [if_neg h2] at h; exact absurd h (by decide)
    · rw [if_neg h1] at h; exact absurd h h1
theorem chkF_of : ∀ {l : List S31}, (∀ x ∈ l, rowF x.f0 = 0 ∧ isW x.f1 = true) → chkF l = 0
  | [], _ => rfl
  | y :: ys, h => by
    obtain ⟨a, b⟩ := h y (List.mem_cons_self ..)
    unfold chkF
    rw [if_pos a, if_pos b]
    exact chkF_of (fun x hx => h x (List.mem_cons_of_mem _ hx))
theorem totE_bnd : ∀ l : List S31, (∀ x ∈ l, -1000000000000 ≤ x.f1 ∧ x.f1 ≤ 1000000000000) → -((l.length : Int) * 1000000000000) ≤ totE l ∧ totE l ≤ (l.length : Int) * 1000000000000
  | [], _ => by simp [totE]
  | x :: xs, h => by
    have := h x (List.mem_cons_self ..)
    have := totE_bnd xs (fun y hy => h y (List.mem_cons_of_mem _ hy))
    simp only [totE, List.length_cons]
    omega
theorem scaled_len : ∀ (l out : List S31), (∀ x ∈ l, x.f1 ≠ 0) → (scaledF 2 out l).2 = true → (scaledF 2 out l).1.length = out.length + l.length
  | [], out, _, _ => by simp [scaledF]
  | x :: xs, out, h, hok => by
    have hx := h x (List.mem_cons_self ..)
    simp only [scaledF] at hok ⊢
    by_cases c : (mulP x.f1 2).2 = true
    · rw [if_pos c] at hok ⊢
      have e : (mulP x.f1 2).1 = x.f1 * 2 := by
        unfold mulP at c ⊢
        by_cases q : (x.f1 * 2).natAbs ≤ 1000000000000
        · rw [if_pos q]
        · rw [if_neg q] at c; simp at c
      have hne : ¬ (mulP x.f1 2).1 = 0 := by rw [e]; omega
      rw [if_neg hne] at hok ⊢
      rw [scaled_len xs _ (fun y hy => h y (List.mem_cons_of_mem _ hy)) hok, List.length_append, List.length_cons, List.length_cons, List.length_nil]
      omega
    · rw [if_neg c] at hok; simp at hok
theorem scale_two {s : List S31} (h : setF s = 0) : (scaleF 2 s).1 = 8 ∨ (scaleF 2 s).1 = 0 ∧ (scaleF 2 s).2.length = s.length := by
  unfold scaleF
  rw [if_pos h, if_pos (by decide)]
  unfold scaleR
  by_cases c : (scaledF 2 [] s).2 = true
  · rw [if_pos c]
    refine .inr ⟨rfl, ?_⟩
    have := scaled_len s [] (fun x hx => ((setF_ok h).2 x hx).2.2) c
    simpa using this
  · rw [if_neg c]; exact .inl rfl
theorem ba_list (l : List UInt8) : (ba l).toList = l := by
  rw [ByteArray.toList_eq]; simp [ba]
theorem text_nil {s : List S31} (h : setF s = 0) : ((textF s).toList == ([] : List UInt8)) = ((s.length : Int) == 0) := by
  unfold textF
  rw [if_pos h, ba_list]
  cases s with
  | nil => rfl
  | cons x xs =>
    have e : ¬ textT (x :: xs) = [] := by
      intro e
      have := congrArg List.length e
      simp [textT, tailT] at this
    have e2 : ¬ (((x :: xs).length : Int) = 0) := by rw [List.length_cons]; omega
    rw [beq_eq_false_iff_ne.mpr e, beq_eq_false_iff_ne.mpr e2]
/-- What is put together without fault, and put together again. -/
theorem cons_parts {z : List S31} (h : (consF z).1 = 0) : z.length ≤ 800 ∧ (∀ x ∈ z, -1000000000000 ≤ x.f1 ∧ x.f1 ≤ 1000000000000) ∧ setF (consF z).2 = 0 ∧ totE (consF z).2 = totE z ∧ consF (consF z).2 = (0, (consF z).2) := by
  unfold consF at h
  by_cases c1 : 800 < z.length
  · rw [if_pos c1] at h; simp at h
  · rw [if_neg c1] at h
    by_cases c2 : chkF z = 0
    · rw [if_pos c2] at h
      have hw : ∀ x ∈ z, -1000000000000 ≤ x.f1 ∧ x.f1 ≤ 1000000000000 := fun x hx => isW_in (chkF_ok c2 x hx)
      obtain ⟨g1, g2, g3⟩ := sum_good ⟨by omega, hw⟩ (chkF_rows c2) h
      have e : consF z = ((sumF z).2, (sumF z).1) := by unfold consF; rw [if_neg c1, if_pos c2]
      rw [e]
      refine ⟨by omega, hw, g1, g3, ?_⟩
      have es := sum_is (l := (sumF z).1) (c := (sumF z).1) (small_set g1) g1 (fun _ => rfl)
      obtain ⟨n, g⟩ := setF_ok g1
      unfold consF
      rw [if_neg (by simp only; omega), if_pos (chkF_of fun x hx => ⟨(g x hx).1, (g x hx).2.1⟩), es]
    · rw [if_neg c2] at h; exact absurd h c2
theorem sums_l0 {z : List S31} (hz : Fine z) (h : (consF z).1 = 0) : ∀ (d i : Nat), i + d = z.length → Ev (fun k => laws_FnSums.l0 k z (totE (z.take i)) (i : Int) (consF z).1 (consF z).2 0 (consF z).2) true := by
  obtain ⟨n8, hw, g1, g3, _⟩ := cons_parts h
  have fs := consF_fine hz
  intro d
  induction d with
  | zero =>
    intro i hi
    rw [List.take_of_length_le (by omega)]
    have tt := total_of g1
    refine Kit.Ev.up ?_
    simp only [laws_FnSums.l0]
    refine Kit.Ev.neg (by omega) ?_
    refine Kit.Ev.then (implScale_ev _ fs 2) (Kit.Ev.then (implSet_ev _ fs) (Kit.Ev.pos g1 (Kit.Ev.pos trivial (Kit.Ev.then (implSame_ev _ _ fs) (Kit.Ev.pos (sameB_refl _) (Kit.Ev.then (tt.1 ▸ implTotal_ev _ fs) (Kit.Ev.pos g3 ?_)))))))
    have fin : Ev (fun k => (impl_SetText.f k (consF z).2).bind fun t => some ((t.toList == ([] : List UInt8)) == (((consF z).2.length : Int) == 0))) true := by
      refine Kit.Ev.then (implText_ev _ fs) (Kit.Ev.const ?_)
      rw [text_nil g1]; simp
    refine Kit.Ev.ite (fun _ => fin) (fun c => ?_)
    rcases scale_two g1 with e | ⟨e1, e2⟩
    · exact absurd e c
    · exact Kit.Ev.pos e1 (Kit.Ev.pos (by omega) fin)
  | succ d ih =>
    intro i hi
    have hi' : i < z.length := by omega
    have et : z.take (i + 1) = z.take i ++ [z[i]] := (List.take_append_getElem hi').symm
    have b1 := totE_bnd (z.take i) (fun x hx => hw x (List.mem_of_mem_take hx))
    have b2 := hw _ (List.getElem_mem hi')
    rw [List.length_take] at b1
    have e : totE (z.take (i + 1)) = totE (z.take i) + z[i].f1 := by
      rw [et, totE_app]; simp [totE]
    have := ih (i + 1) (by omega)
    rw [e] at this
    refine Kit.Ev.up ?_
    simp only [laws_FnSums.l0]
    rw [rdE_at hi', Kit.w64s (n := z.length) (by omega) (by omega) (by omega), Kit.w64 (by omega) (by omega)]
    exact Kit.Ev.pos (by omega) (Kit.Ev.pos (by omega) this)
theorem FnSums : laws_FnSums.Pure := by
  intro l0 hl _
  refine Kit.Ev.ex ?_
  unfold laws_FnSums.f laws_lwBig.f
  simp only [Option.bind_some]
  refine Kit.Ev.ite (fun _ => Kit.Ev.const rfl) (fun hbig => ?_)
  have hc : BytesOk l0 := bytesOk_of (by simp only [decide_eq_true_eq] at hbig; omega) hl.2
  obtain ⟨z, H, hz⟩ := drawCons_some hc
  refine Kit.Ev.then H (Kit.Ev.then (implCons_ev z hz) (Kit.Ev.ite (fun h0 => ?_) (fun h0 => ?_)))
  · obtain ⟨_, _, _, _, e⟩ := cons_parts h0
    refine Kit.Ev.then (e ▸ implCons_ev _ (consF_fine hz)) ?_
    exact sums_l0 hz h0 z.length 0 (by omega)
  · refine Kit.Ev.then (specCons_ev z hz) (Kit.Ev.const ?_)
    simp

end Go.Proofs.YthgmicingbjemaaDoor.Pure
