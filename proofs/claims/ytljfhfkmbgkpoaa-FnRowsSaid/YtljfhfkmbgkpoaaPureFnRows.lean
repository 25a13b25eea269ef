/- The law FnRows answers true for every text of bytes: rows compare with their order turned, packed rows are read back, and bytes that are read as rows are packed to themselves. -/
import Derived.Test.YtljfhfkmbgkpoaaKit
import Derived.Test.YtljfhfkmbgkpoaaPFnRowsx8
namespace Go.Proofs.Ytljfhfkmbgkpoaa.Pure
open Go.RowKit Go.Proofs.Ytljfhfkmbgkpoaa.PFnRows Go.Proofs.YtljfhfkmbgkpoaaW.PrintWords Go.Proofs.YtljfhfkmbgkpoaaW.PrintLast Go.Proofs.Ytljfhfkmbgkpoaa
set_option linter.unusedSimpArgs false
set_option linter.unusedVariables false

theorem w64n {i n : Nat} (h : i < n) (hn : n ≤ 9223372036854775807) : wrap64 ((i : Int) + 1) = ((i + 1 : Nat) : Int) := by
  rw [Kit.w64 (by omega) (by omega)]; rfl
theorem rd_drop {xs : List Int} {i : Nat} (h : i < xs.length) : xs.drop i = rd xs (i : Int) :: xs.drop (i + 1) := by
  rw [Kit.rd_at h]; exact List.drop_eq_getElem_cons h
theorem specIn_eq (a b c : Int) : spec_l1In.f a b c = some (decide (b ≤ a ∧ a ≤ c)) := by
  unfold spec_l1In.f
  by_cases h : a ≥ b
  · rw [if_pos h]; simp [show b ≤ a from h]
  · rw [if_neg h]; simp; intro h'; omega
theorem implIn_eq (a b c : Int) : impl_in.f a b c = some (decide (b ≤ a ∧ a ≤ c)) := by
  unfold impl_in.f
  by_cases h : a ≥ b
  · rw [if_pos h]; simp [show b ≤ a from h]
  · rw [if_neg h]; simp; intro h'; omega
def inC (x : Int) : Bool := decide (-1000000000 ≤ x ∧ x ≤ 1000000000)
def rowF (xs : List Int) : Int := if 4 < xs.length then 2 else if xs.all inC = true then 0 else 3
theorem specRow_l0 (xs : List Int) (hn : xs.length ≤ 9223372036854775807) : ∀ (d i : Nat), i + d = xs.length → Ev (fun k => spec_RowFault.l0 k xs (i : Int)) (if (xs.drop i).all inC = true then 0 else 3) := by
  intro d
  induction d with
  | zero =>
    intro i hd
    refine Kit.Ev.up ?_
    simp only [spec_RowFault.l0]
    refine Kit.Ev.neg (by omega) (Kit.Ev.const ?_)
    rw [List.drop_eq_nil_of_le (by omega)]; simp
  | succ d ih =>
    intro i hd
    refine Kit.Ev.up ?_
    simp only [spec_RowFault.l0]
    refine Kit.Ev.pos (by omega) (Kit.Ev.pos (by omega) ?_)
    rw [specIn_eq]
    simp only [Option.bind_some]
    rw [rd_drop (xs := xs) (i := i) (by omega), w64n (n := xs.length) (by omega) hn]
    by_cases h : inC (rd xs (i : Int)) = true
    · refine Kit.Ev.pos h ((ih (i + 1) (by omega)).eq ?_)
      simp [h]
    · refine Kit.Ev.neg h (Kit.Ev.const ?_)
      simp [h]
theorem specRow_ev (xs : List Int) (hn : xs.length ≤ 9223372036854775807) : Ev (fun k => spec_RowFault.f k xs) (rowF xs) := by
  unfold spec_RowFault.f
  refine Kit.Ev.ite (fun h => Kit.Ev.const ?_) (fun h => ?_)
  · simp [rowF, show 4 < xs.length by omega]
  · exact (specRow_l0 xs hn xs.length 0 (by omega)).eq (by simp [rowF, show ¬ 4 < xs.length by omega])
theorem implRow_l0 (xs : List Int) (hn : xs.length ≤ 9223372036854775807) : ∀ (d i : Nat), i + d = xs.length → Ev (fun k => impl_RowFault.l0 k xs (xs.length : Int) (i : Int)) (if (xs.drop i).all inC = true then 0 else 3) := by
  intro d
  induction d with
  | zero =>
    intro i hd
    refine Kit.Ev.up ?_
    simp only [impl_RowFault.l0]
    refine Kit.Ev.neg (by omega) (Kit.Ev.const ?_)
    rw [List.drop_eq_nil_of_le (by omega)]; simp
  | succ d ih =>
    intro i hd
    refine Kit.Ev.up ?_
    simp only [impl_RowFault.l0]
    refine Kit.Ev.pos (by omega) (Kit.Ev.pos (by omega) (Kit.Ev.pos (by omega) ?_))
    rw [implIn_eq]
    simp only [Option.bind_some]
    rw [rd_drop (xs := xs) (i := i) (by omega), w64n (n := xs.length) (by omega) hn]
    by_cases h : inC (rd xs (i : Int)) = true
    · refine Kit.Ev.pos h ((ih (i + 1) (by omega)).eq ?_)
      simp [h]
    · refine Kit.Ev.neg h (Kit.Ev.const ?_)
      simp [h]
theorem implRow_ev (xs : List Int) (hn : xs.length ≤ 9223372036854775807) : Ev (fun k => impl_RowFault.f k xs) (rowF xs) := by
  unfold impl_RowFault.f
  refine Kit.Ev.ite (fun h => Kit.Ev.const ?_) (fun h => ?_)
  · simp [rowF, show 4 < xs.length by omega]
  · exact (implRow_l0 xs hn xs.length 0 (by omega)).eq (by simp [rowF, show ¬ 4 < xs.length by omega])
def cmpR : List Int → List Int → Int
  | [], [] => 0
  | [], _ :: _ => -1
  | _ :: _, [] => 1
  | a :: xs, b :: ys => if a < b then -1 else if b < a then 1 else cmpR xs ys
theorem cmpR_len : ∀ (xs ys : List Int), xs = [] ∨ ys = [] → cmpR xs ys = if xs.length < ys.length then -1 else if ys.length < xs.length then 1 else 0
  | [], [], _ => rfl
  | [], _ :: _, _ => by simp [cmpR]
  | _ :: _, [], _ => by simp [cmpR]
  | _ :: _, _ :: _, h => by simp at h
theorem cmp64_eq (a b : Int) : cmp_Compare_int64.f a b = some (if a < b then -1 else if b < a then 1 else 0) := by
  unfold cmp_Compare_int64.f cmp_isNaN_int64.f
  simp only [bne_self_eq_false, Option.bind_some, Bool.false_eq_true, if_false]
  by_cases h1 : a < b
  · simp [h1]
  · by_cases h2 : b < a <;> simp [h1, h2]
theorem cmpI_eq (a b : Int) : cmp_Compare_int.f a b = some (if a < b then -1 else if b < a then 1 else 0) := by
  unfold cmp_Compare_int.f cmp_isNaN_int.f
  simp only [bne_self_eq_false, Option.bind_some, Bool.false_eq_true, if_false]
  by_cases h1 : a < b
  · simp [h1]
  · by_cases h2 : b < a <;> simp [h1, h2]
theorem implCmp_l0 (xs ys : List Int) (hn : xs.length ≤ 9223372036854775807) : ∀ (d i : Nat), i + d = min xs.length ys.length → Ev (fun k => impl_CompareRows.l0 k xs ys ((min xs.length ys.length : Nat) : Int) (i : Int)) (cmpR (xs.drop i) (ys.drop i)) := by
  intro d
  induction d with
  | zero =>
    intro i hd
    refine Kit.Ev.up ?_
    simp only [impl_CompareRows.l0]
    refine Kit.Ev.neg (by omega) ?_
    rw [cmpI_eq]
    refine Kit.Ev.const ?_
    rw [cmpR_len _ _ (by
      by_cases h : i = xs.length
      · exact .inl (List.drop_eq_nil_of_le (by omega))
      · exact .inr (List.drop_eq_nil_of_le (by omega)))]
    simp only [List.length_drop, Option.bind_some]
    by_cases h1 : xs.length < ys.length
    · rw [if_pos (by omega), if_pos (by omega)]
    · by_cases h2 : ys.length < xs.length
      · rw [if_neg (by omega), if_pos (by omega), if_neg (by omega), if_pos (by omega)]
      · rw [if_neg (by omega), if_neg (by omega), if_neg (by omega), if_neg (by omega)]
  | succ d ih =>
    intro i hd
    refine Kit.Ev.up ?_
    simp only [impl_CompareRows.l0]
    refine Kit.Ev.pos (by omega) (Kit.Ev.pos (by omega) (Kit.Ev.pos (by omega) (Kit.Ev.pos (by omega) ?_)))
    rw [rd_drop (xs := xs) (i := i) (by omega), rd_drop (xs := ys) (i := i) (by omega), w64n (n := xs.length) (by omega) hn, cmp64_eq]
    simp only [cmpR, Option.bind_some]
    by_cases h1 : rd xs (i : Int) < rd ys (i : Int)
    · simp only [h1, if_true]; exact Kit.Ev.const rfl
    · by_cases h2 : rd ys (i : Int) < rd xs (i : Int)
      · simp only [h1, h2, if_true, if_false]; exact Kit.Ev.const rfl
      · simp only [h1, h2, if_true, if_false]; exact ih (i + 1) (by omega)
theorem implCmp_ev (xs ys : List Int) (hn : xs.length ≤ 9223372036854775807) : Ev (fun k => impl_CompareRows.f k xs ys) (cmpR xs ys) := by
  unfold impl_CompareRows.f
  refine Kit.Ev.ite (fun h => ?_) (fun h => ?_)
  · have := implCmp_l0 xs ys hn _ 0 (Nat.zero_add _)
    rwa [Nat.min_eq_right (by omega)] at this
  · have := implCmp_l0 xs ys hn _ 0 (Nat.zero_add _)
    rwa [Nat.min_eq_left (by omega)] at this
def BytesOk (l : List Int) : Prop := l.length ≤ 1048576 ∧ ∀ x ∈ l, 0 ≤ x ∧ x ≤ 255
theorem wfu8 {x : Int} (h : (Lit.int .u8 x).wf = true) : 0 ≤ x ∧ x ≤ 255 := by
  simp only [Lit.wf, Bool.and_eq_true, decide_eq_true_eq] at h
  obtain ⟨h0, h1⟩ := h
  have e0 : IntKind.u8.min = 0 := by rfl
  have e1 : IntKind.u8.max = 255 := by rfl
  rw [e0] at h0
  rw [e1] at h1
  exact ⟨h0, h1⟩
theorem bytesOk_of {l : List Int} (h : l.length ≤ 1048576) (hw : ∀ x ∈ l, (Lit.int .u8 x).wf = true) : BytesOk l := ⟨h, fun x hx => wfu8 (hw x hx)⟩
theorem BytesOk.rd {l : List Int} (h : BytesOk l) (i : Int) : 0 ≤ rd l i ∧ rd l i ≤ 255 := by
  unfold Go.Proofs.YtljfhfkmbgkpoaaW.PrintWords.rd
  by_cases hi : i.toNat < l.length
  · rw [List.getD_eq_getElem?_getD, List.getElem?_eq_getElem hi]
    exact h.2 _ (List.getElem_mem hi)
  · rw [List.getD_eq_getElem?_getD, List.getElem?_eq_none (by omega)]
    simp
theorem tmod_in {x n : Int} (hx : 0 ≤ x) (hn : 1 ≤ n) : 0 ≤ Int.tmod x n ∧ Int.tmod x n < n := by
  rw [Int.tmod_eq_emod_of_nonneg hx]
  exact ⟨Int.emod_nonneg _ (by omega), Int.emod_lt_of_pos _ (by omega)⟩
theorem tdiv_in {x n : Int} (hx : 0 ≤ x) (hn : 1 ≤ n) : 0 ≤ Int.tdiv x n ∧ Int.tdiv x n ≤ x := by
  rw [Int.tdiv_eq_ediv_of_nonneg hx]
  exact ⟨Int.ediv_nonneg hx (by omega), Int.ediv_le_self _ hx⟩
/-- A draw of a number: it answers, within its bounds, and goes one place on. -/
theorem next_some {c : List Int} (hc : BytesOk c) {t : Int} (h0 : 0 ≤ t) (h1 : t ≤ 1000000000000) (n : Int) :
    ∃ v, spec_l1Next.f c t n = some (v, t + 1) ∧ (1 ≤ n → 0 ≤ v ∧ v < n) ∧ (n < 1 → v = 0) := by
  unfold spec_l1Next.f
  have e1 : wrap64 (t + 1) = t + 1 := Kit.w64 (by omega) (by omega)
  have e2 : wrap64 (t + 1 - 1) = t := by rw [Kit.w64 (by omega) (by omega)]; omega
  simp only [e1, e2]
  by_cases hn : n < 1
  · rw [if_pos hn]
    exact ⟨0, rfl, fun h => by omega, fun _ => rfl⟩
  rw [if_neg hn]
  have hn1 : 1 ≤ n := by omega
  by_cases hl : (c.length : Int) = 0
  · rw [if_pos hl, if_neg (by omega)]
    have e4 : wrap64 (t * 7) = t * 7 := Kit.w64 (by omega) (by omega)
    rw [e4]
    exact ⟨_, rfl, fun _ => tmod_in (by omega) hn1, fun h => by omega⟩
  rw [if_neg hl]
  have hl1 : 1 ≤ (c.length : Int) := by omega
  have m1 := tmod_in h0 hl1
  have m2 := tmod_in (x := t + 1) (by omega) hl1
  have q1 := tdiv_in h0 hl1
  have r1 := hc.rd (Int.tmod t (c.length : Int))
  have r2 := hc.rd (Int.tmod (t + 1) (c.length : Int))
  rw [if_pos m1.1, if_pos m1.2]
  generalize rd c (Int.tmod t (c.length : Int)) = x1 at *
  generalize rd c (Int.tmod (t + 1) (c.length : Int)) = x2 at *
  generalize Int.tdiv t (c.length : Int) = d at *
  have w1 : wrap64 x1 = x1 := Kit.w64 (by omega) (by omega)
  have w2 : wrap64 x2 = x2 := Kit.w64 (by omega) (by omega)
  have w3 : wrap64 d = d := Kit.w64 (by omega) (by omega)
  have w4 : wrap64 (d * 37) = d * 37 := Kit.w64 (by omega) (by omega)
  have w5 : wrap64 (x1 + d * 37) = x1 + d * 37 := Kit.w64 (by omega) (by omega)
  have w6 : wrap64 ((x1 + d * 37) * 251) = (x1 + d * 37) * 251 := Kit.w64 (by omega) (by omega)
  have w7 : wrap64 (x2 * 13) = x2 * 13 := Kit.w64 (by omega) (by omega)
  have w8 : wrap64 ((x1 + d * 37) * 251 + x2 * 13) = (x1 + d * 37) * 251 + x2 * 13 := Kit.w64 (by omega) (by omega)
  have w9 : wrap64 ((x1 + d * 37) * 251 + x2 * 13 + t) = (x1 + d * 37) * 251 + x2 * 13 + t := Kit.w64 (by omega) (by omega)
  by_cases h200 : n > 200
  · rw [if_pos h200, if_pos m2.1, if_pos m2.2, if_neg (by omega)]
    simp only [w1, w2, w3, w4, w5, w6, w7, w8, w9]
    exact ⟨_, rfl, fun _ => tmod_in (by omega) hn1, fun h => by omega⟩
  · rw [if_neg h200, if_neg (by omega)]
    simp only [w1, w3, w4, w5]
    exact ⟨_, rfl, fun _ => tmod_in (by omega) hn1, fun h => by omega⟩
theorem pick_some {c : List Int} (hc : BytesOk c) {t : Int} (h0 : 0 ≤ t) (h1 : t ≤ 1000000000000) (l : List Int) (hl : 1 ≤ l.length) :
    ∃ v, spec_l1Pick.f c t l = some (v, t + 1) ∧ v ∈ l := by
  unfold spec_l1Pick.f
  obtain ⟨v, e, hv, _⟩ := next_some hc h0 h1 (l.length : Int)
  obtain ⟨g0, g1⟩ := hv (by omega)
  rw [e]
  simp only [Option.bind_some]
  rw [if_pos g0, if_pos g1]
  refine ⟨_, rfl, ?_⟩
  unfold Go.Proofs.YtljfhfkmbgkpoaaW.PrintWords.rd
  have hi : v.toNat < l.length := by omega
  rw [List.getD_eq_getElem?_getD, List.getElem?_eq_getElem hi]
  exact List.getElem_mem hi
theorem cmpR_anti : ∀ xs ys : List Int, cmpR xs ys = - cmpR ys xs
  | [], [] => rfl
  | [], _ :: _ => rfl
  | _ :: _, [] => rfl
  | a :: xs, b :: ys => by
    simp only [cmpR]
    have ih := cmpR_anti xs ys
    by_cases h1 : a < b
    · rw [if_pos h1, if_neg (by omega), if_pos h1]
    · by_cases h2 : b < a
      · rw [if_neg h1, if_pos h2, if_pos h2]; rfl
      · rw [if_neg h1, if_neg h2, if_neg h2, if_neg h1]; exact ih
def cellB (c : Int) : List Int := [((c + 549755813888) / 4294967296) % 256, ((c + 549755813888) / 16777216) % 256, ((c + 549755813888) / 65536) % 256, ((c + 549755813888) / 256) % 256, (c + 549755813888) % 256]
def packR (r : List Int) : List Int := ((r.length : Int) % 256) :: r.flatMap cellB
def packG : List Int → List (List Int) → Int × List Int
  | out, [] => (0, out)
  | out, r :: rs => if rowF r = 0 then packG (out ++ packR r) rs else (rowF r, [])
def packV (rows : List (List Int)) : Int × List Int := if 60 < rows.length then (2, []) else packG [] rows
theorem rowF_zero {r : List Int} (h : rowF r = 0) : r.length ≤ 4 ∧ ∀ x ∈ r, -1000000000 ≤ x ∧ x ≤ 1000000000 := by
  unfold rowF at h
  by_cases h1 : 4 < r.length
  · rw [if_pos h1] at h; omega
  · rw [if_neg h1] at h
    by_cases h2 : r.all inC = true
    · refine ⟨by omega, fun x hx => ?_⟩
      have := List.all_eq_true.mp h2 x hx
      simpa [inC] using this
    · rw [if_neg h2] at h; omega
theorem cells_len : ∀ r : List Int, (r.flatMap cellB).length = 5 * r.length
  | [] => rfl
  | x :: r => by rw [List.flatMap_cons, List.length_append, cells_len r]; simp only [cellB, List.length_cons, List.length_nil]; omega
theorem packR_len (r : List Int) : (packR r).length = 1 + 5 * r.length := by simp only [packR, List.length_cons, cells_len]; omega
theorem rd2_drop {xs : List (List Int)} {i : Nat} (h : i < xs.length) : xs.drop i = rd_L2 xs (i : Int) :: xs.drop (i + 1) := by
  rw [List.drop_eq_getElem_cons h]
  simp [rd_L2, List.getD_eq_getElem?_getD, List.getElem?_eq_getElem h]
theorem rd2_mem {xs : List (List Int)} {i : Nat} (h : i < xs.length) : rd_L2 xs (i : Int) ∈ xs := by
  simp only [rd_L2, Int.toNat_natCast, List.getD_eq_getElem?_getD, List.getElem?_eq_getElem h, Option.getD_some]
  exact List.getElem_mem h
theorem rd_mem {xs : List Int} {i : Nat} (h : i < xs.length) : rd xs (i : Int) ∈ xs := by
  rw [Kit.rd_at h]; exact List.getElem_mem h
theorem putCell_eq (l : List Int) (c : Int) (h0 : -1000000000 ≤ c) (h1 : c ≤ 1000000000) (hl : l.length ≤ 1048576) : impl_putCell.f l c = some (l ++ cellB c) := by
  unfold impl_putCell.f
  simp only [Option.bind_some]
  rw [Kit.w64 (x := c + 549755813888) (by omega) (by omega)]
  rw [if_pos (by simp only [List.length_cons, List.length_nil]; omega)]
  rfl
theorem putRow_l0 (xs : List Int) (hx : ∀ x ∈ xs, -1000000000 ≤ x ∧ x ≤ 1000000000) (hn : xs.length ≤ 4) : ∀ (d i : Nat) (out : List Int), i + d = xs.length → out.length + 5 * d ≤ 1000000 → Ev (fun k => impl_putRow.l0 k out xs (xs.length : Int) (i : Int)) (out ++ (xs.drop i).flatMap cellB) := by
  intro d
  induction d with
  | zero =>
    intro i out hd _
    refine Kit.Ev.up ?_
    simp only [impl_putRow.l0]
    refine Kit.Ev.neg (by omega) (Kit.Ev.const ?_)
    rw [List.drop_eq_nil_of_le (by omega)]; simp
  | succ d ih =>
    intro i out hd hl
    refine Kit.Ev.up ?_
    simp only [impl_putRow.l0]
    refine Kit.Ev.pos (by omega) (Kit.Ev.pos (by omega) (Kit.Ev.pos (by omega) ?_))
    have hb := hx _ (rd_mem (xs := xs) (i := i) (by omega))
    refine Kit.Ev.call (putCell_eq out _ hb.1 hb.2 (by omega)) ?_
    rw [w64n (n := xs.length) (by omega) (by omega), rd_drop (xs := xs) (i := i) (by omega), List.flatMap_cons, ← List.append_assoc]
    exact ih (i + 1) _ (by omega) (by rw [List.length_append]; simp only [cellB, List.length_cons, List.length_nil]; omega)
theorem putRow_ev (out xs : List Int) (h : rowF xs = 0) (hl : out.length ≤ 900000) : Ev (fun k => impl_putRow.f k out xs) (out ++ packR xs) := by
  obtain ⟨hn, hx⟩ := rowF_zero h
  unfold impl_putRow.f
  refine Kit.Ev.pos (by omega) ?_
  refine (putRow_l0 xs hx hn xs.length 0 _ (by omega) (by rw [List.length_append]; simp only [List.length_cons, List.length_nil]; omega)).eq ?_
  simp [packR]
theorem implPack_l0 (rows : List (List Int)) (hr : ∀ r ∈ rows, r.length ≤ 1048576) (hn : rows.length ≤ 60) : ∀ (d i : Nat) (out : List Int), i + d = rows.length → out.length + 21 * d ≤ 100000 → Ev (fun k => impl_PackRows.l0 k out rows (rows.length : Int) (i : Int)) (packG out (rows.drop i)) := by
  intro d
  induction d with
  | zero =>
    intro i out hd _
    refine Kit.Ev.up ?_
    simp only [impl_PackRows.l0]
    refine Kit.Ev.neg (by omega) (Kit.Ev.const ?_)
    rw [List.drop_eq_nil_of_le (by omega)]; rfl
  | succ d ih =>
    intro i out hd hl
    refine Kit.Ev.up ?_
    simp only [impl_PackRows.l0]
    have hm := hr _ (rd2_mem (xs := rows) (i := i) (by omega))
    refine Kit.Ev.pos (by omega) (Kit.Ev.pos (by omega) (Kit.Ev.pos (by omega) (Kit.Ev.then (implRow_ev _ (by omega)) ?_)))
    rw [rd2_drop (xs := rows) (i := i) (by omega)]
    simp only [packG]
    by_cases h : rowF (rd_L2 rows (i : Int)) = 0
    · rw [if_pos h]
      refine Kit.Ev.pos h (Kit.Ev.then (putRow_ev out _ h (by omega)) ?_)
      rw [w64n (n := rows.length) (by omega) (by omega)]
      have := (rowF_zero h).1
      exact ih (i + 1) _ (by omega) (by rw [List.length_append, packR_len]; omega)
    · rw [if_neg h]
      exact Kit.Ev.neg h (Kit.Ev.const rfl)
theorem implPack_ev (rows : List (List Int)) (hr : ∀ r ∈ rows, r.length ≤ 1048576) : Ev (fun k => impl_PackRows.f k rows) (packV rows) := by
  unfold impl_PackRows.f
  refine Kit.Ev.ite (fun h => Kit.Ev.const ?_) (fun h => ?_)
  · simp [packV, show 60 < rows.length by omega]
  · refine (implPack_l0 rows hr (by omega) rows.length 0 [] (by omega) (by simp; omega)).eq ?_
    simp [packV, show ¬ 60 < rows.length by omega]
theorem shr_of (v : Int) (n : Nat) (hn : n ≤ 64) : shr .i64 v (n : Int) = v / 2 ^ n := by
  unfold shr
  have : (IntKind.i64).bits = 64 := rfl
  rw [this, Int.toNat_natCast, Nat.min_eq_left hn]
theorem specPack_l2 (rows : List (List Int)) (x4 x6 a : Int) (v : Int) (out : List Int) (hl : out.length ≤ 1000000) {r : Int × List Int}
    (H : Ev (fun k => spec_PackRows.l1 k rows x4 (wrap64 (x6 + 1)) a (out ++ [(v / 4294967296) % 256, (v / 16777216) % 256, (v / 65536) % 256, (v / 256) % 256, v % 256])) r) :
    Ev (fun k => spec_PackRows.l2 k rows x4 x6 v 4 a out) r := by
  refine Kit.Ev.up ?_
  simp only [spec_PackRows.l2]
  refine Kit.Ev.pos (by decide +kernel) (Kit.Ev.pos (by decide +kernel) (Kit.Ev.pos (by omega) ?_))
  have e4 : wrap64 (4 - 1) = 3 := by decide +kernel
  have e3 : wrap64 (3 - 1) = 2 := by decide +kernel
  have e2 : wrap64 (2 - 1) = 1 := by decide +kernel
  have e1 : wrap64 (1 - 1) = 0 := by decide +kernel
  have e0 : wrap64 (0 - 1) = -1 := by decide +kernel
  have s4 : IntKind.u64.wrap (wrap64 (8 * 4)) = ((32 : Nat) : Int) := by decide +kernel
  have s3 : IntKind.u64.wrap (wrap64 (8 * 3)) = ((24 : Nat) : Int) := by decide +kernel
  have s2 : IntKind.u64.wrap (wrap64 (8 * 2)) = ((16 : Nat) : Int) := by decide +kernel
  have s1 : IntKind.u64.wrap (wrap64 (8 * 1)) = ((8 : Nat) : Int) := by decide +kernel
  have s0 : IntKind.u64.wrap (wrap64 (8 * 0)) = ((0 : Nat) : Int) := by decide +kernel
  rw [e4, s4, shr_of v 32 (by omega)]
  refine Kit.Ev.up ?_
  simp only [spec_PackRows.l2]
  refine Kit.Ev.pos (by decide +kernel) (Kit.Ev.pos (by decide +kernel) (Kit.Ev.pos (by simp only [List.length_append, List.length_cons, List.length_nil]; omega) ?_))
  rw [e3, s3, shr_of v 24 (by omega)]
  refine Kit.Ev.up ?_
  simp only [spec_PackRows.l2]
  refine Kit.Ev.pos (by decide +kernel) (Kit.Ev.pos (by decide +kernel) (Kit.Ev.pos (by simp only [List.length_append, List.length_cons, List.length_nil]; omega) ?_))
  rw [e2, s2, shr_of v 16 (by omega)]
  refine Kit.Ev.up ?_
  simp only [spec_PackRows.l2]
  refine Kit.Ev.pos (by decide +kernel) (Kit.Ev.pos (by decide +kernel) (Kit.Ev.pos (by simp only [List.length_append, List.length_cons, List.length_nil]; omega) ?_))
  rw [e1, s1, shr_of v 8 (by omega)]
  refine Kit.Ev.up ?_
  simp only [spec_PackRows.l2]
  refine Kit.Ev.pos (by decide +kernel) (Kit.Ev.pos (by decide +kernel) (Kit.Ev.pos (by simp only [List.length_append, List.length_cons, List.length_nil]; omega) ?_))
  rw [e0, s0, shr_of v 0 (by omega)]
  refine Kit.Ev.up ?_
  simp only [spec_PackRows.l2]
  refine Kit.Ev.neg (by decide +kernel) ?_
  simpa using H
theorem specPack_l1 (rows : List (List Int)) (i : Nat) (hi : i < rows.length) (hn : rows.length ≤ 60) (a : Int) (xs : List Int) (hxs : rd_L2 rows (i : Int) = xs) (hx : ∀ x ∈ xs, -1000000000 ≤ x ∧ x ≤ 1000000000) (h4 : xs.length ≤ 4) {r : Int × List Int} : ∀ (d j : Nat) (out : List Int), j + d = xs.length → out.length + 5 * d ≤ 900000 →
    Ev (fun k => spec_PackRows.l0 k rows (((i + 1 : Nat)) : Int) a (out ++ (xs.drop j).flatMap cellB)) r →
    Ev (fun k => spec_PackRows.l1 k rows (i : Int) (j : Int) a out) r := by
  intro d
  induction d with
  | zero =>
    intro j out hd _ H
    refine Kit.Ev.up ?_
    simp only [spec_PackRows.l1, hxs]
    refine Kit.Ev.pos (by omega) (Kit.Ev.pos (by omega) (Kit.Ev.neg (by omega) ?_))
    rw [w64n (n := rows.length) (by omega) (by omega)]
    rw [List.drop_eq_nil_of_le (by omega)] at H
    simpa using H
  | succ d ih =>
    intro j out hd hl H
    refine Kit.Ev.up ?_
    simp only [spec_PackRows.l1, hxs]
    have hb := hx _ (rd_mem (xs := xs) (i := j) (by omega))
    refine Kit.Ev.pos (by omega) (Kit.Ev.pos (by omega) (Kit.Ev.pos (by omega) (Kit.Ev.pos (by omega) ?_)))
    rw [Kit.w64 (x := rd xs (j : Int) + 549755813888) (by omega) (by omega)]
    refine specPack_l2 rows _ _ a _ out (by omega) ?_
    rw [w64n (n := xs.length) (by omega) (by omega)]
    rw [rd_drop (xs := xs) (i := j) (by omega), List.flatMap_cons, ← List.append_assoc] at H
    exact ih (j + 1) _ (by omega) (by rw [List.length_append]; simp only [List.length_cons, List.length_nil]; omega) H
theorem specPack_l0 (rows : List (List Int)) (hr : ∀ r ∈ rows, r.length ≤ 1048576) (hn : rows.length ≤ 60) : ∀ (d i : Nat) (out : List Int), i + d = rows.length → out.length + 21 * d ≤ 100000 → Ev (fun k => spec_PackRows.l0 k rows (i : Int) 0 out) (packG out (rows.drop i)) := by
  intro d
  induction d with
  | zero =>
    intro i out hd _
    refine Kit.Ev.up ?_
    simp only [spec_PackRows.l0]
    refine Kit.Ev.neg (by omega) (Kit.Ev.const ?_)
    rw [List.drop_eq_nil_of_le (by omega)]; rfl
  | succ d ih =>
    intro i out hd hl
    refine Kit.Ev.up ?_
    simp only [spec_PackRows.l0]
    have hm := hr _ (rd2_mem (xs := rows) (i := i) (by omega))
    refine Kit.Ev.pos (by omega) (Kit.Ev.pos (by omega) (Kit.Ev.then (specRow_ev _ (by omega)) ?_))
    rw [rd2_drop (xs := rows) (i := i) (by omega)]
    simp only [packG]
    by_cases h : rowF (rd_L2 rows (i : Int)) = 0
    · rw [if_pos h]
      have hz := rowF_zero h
      refine Kit.Ev.pos h (Kit.Ev.pos (by omega) ?_)
      refine specPack_l1 rows i (by omega) hn 0 _ rfl hz.2 hz.1 (rd_L2 rows (i : Int)).length 0 _ (by omega) (by rw [List.length_append]; simp only [List.length_cons, List.length_nil]; omega) ?_
      have := ih (i + 1) (out ++ packR (rd_L2 rows (i : Int))) (by omega) (by rw [List.length_append, packR_len]; omega)
      simpa [packR] using this
    · rw [if_neg h]
      exact Kit.Ev.neg h (Kit.Ev.const rfl)
theorem specPack_ev (rows : List (List Int)) (hr : ∀ r ∈ rows, r.length ≤ 1048576) : Ev (fun k => spec_PackRows.f k rows) (packV rows) := by
  unfold spec_PackRows.f
  refine Kit.Ev.ite (fun h => Kit.Ev.const ?_) (fun h => ?_)
  · simp [packV, show 60 < rows.length by omega]
  · refine (specPack_l0 rows hr (by omega) rows.length 0 [] (by omega) (by simp; omega)).eq ?_
    simp [packV, show ¬ 60 < rows.length by omega]
def cellV (a b c d e : Int) : Int := (((a * 256 + b) * 256 + c) * 256 + d) * 256 + e - 549755813888
def cells : Nat → List Int → List Int
  | 0, _ => []
  | n + 1, l => cellV (rd l 0) (rd l 1) (rd l 2) (rd l 3) (rd l 4) :: cells n (l.drop 5)
def rowOk (b : Int) (rest : List Int) : Prop := b ≤ 4 ∧ 5 * b ≤ (rest.length : Int) ∧ rowF (cells b.toNat rest) = 0
instance (b : Int) (rest : List Int) : Decidable (rowOk b rest) := by unfold rowOk; infer_instance
def unG : Nat → Int → List (List Int) → List Int → Int × Int × List (List Int)
  | 0, _, rows, _ => (0, 0, rows)
  | _ + 1, _, rows, [] => (0, 0, rows)
  | n + 1, at_, rows, b :: rest =>
    if rowOk b rest ∧ rows.length ≠ 60 then unG n (at_ + 1 + 5 * b) (rows ++ [cells b.toNat rest]) (rest.drop (5 * b.toNat)) else (5, at_, [])
def unV (data : List Int) : Int × Int × List (List Int) := unG (data.length + 1) 0 [] data
theorem cells_length : ∀ (n : Nat) (l : List Int), (cells n l).length = n
  | 0, _ => rfl
  | n + 1, l => by simp only [cells, List.length_cons, cells_length n]
theorem cells_snoc : ∀ (n : Nat) (l : List Int), cells (n + 1) l = cells n l ++ [cellV (rd (l.drop (5 * n)) 0) (rd (l.drop (5 * n)) 1) (rd (l.drop (5 * n)) 2) (rd (l.drop (5 * n)) 3) (rd (l.drop (5 * n)) 4)]
  | 0, l => by simp [cells]
  | n + 1, l => by
    rw [cells, cells_snoc n (l.drop 5), cells, List.cons_append, List.drop_drop]
    rw [show 5 + 5 * n = 5 * (n + 1) by omega]
theorem rd_dropi (l : List Int) (m i : Nat) : rd (l.drop m) (i : Int) = rd l ((m + i : Nat) : Int) := by
  rw [Kit.rd_nat, Kit.rd_nat, List.getD_eq_getElem?_getD, List.getD_eq_getElem?_getD, List.getElem?_drop]
theorem cellV_B {c : Int} (h0 : -1000000000 ≤ c) (h1 : c ≤ 1000000000) : cellV (((c + 549755813888) / 4294967296) % 256) (((c + 549755813888) / 16777216) % 256) (((c + 549755813888) / 65536) % 256) (((c + 549755813888) / 256) % 256) ((c + 549755813888) % 256) = c := by
  unfold cellV
  omega
theorem cells_pack : ∀ (r rest : List Int), (∀ x ∈ r, -1000000000 ≤ x ∧ x ≤ 1000000000) → cells r.length (r.flatMap cellB ++ rest) = r
  | [], _, _ => rfl
  | c :: r, rest, h => by
    have hc := h c (by simp)
    simp only [List.length_cons, cells, List.flatMap_cons, cellB, List.cons_append, List.nil_append, List.append_assoc, List.drop_succ_cons, List.drop_zero]
    rw [cells_pack r rest (fun x hx => h x (by simp [hx]))]
    congr 1
    exact cellV_B hc.1 hc.2
theorem unG_pack : ∀ (rs : List (List Int)) (n : Nat) (at_ : Int) (acc : List (List Int)), (∀ r ∈ rs, rowF r = 0) → acc.length + rs.length ≤ 60 → rs.length < n → unG n at_ acc (rs.flatMap packR) = (0, 0, acc ++ rs)
  | [], n, at_, acc, _, _, hn => by
    obtain ⟨m, rfl⟩ : ∃ m, n = m + 1 := ⟨n - 1, by simp at hn; omega⟩
    simp [unG]
  | r :: rs, n, at_, acc, h, ha, hn => by
    obtain ⟨m, rfl⟩ : ∃ m, n = m + 1 := ⟨n - 1, by simp at hn; omega⟩
    have hr := h r (by simp)
    have hz := rowF_zero hr
    have hb : ((r.length : Int) % 256) = (r.length : Int) := by omega
    simp only [List.length_cons] at ha hn
    simp only [List.flatMap_cons, packR, List.cons_append, unG, hb]
    have hc : cells (r.length : Int).toNat (r.flatMap cellB ++ rs.flatMap packR) = r := by
      rw [Int.toNat_natCast]; exact cells_pack r _ hz.2
    have hok : rowOk (r.length : Int) (r.flatMap cellB ++ rs.flatMap packR) := by
      refine ⟨by omega, ?_, by rw [hc]; exact hr⟩
      rw [List.length_append, cells_len]; omega
    rw [if_pos ⟨hok, by omega⟩, hc]
    have hd : (r.flatMap cellB ++ rs.flatMap packR).drop (5 * (r.length : Int).toNat) = rs.flatMap packR := by
      rw [Int.toNat_natCast, List.drop_append_of_le_length (by rw [cells_len]; omega), List.drop_eq_nil_of_le (by rw [cells_len]; omega), List.nil_append]
    rw [hd, unG_pack rs m _ (acc ++ [r]) (fun x hx => h x (by simp [hx])) (by simp; omega) (by omega)]
    simp
theorem packG_zero : ∀ (rs : List (List Int)) (out : List Int), (packG out rs).1 = 0 → (∀ r ∈ rs, rowF r = 0) ∧ packG out rs = (0, out ++ rs.flatMap packR)
  | [], out, _ => ⟨by simp, by simp [packG]⟩
  | r :: rs, out, h => by
    simp only [packG] at h ⊢
    by_cases hr : rowF r = 0
    · rw [if_pos hr] at h ⊢
      obtain ⟨h1, h2⟩ := packG_zero rs _ h
      refine ⟨fun x hx => ?_, by rw [h2]; simp⟩
      rcases List.mem_cons.mp hx with rfl | hx
      · exact hr
      · exact h1 x hx
    · rw [if_neg hr] at h
      exact absurd h hr
theorem packG_of : ∀ (rs : List (List Int)) (out : List Int), (∀ r ∈ rs, rowF r = 0) → packG out rs = (0, out ++ rs.flatMap packR)
  | [], out, _ => by simp [packG]
  | r :: rs, out, h => by
    simp only [packG]
    rw [if_pos (h r (by simp)), packG_of rs _ (fun x hx => h x (by simp [hx]))]
    simp
theorem flat_len : ∀ rs : List (List Int), rs.length ≤ (rs.flatMap packR).length
  | [] => Nat.le_refl _
  | r :: rs => by rw [List.flatMap_cons, List.length_append, packR_len, List.length_cons]; have := flat_len rs; omega
/-- What is packed is read back. -/
theorem un_pack {rows : List (List Int)} (h : (packV rows).1 = 0) : unV (packV rows).2 = (0, 0, rows) := by
  unfold packV at h ⊢
  by_cases h1 : 60 < rows.length
  · rw [if_pos h1] at h; exact absurd h (by decide +kernel)
  · rw [if_neg h1] at h ⊢
    obtain ⟨a, b⟩ := packG_zero rows [] h
    rw [b]
    simp only [List.nil_append, unV]
    rw [unG_pack rows _ 0 [] a (by simp; omega) (by have := flat_len rows; omega)]
    simp
theorem cells_back : ∀ (n : Nat) (l : List Int), 5 * n ≤ l.length → (∀ x ∈ l, 0 ≤ x ∧ x ≤ 255) → (cells n l).flatMap cellB = l.take (5 * n)
  | 0, l, _, _ => by simp [cells]
  | n + 1, l, h, hb => by
    obtain ⟨a, b, c, d, e, l', rfl⟩ : ∃ a b c d e l', l = a :: b :: c :: d :: e :: l' := by
      match l, h with
      | a :: b :: c :: d :: e :: l', _ => exact ⟨a, b, c, d, e, l', rfl⟩
      | [], h => simp at h
      | [_], h => simp at h; omega
      | [_, _], h => simp at h; omega
      | [_, _, _], h => simp at h; omega
      | [_, _, _, _], h => simp at h; omega
    have ha := hb a (by simp); have hb' := hb b (by simp); have hc := hb c (by simp); have hd := hb d (by simp); have he := hb e (by simp)
    simp only [cells, List.flatMap_cons, List.drop_succ_cons, List.drop_zero]
    rw [cells_back n l' (by simp only [List.length_cons] at h; omega) (fun x hx => hb x (by simp [hx]))]
    rw [show 5 * (n + 1) = 5 * n + 1 + 1 + 1 + 1 + 1 by omega]
    simp only [List.take_succ_cons, cellB]
    have r0 : rd (a :: b :: c :: d :: e :: l') 0 = a := rfl
    have r1 : rd (a :: b :: c :: d :: e :: l') 1 = b := rfl
    have r2 : rd (a :: b :: c :: d :: e :: l') 2 = c := rfl
    have r3 : rd (a :: b :: c :: d :: e :: l') 3 = d := rfl
    have r4 : rd (a :: b :: c :: d :: e :: l') 4 = e := rfl
    rw [r0, r1, r2, r3, r4]
    have v : cellV a b c d e + 549755813888 = (((a * 256 + b) * 256 + c) * 256 + d) * 256 + e := by unfold cellV; omega
    rw [v]
    have q0 : ((((a * 256 + b) * 256 + c) * 256 + d) * 256 + e) / 4294967296 % 256 = a := by omega
    have q1 : ((((a * 256 + b) * 256 + c) * 256 + d) * 256 + e) / 16777216 % 256 = b := by omega
    have q2 : ((((a * 256 + b) * 256 + c) * 256 + d) * 256 + e) / 65536 % 256 = c := by omega
    have q3 : ((((a * 256 + b) * 256 + c) * 256 + d) * 256 + e) / 256 % 256 = d := by omega
    have q4 : ((((a * 256 + b) * 256 + c) * 256 + d) * 256 + e) % 256 = e := by omega
    rw [q0, q1, q2, q3, q4]
    rfl
theorem unG_back : ∀ (n : Nat) (at_ : Int) (acc : List (List Int)) (l : List Int), l.length < n → (∀ x ∈ l, 0 ≤ x ∧ x ≤ 255) → (∀ r ∈ acc, rowF r = 0) → acc.length ≤ 60 → (unG n at_ acc l).1 = 0 →
    (∀ r ∈ (unG n at_ acc l).2.2, rowF r = 0) ∧ (unG n at_ acc l).2.2.length ≤ 60 ∧ (unG n at_ acc l).2.2.flatMap packR = acc.flatMap packR ++ l
  | 0, _, _, _, h, _, _, _, _ => by omega
  | n + 1, at_, acc, [], _, _, ha, h60, _ => ⟨ha, h60, by simp [unG]⟩
  | n + 1, at_, acc, b :: rest, hl, hb, ha, h60, h => by
    simp only [unG] at h ⊢
    by_cases hc : rowOk b rest ∧ acc.length ≠ 60
    · rw [if_pos hc] at h ⊢
      obtain ⟨⟨h4, h5, hr⟩, hne⟩ := hc
      have hb0 := hb b (by simp)
      have hrest : ∀ x ∈ rest, 0 ≤ x ∧ x ≤ 255 := fun x hx => hb x (by simp [hx])
      simp only [List.length_cons] at hl
      obtain ⟨i1, i2, i3⟩ := unG_back n _ _ (rest.drop (5 * b.toNat)) (by rw [List.length_drop]; omega) (fun x hx => hrest x (List.mem_of_mem_drop hx)) (by
        intro r hr'
        rcases List.mem_append.mp hr' with h' | h'
        · exact ha r h'
        · rw [List.mem_singleton] at h'; rw [h']; exact hr) (by rw [List.length_append]; simp only [List.length_cons, List.length_nil]; omega) h
      refine ⟨i1, i2, ?_⟩
      rw [i3]
      simp only [List.flatMap_append, List.flatMap_cons, List.flatMap_nil, List.append_nil, packR, cells_length, List.append_assoc, List.cons_append]
      rw [cells_back _ _ (by omega) hrest, List.take_append_drop]
      congr 2
      omega
    · rw [if_neg hc] at h
      simp at h
/-- What is read is packed to the bytes it was read from. -/
theorem pack_un {l : List Int} (hb : ∀ x ∈ l, 0 ≤ x ∧ x ≤ 255) (h : (unV l).1 = 0) : packV (unV l).2.2 = (0, l) := by
  obtain ⟨h1, h2, h3⟩ := unG_back (l.length + 1) 0 [] l (by omega) hb (by simp) (by simp) h
  unfold packV
  have e : (unV l) = unG (l.length + 1) 0 [] l := rfl
  rw [e, if_neg (by omega), packG_of _ _ h1, h3]
  simp
theorem or_add {y a : Int} (h0 : 0 ≤ y) (h1 : y < 1099511627776) (ha : 0 ≤ a) (ha' : a ≤ 255) : Go.bits .or .i64 (y * 256) a = y * 256 + a := by
  obtain ⟨m, rfl⟩ := Int.eq_ofNat_of_zero_le h0
  obtain ⟨b, rfl⟩ := Int.eq_ofNat_of_zero_le ha
  unfold Go.bits
  simp only [BitVec.toNat_or, BitVec.toNat_ofInt]
  have hk : (IntKind.i64).bits = 64 := rfl
  rw [hk]
  have e1 : (((m : Int) * 256) % ((2 : Nat) ^ 64 : Nat)).toNat = m <<< 8 := by
    rw [Nat.shiftLeft_eq]; omega
  have e2 : ((b : Int) % ((2 : Nat) ^ 64 : Nat)).toNat = b := by omega
  rw [e1, e2, ← Nat.shiftLeft_add_eq_or_of_lt (by omega : b < 2 ^ 8), Nat.shiftLeft_eq]
  have : IntKind.i64.wrap (((m * 2 ^ 8 + b : Nat)) : Int) = ((m * 2 ^ 8 + b : Nat) : Int) := by
    have e : IntKind.i64.wrap (((m * 2 ^ 8 + b : Nat)) : Int) = wrap64 (((m * 2 ^ 8 + b : Nat)) : Int) := i64_w _
    rw [e, Kit.w64 (by omega) (by omega)]
  rw [this]
  omega
theorem or_step {y z B : Int} (hy : 0 ≤ y ∧ y < B) (hz : 0 ≤ z ∧ z ≤ 255) (hB : B ≤ 1099511627776) : Go.bits .or .i64 (wrap64 (y * 256)) (wrap64 z) = y * 256 + z ∧ (0 ≤ y * 256 + z ∧ y * 256 + z < B * 256) := by
  rw [Kit.w64 (x := y * 256) (by omega) (by omega), Kit.w64 (x := z) (by omega) (by omega), or_add hy.1 (by omega) hz.1 hz.2]
  exact ⟨rfl, by omega, by omega⟩
theorem acc_step {y z B : Int} (hy : 0 ≤ y ∧ y < B) (hz : 0 ≤ z ∧ z ≤ 255) (hB : B ≤ 1099511627776) : wrap64 (wrap64 (y * 256) + wrap64 z) = y * 256 + z ∧ (0 ≤ y * 256 + z ∧ y * 256 + z < B * 256) := by
  rw [Kit.w64 (x := y * 256) (by omega) (by omega), Kit.w64 (x := z) (by omega) (by omega), Kit.w64 (by omega) (by omega)]
  exact ⟨rfl, by omega, by omega⟩
theorem last_step {y : Int} (hy : 0 ≤ y ∧ y < 1 * 256 * 256 * 256 * 256 * 256) : wrap64 (y - 549755813888) = y - 549755813888 := Kit.w64 (by omega) (by omega)
theorem five {l : List Int} {m : Nat} (h : m + 5 ≤ l.length) : (l.take (m + 5)).drop m = [rd (l.drop m) 0, rd (l.drop m) 1, rd (l.drop m) 2, rd (l.drop m) 3, rd (l.drop m) 4] := by
  rw [List.drop_take, show m + 5 - m = 5 by omega]
  have hl : 5 ≤ (l.drop m).length := by rw [List.length_drop]; omega
  generalize l.drop m = q at hl
  match q, hl with
  | a :: b :: c :: d :: e :: l', _ => rfl
  | [], h => simp at h
  | [_], h => simp at h
  | [_, _], h => simp at h
  | [_, _, _], h => simp at h
  | [_, _, _, _], h => simp at h
theorem readRow_l1 (l acc : List Int) (x5 x6 a b c d e : Int) (hacc : acc.length ≤ 100) (ha : 0 ≤ a ∧ a ≤ 255) (hb : 0 ≤ b ∧ b ≤ 255) (hc : 0 ≤ c ∧ c ≤ 255) (hd : 0 ≤ d ∧ d ≤ 255) (he : 0 ≤ e ∧ e ≤ 255) {r : List Int × Int}
    (H : Ev (fun k => impl_readRow.l0 k l (acc ++ [cellV a b c d e]) x5 (wrap64 (x6 + 5))) r) :
    Ev (fun k => impl_readRow.l1 k l acc x5 x6 0 [a, b, c, d, e] 5 0) r := by
  have w1 : wrap64 (0 + 1) = 1 := by decide +kernel
  have w2 : wrap64 (1 + 1) = 2 := by decide +kernel
  have w3 : wrap64 (2 + 1) = 3 := by decide +kernel
  have w4 : wrap64 (3 + 1) = 4 := by decide +kernel
  have w5 : wrap64 (4 + 1) = 5 := by decide +kernel
  have r0 : rd [a, b, c, d, e] 0 = a := rfl
  have r1 : rd [a, b, c, d, e] 1 = b := rfl
  have r2 : rd [a, b, c, d, e] 2 = c := rfl
  have r3 : rd [a, b, c, d, e] 3 = d := rfl
  have r4 : rd [a, b, c, d, e] 4 = e := rfl
  have q1 := or_step (y := 0) (z := a) (B := 1) (by decide) ha (by decide)
  have q2 := or_step q1.2 hb (by decide)
  have q3 := or_step q2.2 hc (by decide)
  have q4 := or_step q3.2 hd (by decide)
  have q5 := or_step q4.2 he (by decide)
  have hlen : (([a, b, c, d, e] : List Int).length : Int) = 5 := rfl
  refine Kit.Ev.up ?_
  simp only [impl_readRow.l1, hlen]
  refine Kit.Ev.pos (by decide +kernel) (Kit.Ev.pos (by decide +kernel) (Kit.Ev.pos (by decide +kernel) ?_))
  rw [w1, r0, q1.1]
  refine Kit.Ev.up ?_
  simp only [impl_readRow.l1, hlen]
  refine Kit.Ev.pos (by decide +kernel) (Kit.Ev.pos (by decide +kernel) (Kit.Ev.pos (by decide +kernel) ?_))
  rw [w2, r1, q2.1]
  refine Kit.Ev.up ?_
  simp only [impl_readRow.l1, hlen]
  refine Kit.Ev.pos (by decide +kernel) (Kit.Ev.pos (by decide +kernel) (Kit.Ev.pos (by decide +kernel) ?_))
  rw [w3, r2, q3.1]
  refine Kit.Ev.up ?_
  simp only [impl_readRow.l1, hlen]
  refine Kit.Ev.pos (by decide +kernel) (Kit.Ev.pos (by decide +kernel) (Kit.Ev.pos (by decide +kernel) ?_))
  rw [w4, r3, q4.1]
  refine Kit.Ev.up ?_
  simp only [impl_readRow.l1, hlen]
  refine Kit.Ev.pos (by decide +kernel) (Kit.Ev.pos (by decide +kernel) (Kit.Ev.pos (by decide +kernel) ?_))
  rw [w5, r4, q5.1]
  refine Kit.Ev.up ?_
  simp only [impl_readRow.l1, hlen]
  refine Kit.Ev.neg (by decide +kernel) (Kit.Ev.pos (by omega) ?_)
  have hv : wrap64 (((((0 * 256 + a) * 256 + b) * 256 + c) * 256 + d) * 256 + e - 549755813888) = cellV a b c d e := by
    rw [last_step q5.2]; unfold cellV; rw [Int.zero_mul, Int.zero_add]
  rw [hv]
  exact H
theorem readRow_l0 (l : List Int) (hb : ∀ i : Int, 0 ≤ rd l i ∧ rd l i ≤ 255) (n : Nat) (h4 : n ≤ 4) (hl : 1 + 5 * n ≤ l.length) : ∀ (d j : Nat), j + d = n →
    Ev (fun k => impl_readRow.l0 k l (cells j (l.drop 1)) ((1 + 5 * n : Nat) : Int) ((1 + 5 * j : Nat) : Int)) (if rowF (cells n (l.drop 1)) = 0 then (cells n (l.drop 1), ((1 + 5 * n : Nat) : Int)) else ([], 0)) := by
  intro d
  induction d with
  | zero =>
    intro j hd
    obtain rfl : j = n := by omega
    refine Kit.Ev.up ?_
    simp only [impl_readRow.l0]
    refine Kit.Ev.neg (by omega) (Kit.Ev.then (implRow_ev _ (by rw [cells_length]; omega)) ?_)
    by_cases h : rowF (cells j (l.drop 1)) = 0
    · exact Kit.Ev.pos h (Kit.Ev.const (by rw [if_pos h]))
    · exact Kit.Ev.neg h (Kit.Ev.const (by rw [if_neg h]))
  | succ d ih =>
    intro j hd
    refine Kit.Ev.up ?_
    simp only [impl_readRow.l0]
    have e5 : wrap64 (((1 + 5 * j : Nat) : Int) + 5) = ((1 + 5 * j + 5 : Nat) : Int) := by rw [Kit.w64 (by omega) (by omega)]; omega
    rw [e5]
    refine Kit.Ev.pos (by omega) (Kit.Ev.pos (by omega) (Kit.Ev.pos (by omega) (Kit.Ev.pos (by omega) ?_)))
    simp only [Int.toNat_natCast]
    rw [five (by omega)]
    have q : ∀ i : Nat, rd (l.drop (1 + 5 * j)) (i : Int) = rd l ((1 + 5 * j + i : Nat) : Int) := fun i => rd_dropi _ _ _
    have qb : ∀ i : Nat, 0 ≤ rd (l.drop (1 + 5 * j)) (i : Int) ∧ rd (l.drop (1 + 5 * j)) (i : Int) ≤ 255 := fun i => by rw [q]; exact hb _
    refine readRow_l1 l _ _ _ _ _ _ _ _ (by rw [cells_length]; omega) (qb 0) (qb 1) (qb 2) (qb 3) (qb 4) ?_
    rw [e5]
    have := ih (j + 1) (by omega)
    rw [cells_snoc, List.drop_drop] at this
    exact this
theorem readRow_ev (b : Int) (rest : List Int) (hb : ∀ x ∈ b :: rest, 0 ≤ x ∧ x ≤ 255) : Ev (fun k => impl_readRow.f k (b :: rest)) (if rowOk b rest then (cells b.toNat rest, 1 + 5 * b) else ([], 0)) := by
  have b0 := hb b (by simp)
  have hrd : ∀ i : Int, 0 ≤ rd (b :: rest) i ∧ rd (b :: rest) i ≤ 255 := by
    intro i
    unfold Go.Proofs.YtljfhfkmbgkpoaaW.PrintWords.rd
    by_cases hi : i.toNat < (b :: rest).length
    · rw [List.getD_eq_getElem?_getD, List.getElem?_eq_getElem hi]; exact hb _ (List.getElem_mem hi)
    · rw [List.getD_eq_getElem?_getD, List.getElem?_eq_none (by omega)]; simp
  have r0 : rd (b :: rest) 0 = b := rfl
  unfold impl_readRow.f
  rw [r0]
  have hw : wrap64 b = b := Kit.w64 (by omega) (by omega)
  have hw2 : wrap64 (5 * b) = 5 * b := Kit.w64 (by omega) (by omega)
  have hw3 : wrap64 (1 + 5 * b) = 1 + 5 * b := Kit.w64 (by omega) (by omega)
  rw [hw, hw2, hw3]
  have bad : ∀ x, x = true → Ev (fun k => impl_readRow.j0 k (b :: rest) x) (([], 0) : List Int × Int) := by
    intro x hx; subst hx
    refine Kit.Ev.up ?_
    simp only [impl_readRow.j0]
    exact Kit.Ev.pos (by trivial) (Kit.Ev.const rfl)
  refine Kit.Ev.neg (by simp only [List.length_cons]; omega) (Kit.Ev.pos (by simp only [List.length_cons]; omega) ?_)
  by_cases h4 : b ≤ 4
  · refine Kit.Ev.neg (by omega) ?_
    by_cases h5 : 5 * b ≤ (rest.length : Int)
    · have hf : decide (((b :: rest).length : Int) < 1 + 5 * b) = false := by simp only [List.length_cons]; exact decide_eq_false (by omega)
      rw [hf]
      refine Kit.Ev.up ?_
      simp only [impl_readRow.j0]
      refine Kit.Ev.neg (by decide +kernel) (Kit.Ev.pos (by simp only [List.length_cons]; omega) ?_)
      rw [r0, hw, hw2, hw3]
      have H := readRow_l0 (b :: rest) hrd b.toNat (by omega) (by simp only [List.length_cons]; omega) b.toNat 0 (by omega)
      have e : ((1 + 5 * b.toNat : Nat) : Int) = 1 + 5 * b := by omega
      rw [e] at H
      refine H.eq ?_
      simp only [List.drop_succ_cons, List.drop_zero]
      by_cases h : rowF (cells b.toNat rest) = 0
      · rw [if_pos h, if_pos ⟨h4, h5, h⟩]
      · rw [if_neg h, if_neg (fun q => h q.2.2)]
    · rw [if_neg (fun q => h5 q.2.1)]
      exact bad _ (by simp only [List.length_cons]; exact decide_eq_true (by omega))
  · rw [if_neg (fun q => h4 q.1)]
    exact Kit.Ev.pos (by omega) (bad _ rfl)
theorem implUn_l0 (data : List Int) (hb : ∀ x ∈ data, 0 ≤ x ∧ x ≤ 255) (hn : data.length ≤ 1048576) : ∀ (n i : Nat) (acc : List (List Int)), i ≤ data.length → data.length - i < n → acc.length ≤ 60 →
    Ev (fun k => impl_UnpackRows.l0 k data acc (i : Int)) (unG n (i : Int) acc (data.drop i)) := by
  intro n
  induction n with
  | zero => intro i acc _ h _; omega
  | succ n ih =>
    intro i acc hi hl ha
    refine Kit.Ev.up ?_
    simp only [impl_UnpackRows.l0]
    by_cases he : i < data.length
    · rw [rd_drop (xs := data) (i := i) he]
      simp only [unG]
      refine Kit.Ev.pos (by omega) (Kit.Ev.pos (by omega) (Kit.Ev.pos (by omega) ?_))
      simp only [Int.toNat_natCast]
      have hd : data.drop i = rd data (i : Int) :: data.drop (i + 1) := rd_drop (xs := data) (i := i) he
      have R := readRow_ev (rd data (i : Int)) (data.drop (i + 1)) (by rw [← hd]; exact fun x hx => hb x (List.mem_of_mem_drop hx))
      rw [← hd] at R
      have b0 := hb _ (rd_mem (xs := data) (i := i) he)
      refine Kit.Ev.then R ?_
      by_cases hok : rowOk (rd data (i : Int)) (data.drop (i + 1))
      · rw [if_pos hok]
        simp only
        refine Kit.Ev.neg (by omega) ?_
        by_cases h60 : acc.length = 60
        · rw [if_neg (fun q => q.2 h60)]
          exact Kit.Ev.pos (by omega) (Kit.Ev.const rfl)
        · rw [if_pos ⟨hok, h60⟩]
          refine Kit.Ev.neg (by omega) (Kit.Ev.pos (by omega) ?_)
          have h5 := hok.2.1
          rw [List.length_drop] at h5
          have H := ih (i + 1 + 5 * (rd data (i : Int)).toNat) (acc ++ [cells (rd data (i : Int)).toNat (data.drop (i + 1))]) (by omega) (by omega) (by rw [List.length_append]; simp only [List.length_cons, List.length_nil]; omega)
          have e1 : wrap64 ((i : Int) + (1 + 5 * rd data (i : Int))) = ((i + 1 + 5 * (rd data (i : Int)).toNat : Nat) : Int) := by rw [Kit.w64 (by omega) (by omega)]; omega
          have e2 : (i : Int) + 1 + 5 * rd data (i : Int) = ((i + 1 + 5 * (rd data (i : Int)).toNat : Nat) : Int) := by omega
          rw [e1, e2, List.drop_drop]
          exact H
      · rw [if_neg hok, if_neg (fun q => hok q.1)]
        exact Kit.Ev.pos rfl (Kit.Ev.const rfl)
    · have e0 : data.drop i = [] := List.drop_eq_nil_of_le (by omega)
      rw [e0]
      exact Kit.Ev.neg (by omega) (Kit.Ev.const rfl)
theorem implUn_ev (data : List Int) (hb : ∀ x ∈ data, 0 ≤ x ∧ x ≤ 255) (hn : data.length ≤ 1048576) : Ev (fun k => impl_UnpackRows.f k data) (unV data) := by
  unfold impl_UnpackRows.f
  exact implUn_l0 data hb hn (data.length + 1) 0 [] (by omega) (by omega) (by simp)
theorem in_five {m n : Nat} (h : m + 5 ≤ n) (i : Nat) (hi : i < 5) : 0 ≤ ((m + i : Nat) : Int) ∧ ((m + i : Nat) : Int) < (n : Int) := ⟨by omega, by omega⟩
theorem w_five {m n : Nat} (h : m + 5 ≤ n) (hn : n ≤ 1048576) (i : Nat) (hi : i ≤ 5) : wrap64 ((m : Int) + (i : Int)) = ((m + i : Nat) : Int) := by
  rw [Kit.w64 (by omega) (by omega)]; omega
theorem specUn_l2 (data acc : List Int) (rows : List (List Int)) (x4 x5 x8 a b q1 q2 : Int) (m : Nat) (hm : m + 5 ≤ data.length) (hn : data.length ≤ 1048576) (hacc : acc.length ≤ 100) (hx : wrap64 (wrap64 (x4 + 1) + wrap64 (5 * x8)) = (m : Int)) (hb : ∀ i : Int, 0 ≤ rd data i ∧ rd data i ≤ 255) {r : Int × Int × List (List Int)}
    (H : Ev (fun k => spec_UnpackRows.l1 k data x4 x5 (acc ++ [cellV (rd (data.drop m) 0) (rd (data.drop m) 1) (rd (data.drop m) 2) (rd (data.drop m) 3) (rd (data.drop m) 4)]) (wrap64 (x8 + 1)) a b rows q1 q2) r) :
    Ev (fun k => spec_UnpackRows.l2 k data x4 x5 acc x8 0 0 a b rows q1 q2) r := by
  have w1 : wrap64 (0 + 1) = 1 := by decide +kernel
  have w2 : wrap64 (1 + 1) = 2 := by decide +kernel
  have w3 : wrap64 (2 + 1) = 3 := by decide +kernel
  have w4 : wrap64 (3 + 1) = 4 := by decide +kernel
  have w5 : wrap64 (4 + 1) = 5 := by decide +kernel
  have rr : ∀ i : Nat, rd data ((m + i : Nat) : Int) = rd (data.drop m) (i : Int) := fun i => (rd_dropi _ _ _).symm
  have bb : ∀ i : Nat, 0 ≤ rd (data.drop m) (i : Int) ∧ rd (data.drop m) (i : Int) ≤ 255 := fun i => by rw [rd_dropi]; exact hb _
  have b0 : 0 ≤ rd (data.drop m) 0 ∧ rd (data.drop m) 0 ≤ 255 := bb 0
  have b1 : 0 ≤ rd (data.drop m) 1 ∧ rd (data.drop m) 1 ≤ 255 := bb 1
  have b2 : 0 ≤ rd (data.drop m) 2 ∧ rd (data.drop m) 2 ≤ 255 := bb 2
  have b3 : 0 ≤ rd (data.drop m) 3 ∧ rd (data.drop m) 3 ≤ 255 := bb 3
  have b4 : 0 ≤ rd (data.drop m) 4 ∧ rd (data.drop m) 4 ≤ 255 := bb 4
  have t0 : wrap64 ((m : Int) + 0) = ((m + 0 : Nat) : Int) := w_five hm hn 0 (by decide)
  have t1 : wrap64 ((m : Int) + 1) = ((m + 1 : Nat) : Int) := w_five hm hn 1 (by decide)
  have t2 : wrap64 ((m : Int) + 2) = ((m + 2 : Nat) : Int) := w_five hm hn 2 (by decide)
  have t3 : wrap64 ((m : Int) + 3) = ((m + 3 : Nat) : Int) := w_five hm hn 3 (by decide)
  have t4 : wrap64 ((m : Int) + 4) = ((m + 4 : Nat) : Int) := w_five hm hn 4 (by decide)
  have s0 : rd data ((m + 0 : Nat) : Int) = rd (data.drop m) 0 := rr 0
  have s1 : rd data ((m + 1 : Nat) : Int) = rd (data.drop m) 1 := rr 1
  have s2 : rd data ((m + 2 : Nat) : Int) = rd (data.drop m) 2 := rr 2
  have s3 : rd data ((m + 3 : Nat) : Int) = rd (data.drop m) 3 := rr 3
  have s4 : rd data ((m + 4 : Nat) : Int) = rd (data.drop m) 4 := rr 4
  clear bb rr hb
  have hacc' : acc.length < 17592186044416 := by omega
  clear hacc hn
  generalize rd (data.drop m) 0 = v0 at *
  generalize rd (data.drop m) 1 = v1 at *
  generalize rd (data.drop m) 2 = v2 at *
  generalize rd (data.drop m) 3 = v3 at *
  generalize rd (data.drop m) 4 = v4 at *
  have q1_ := acc_step (y := 0) (z := v0) (B := 1) (by decide) b0 (by decide)
  have q2_ := acc_step q1_.2 b1 (by decide)
  have q3_ := acc_step q2_.2 b2 (by decide)
  have q4_ := acc_step q3_.2 b3 (by decide)
  have q5_ := acc_step q4_.2 b4 (by decide)
  have m0 : 0 ≤ ((m + 0 : Nat) : Int) ∧ ((m + 0 : Nat) : Int) < (data.length : Int) := in_five hm 0 (by decide)
  have m1 : 0 ≤ ((m + 1 : Nat) : Int) ∧ ((m + 1 : Nat) : Int) < (data.length : Int) := in_five hm 1 (by decide)
  have m2 : 0 ≤ ((m + 2 : Nat) : Int) ∧ ((m + 2 : Nat) : Int) < (data.length : Int) := in_five hm 2 (by decide)
  have m3 : 0 ≤ ((m + 3 : Nat) : Int) ∧ ((m + 3 : Nat) : Int) < (data.length : Int) := in_five hm 3 (by decide)
  have m4 : 0 ≤ ((m + 4 : Nat) : Int) ∧ ((m + 4 : Nat) : Int) < (data.length : Int) := in_five hm 4 (by decide)
  clear hm
  refine Kit.Ev.up ?_
  simp only [spec_UnpackRows.l2, hx, t0]
  refine Kit.Ev.pos (by decide +kernel) (Kit.Ev.pos m0.1 (Kit.Ev.pos m0.2 ?_))
  rw [w1, s0, q1_.1]
  refine Kit.Ev.up ?_
  simp only [spec_UnpackRows.l2, hx, t1]
  refine Kit.Ev.pos (by decide +kernel) (Kit.Ev.pos m1.1 (Kit.Ev.pos m1.2 ?_))
  rw [w2, s1, q2_.1]
  refine Kit.Ev.up ?_
  simp only [spec_UnpackRows.l2, hx, t2]
  refine Kit.Ev.pos (by decide +kernel) (Kit.Ev.pos m2.1 (Kit.Ev.pos m2.2 ?_))
  rw [w3, s2, q3_.1]
  refine Kit.Ev.up ?_
  simp only [spec_UnpackRows.l2, hx, t3]
  refine Kit.Ev.pos (by decide +kernel) (Kit.Ev.pos m3.1 (Kit.Ev.pos m3.2 ?_))
  rw [w4, s3, q4_.1]
  refine Kit.Ev.up ?_
  simp only [spec_UnpackRows.l2, hx, t4]
  refine Kit.Ev.pos (by decide +kernel) (Kit.Ev.pos m4.1 (Kit.Ev.pos m4.2 ?_))
  rw [w5, s4, q5_.1]
  refine Kit.Ev.up ?_
  simp only [spec_UnpackRows.l2]
  refine Kit.Ev.neg (by decide +kernel) (Kit.Ev.pos hacc' ?_)
  have hv : wrap64 (((((0 * 256 + v0) * 256 + v1) * 256 + v2) * 256 + v3) * 256 + v4 - 549755813888) = cellV v0 v1 v2 v3 v4 := by
    rw [last_step q5_.2]; unfold cellV; rw [Int.zero_mul, Int.zero_add]
  rw [hv]
  exact H
theorem specUn_l1 (data : List Int) (rows : List (List Int)) (hrows : rows.length ≤ 60) (i n : Nat) (h4 : n ≤ 4) (hm : i + 1 + 5 * n ≤ data.length) (hn : data.length ≤ 1048576) (hb : ∀ i : Int, 0 ≤ rd data i ∧ rd data i ≤ 255) {r : Int × Int × List (List Int)}
    (hr : rowF (cells n (data.drop (i + 1))) ≠ 0 → r = (5, (i : Int), []))
    (H : rowF (cells n (data.drop (i + 1))) = 0 → Ev (fun k => spec_UnpackRows.l0 k data ((i + 1 + 5 * n : Nat) : Int) 0 0 (rows ++ [cells n (data.drop (i + 1))])) r) : ∀ (d j : Nat), j + d = n →
    Ev (fun k => spec_UnpackRows.l1 k data (i : Int) (n : Int) (cells j (data.drop (i + 1))) (j : Int) 0 0 rows 5 (i : Int)) r := by
  intro d
  induction d with
  | zero =>
    intro j hd
    obtain rfl : j = n := by omega
    refine Kit.Ev.up ?_
    simp only [spec_UnpackRows.l1]
    refine Kit.Ev.neg (by omega) (Kit.Ev.then (specRow_ev _ (by rw [cells_length]; omega)) ?_)
    by_cases h : rowF (cells j (data.drop (i + 1))) = 0
    · refine Kit.Ev.pos h (Kit.Ev.pos (by omega) ?_)
      have e : wrap64 (wrap64 ((i : Int) + 1) + wrap64 (5 * (j : Int))) = ((i + 1 + 5 * j : Nat) : Int) := by
        rw [Kit.w64 (x := (i : Int) + 1) (by omega) (by omega), Kit.w64 (x := 5 * (j : Int)) (by omega) (by omega), Kit.w64 (by omega) (by omega)]; omega
      rw [e]
      exact H h
    · rw [hr h]; exact Kit.Ev.neg h (Kit.Ev.const rfl)
  | succ d ih =>
    intro j hd
    refine Kit.Ev.up ?_
    simp only [spec_UnpackRows.l1]
    refine Kit.Ev.pos (by omega) ?_
    have e : wrap64 (wrap64 ((i : Int) + 1) + wrap64 (5 * (j : Int))) = ((i + 1 + 5 * j : Nat) : Int) := by
      rw [Kit.w64 (x := (i : Int) + 1) (by omega) (by omega), Kit.w64 (x := 5 * (j : Int)) (by omega) (by omega), Kit.w64 (by omega) (by omega)]; omega
    refine specUn_l2 data _ rows _ _ _ _ _ _ _ (i + 1 + 5 * j) (by omega) hn (by rw [cells_length]; omega) e hb ?_
    rw [Kit.w64 (x := (j : Int) + 1) (by omega) (by omega)]
    have := ih (j + 1) (by omega)
    rw [cells_snoc, List.drop_drop] at this
    exact this
theorem specUn_l0 (data : List Int) (hb : ∀ x ∈ data, 0 ≤ x ∧ x ≤ 255) (hn : data.length ≤ 1048576) : ∀ (n i : Nat) (acc : List (List Int)), i ≤ data.length → data.length - i < n → acc.length ≤ 60 →
    Ev (fun k => spec_UnpackRows.l0 k data (i : Int) 0 0 acc) (unG n (i : Int) acc (data.drop i)) := by
  have hrd : ∀ i : Int, 0 ≤ rd data i ∧ rd data i ≤ 255 := by
    intro i
    unfold Go.Proofs.YtljfhfkmbgkpoaaW.PrintWords.rd
    by_cases hi : i.toNat < data.length
    · rw [List.getD_eq_getElem?_getD, List.getElem?_eq_getElem hi]; exact hb _ (List.getElem_mem hi)
    · rw [List.getD_eq_getElem?_getD, List.getElem?_eq_none (by omega)]; simp
  intro n
  induction n with
  | zero => intro i acc _ h _; omega
  | succ n ih =>
    intro i acc hi hl ha
    refine Kit.Ev.up ?_
    simp only [spec_UnpackRows.l0]
    by_cases he : i < data.length
    · rw [rd_drop (xs := data) (i := i) he]
      simp only [unG]
      have b0 := hb _ (rd_mem (xs := data) (i := i) he)
      have bad : ∀ x, x = true → Ev (fun k => spec_UnpackRows.j1 k data (i : Int) (rd data (i : Int)) x 0 0 acc 5 (i : Int)) (5, (i : Int), []) := by
        intro x hx; subst hx
        refine Kit.Ev.up ?_
        simp only [spec_UnpackRows.j1]
        exact Kit.Ev.pos (by trivial) (Kit.Ev.const rfl)
      have ew : wrap64 (rd data (i : Int)) = rd data (i : Int) := Kit.w64 (by omega) (by omega)
      have ew2 : wrap64 (wrap64 ((i : Int) + 1) + wrap64 (5 * rd data (i : Int))) = (i : Int) + 1 + 5 * rd data (i : Int) := by
        rw [Kit.w64 (x := (i : Int) + 1) (by omega) (by omega), Kit.w64 (x := 5 * _) (by omega) (by omega), Kit.w64 (by omega) (by omega)]
      rw [ew, ew2]
      refine Kit.Ev.pos (by omega) (Kit.Ev.pos (by omega) ?_)
      by_cases h4 : rd data (i : Int) ≤ 4
      · refine Kit.Ev.neg (by omega) ?_
        by_cases h5 : 5 * rd data (i : Int) ≤ ((data.drop (i + 1)).length : Int)
        · have h5' := h5
          rw [List.length_drop] at h5'
          refine Kit.Ev.neg (by omega) ?_
          by_cases h60 : acc.length = 60
          · rw [if_neg (fun q => q.2 h60)]
            exact bad _ (by simp [h60])
          · have hf : ((acc.length : Int) == 60) = false := by simp; omega
            rw [hf]
            refine Kit.Ev.up ?_
            simp only [spec_UnpackRows.j1]
            refine Kit.Ev.neg (by decide +kernel) ?_
            have en : rd data (i : Int) = (((rd data (i : Int)).toNat : Nat) : Int) := by omega
            have L := @specUn_l1 data acc ha i (rd data (i : Int)).toNat (by omega) (by omega) hn hrd
            have e2 : (i : Int) + 1 + 5 * rd data (i : Int) = ((i + 1 + 5 * (rd data (i : Int)).toNat : Nat) : Int) := by omega
            rw [e2]
            rw [← en] at L
            refine L ?_ ?_ (rd data (i : Int)).toNat 0 (by omega)
            · intro hz
              rw [if_neg (fun q => hz q.1.2.2)]
            · intro hz
              rw [if_pos ⟨⟨h4, h5, hz⟩, h60⟩, List.drop_drop]
              exact ih (i + 1 + 5 * (rd data (i : Int)).toNat) _ (by omega) (by omega) (by rw [List.length_append]; simp only [List.length_cons, List.length_nil]; omega)
        · rw [if_neg (fun q => h5 q.1.2.1)]
          rw [List.length_drop] at h5
          exact Kit.Ev.pos (by omega) (bad _ rfl)
      · rw [if_neg (fun q => h4 q.1.1)]
        exact Kit.Ev.pos (by omega) (bad _ rfl)
    · have e0 : data.drop i = [] := List.drop_eq_nil_of_le (by omega)
      rw [e0]
      exact Kit.Ev.neg (by omega) (Kit.Ev.const rfl)
theorem specUn_ev (data : List Int) (hb : ∀ x ∈ data, 0 ≤ x ∧ x ≤ 255) (hn : data.length ≤ 1048576) : Ev (fun k => spec_UnpackRows.f k data) (unV data) := by
  unfold spec_UnpackRows.f
  exact specUn_l0 data hb hn (data.length + 1) 0 [] (by omega) (by omega) (by simp)
theorem lwNums_l0 (xs ys : List Int) (he : xs.length = ys.length) (hn : xs.length ≤ 9223372036854775807) : ∀ (d i : Nat), i + d = xs.length → Ev (fun k => laws_lwNums.l0 k xs ys (i : Int)) (decide (xs.drop i = ys.drop i)) := by
  intro d
  induction d with
  | zero =>
    intro i hd
    refine Kit.Ev.up ?_
    simp only [laws_lwNums.l0]
    refine Kit.Ev.neg (by omega) (Kit.Ev.const ?_)
    rw [List.drop_eq_nil_of_le (by omega), List.drop_eq_nil_of_le (by omega)]; simp
  | succ d ih =>
    intro i hd
    refine Kit.Ev.up ?_
    simp only [laws_lwNums.l0]
    refine Kit.Ev.pos (by omega) (Kit.Ev.pos (by omega) (Kit.Ev.pos (by omega) ?_))
    rw [w64n (n := xs.length) (by omega) hn, rd_drop (xs := xs) (i := i) (by omega), rd_drop (xs := ys) (i := i) (by omega)]
    by_cases h : rd xs (i : Int) = rd ys (i : Int)
    · refine Kit.Ev.pos h ((ih (i + 1) (by omega)).eq ?_)
      simp [h]
    · refine Kit.Ev.neg h (Kit.Ev.const ?_)
      simp [h]
theorem lwNums_ev (xs ys : List Int) (hn : xs.length ≤ 9223372036854775807) : Ev (fun k => laws_lwNums.f k xs ys) (decide (xs = ys)) := by
  unfold laws_lwNums.f
  by_cases h : xs.length = ys.length
  · exact Kit.Ev.pos (by omega) (lwNums_l0 xs ys h hn xs.length 0 (by omega))
  · refine Kit.Ev.neg (by omega) (Kit.Ev.const ?_)
    have : xs ≠ ys := fun e => h (by rw [e])
    simp [this]
theorem cmpR_zero : ∀ xs ys : List Int, cmpR xs ys = 0 ↔ xs = ys
  | [], [] => by simp [cmpR]
  | [], _ :: _ => by simp [cmpR]
  | _ :: _, [] => by simp [cmpR]
  | a :: xs, b :: ys => by
    simp only [cmpR]
    by_cases h1 : a < b
    · rw [if_pos h1]; simp; omega
    · by_cases h2 : b < a
      · rw [if_neg h1, if_pos h2]; simp; omega
      · rw [if_neg h1, if_neg h2, cmpR_zero xs ys]
        have : a = b := by omega
        simp [this]
theorem cmpR_in : ∀ xs ys : List Int, cmpR xs ys = -1 ∨ cmpR xs ys = 0 ∨ cmpR xs ys = 1
  | [], [] => by simp [cmpR]
  | [], _ :: _ => by simp [cmpR]
  | _ :: _, [] => by simp [cmpR]
  | a :: xs, b :: ys => by
    simp only [cmpR]
    by_cases h1 : a < b
    · rw [if_pos h1]; simp
    · by_cases h2 : b < a
      · rw [if_neg h1, if_pos h2]; simp
      · rw [if_neg h1, if_neg h2]; exact cmpR_in xs ys
theorem cell_some {c : List Int} (hc : BytesOk c) {t : Int} (h0 : 0 ≤ t) (h1 : t ≤ 999999999000) : ∃ v, spec_l1Cell.f c t = some (v, t + 6) := by
  unfold spec_l1Cell.f
  obtain ⟨v1, e1, _⟩ := next_some hc h0 (by omega) 4
  obtain ⟨v2, e2, _⟩ := next_some hc (t := t + 1) (by omega) (by omega) 4
  obtain ⟨v3, e3, _⟩ := next_some hc (t := t + 1 + 1) (by omega) (by omega) 4
  obtain ⟨v4, e4, _⟩ := next_some hc (t := t + 1 + 1 + 1) (by omega) (by omega) 5
  obtain ⟨v5, e5, _⟩ := next_some hc (t := t + 1 + 1 + 1 + 1) (by omega) (by omega) 90000
  simp only [e1, e2, e3, e4, e5, Option.bind_some]
  obtain ⟨v6, e6, _⟩ := pick_some hc (t := t + 1 + 1 + 1 + 1 + 1) (by omega) (by omega) ([v1, v2, v3, wrap64 (-v4), v5] : List Int) (by simp)
  rw [e6]
  exact ⟨v6, by simp only [Option.bind_some]; congr 2; omega⟩
theorem row_ev {c : List Int} (hc : BytesOk c) : ∀ (n : Nat) (t : Int) (acc : List Int), n ≤ 100 → acc.length + n ≤ 1000 → 0 ≤ t → t + 6 * n ≤ 999999900000 → ∃ r, Ev (fun k => spec_l1Row.l0 k (n : Int) acc c t) (r, t + 6 * n) ∧ r.length = acc.length + n := by
  intro n
  induction n with
  | zero =>
    intro t acc _ _ _ _
    refine ⟨acc, Kit.Ev.up ?_, by omega⟩
    simp only [spec_l1Row.l0]
    exact Kit.Ev.neg (by omega) (Kit.Ev.const (by congr 2; omega))
  | succ n ih =>
    intro t acc hn ha h0 h1
    obtain ⟨v, e⟩ := cell_some hc h0 (by omega)
    obtain ⟨r, H, hr⟩ := ih (t + 6) (acc ++ [v]) (by omega) (by rw [List.length_append]; simp only [List.length_cons, List.length_nil]; omega) (by omega) (by omega)
    refine ⟨r, Kit.Ev.up ?_, by rw [hr, List.length_append]; simp only [List.length_cons, List.length_nil]; omega⟩
    simp only [spec_l1Row.l0]
    refine Kit.Ev.pos (by omega) (Kit.Ev.call e (Kit.Ev.pos (by omega) ?_))
    have e1 : wrap64 (((n + 1 : Nat) : Int) - 1) = (n : Int) := by rw [Kit.w64 (by omega) (by omega)]; omega
    rw [e1]
    exact H.eq (by congr 1; omega)
theorem row_some {c : List Int} (hc : BytesOk c) {t : Int} (h0 : 0 ≤ t) (h1 : t ≤ 999999000000) {n : Int} (hn : 0 ≤ n) (hn' : n ≤ 100) : ∃ r, Ev (fun k => spec_l1Row.f k c t n) (r, t + 6 * n) ∧ (r.length : Int) = n := by
  obtain ⟨m, rfl⟩ := Int.eq_ofNat_of_zero_le hn
  obtain ⟨r, H, hr⟩ := row_ev hc m t [] (by omega) (by simp; omega) h0 (by omega)
  exact ⟨r, H, by simp at hr; omega⟩
theorem chance_some {c : List Int} (hc : BytesOk c) {t : Int} (h0 : 0 ≤ t) (h1 : t ≤ 1000000000000) (n : Int) : ∃ b, spec_l1Chance.f c t n = some (b, t + 1) := by
  unfold spec_l1Chance.f
  obtain ⟨v, e, _⟩ := next_some hc h0 h1 n
  exact ⟨_, by rw [e]; rfl⟩
theorem bent_some {c : List Int} (hc : BytesOk c) {t : Int} (h0 : 0 ≤ t) (h1 : t ≤ 999998000000) : ∃ r t', Ev (fun k => spec_l1Bent.f k c t) (r, t') ∧ r.length ≤ 5 ∧ t ≤ t' ∧ t' ≤ t + 1000 := by
  have j1 : ∀ (r : List Int) (u : Int), r.length ≤ 5 → t ≤ u → u ≤ t + 500 → ∃ r' t', Ev (fun k => spec_l1Bent.j1 k r c u) (r', t') ∧ r'.length ≤ 5 ∧ t ≤ t' ∧ t' ≤ t + 1000 := by
    intro r u hr hu hu'
    obtain ⟨b, e⟩ := chance_some hc (t := u) (by omega) (by omega) 24
    by_cases hb : b = true
    · obtain ⟨r', H, hl⟩ := row_some hc (t := u + 1) (by omega) (by omega) (n := 5) (by omega) (by omega)
      refine ⟨r', u + 1 + 6 * 5, Kit.Ev.up ?_, by omega, by omega, by omega⟩
      simp only [spec_l1Bent.j1]
      exact Kit.Ev.call e (Kit.Ev.pos hb (Kit.Ev.then H (Kit.Ev.const rfl)))
    · refine ⟨r, u + 1, Kit.Ev.up ?_, hr, by omega, by omega⟩
      simp only [spec_l1Bent.j1]
      exact Kit.Ev.call e (Kit.Ev.neg hb (Kit.Ev.const rfl))
  have j0 : ∀ (r : List Int) (b : Bool) (u : Int), r.length ≤ 5 → (b = true → 0 < r.length) → t ≤ u → u ≤ t + 400 → ∃ r' t', Ev (fun k => spec_l1Bent.j0 k r b c u) (r', t') ∧ r'.length ≤ 5 ∧ t ≤ t' ∧ t' ≤ t + 1000 := by
    intro r b u hr hb hu hu'
    by_cases h : b = true
    · obtain ⟨v, e, _⟩ := pick_some hc (t := u) (by omega) (by omega) ([1000000000, (-1000000000), 1000000001, (-1000000001), 4611686018427387904, (-9223372036854775808)] : List Int) (by simp)
      obtain ⟨r', t', H, q⟩ := j1 (r.set (0 : Int).toNat v) (u + 1) (by rw [List.length_set]; exact hr) (by omega) (by omega)
      refine ⟨r', t', Kit.Ev.up ?_, q⟩
      simp only [spec_l1Bent.j0]
      have := hb h
      exact Kit.Ev.pos h (Kit.Ev.call e (Kit.Ev.pos (by omega) H))
    · obtain ⟨r', t', H, q⟩ := j1 r u hr (by omega) (by omega)
      refine ⟨r', t', Kit.Ev.up ?_, q⟩
      simp only [spec_l1Bent.j0]
      exact Kit.Ev.neg h H
  obtain ⟨n, e1, hv, _⟩ := next_some hc h0 (by omega) 5
  obtain ⟨g0, g1⟩ := hv (by omega)
  obtain ⟨r, H1, hl⟩ := row_some hc (t := t + 1) (by omega) (by omega) (n := n) (by omega) (by omega)
  by_cases hp : (r.length : Int) > 0
  · obtain ⟨b, e2⟩ := chance_some hc (t := t + 1 + 6 * n) (by omega) (by omega) 12
    obtain ⟨r', t', H, q⟩ := j0 r b (t + 1 + 6 * n + 1) (by omega) (fun _ => by omega) (by omega) (by omega)
    refine ⟨r', t', ?_, q⟩
    unfold spec_l1Bent.f
    exact Kit.Ev.call e1 (Kit.Ev.then H1 (Kit.Ev.pos hp (Kit.Ev.call e2 H)))
  · obtain ⟨r', t', H, q⟩ := j0 r false (t + 1 + 6 * n) (by omega) (fun h => absurd h (by decide +kernel)) (by omega) (by omega)
    refine ⟨r', t', ?_, q⟩
    unfold spec_l1Bent.f
    exact Kit.Ev.call e1 (Kit.Ev.then H1 (Kit.Ev.neg hp H))
theorem drawCmp_some {c : List Int} (hc : BytesOk c) : ∃ a b, Ev (fun k => spec_DrawCompareRows.f k c) (a, b) ∧ a.length ≤ 5 ∧ b.length ≤ 6 := by
  unfold spec_DrawCompareRows.f spec_l1Source.f
  obtain ⟨a, t1, H1, ha, ht, ht'⟩ := bent_some hc (t := 0) (by omega) (by omega)
  obtain ⟨v, e2, hv, _⟩ := next_some hc (t := t1) (by omega) (by omega) 4
  simp only [Option.bind_some, List.nil_append, List.length_nil, Nat.zero_add]
  by_cases h0 : v = 0
  · refine ⟨a, a ++ [0], Kit.Ev.then H1 (Kit.Ev.pos (by simp only; omega) (Kit.Ev.call e2 (Kit.Ev.pos h0 (Kit.Ev.pos (by simp only; omega) (Kit.Ev.const rfl))))), ha, by simp; omega⟩
  by_cases h1 : v = 1
  · obtain ⟨b, t2, H2, hb, _⟩ := bent_some hc (t := t1 + 1) (by omega) (by omega)
    exact ⟨a, b, Kit.Ev.then H1 (Kit.Ev.pos (by simp only; omega) (Kit.Ev.call e2 (Kit.Ev.neg h0 (Kit.Ev.pos h1 (Kit.Ev.then H2 (Kit.Ev.const rfl)))))), ha, by omega⟩
  by_cases h2 : v = 2
  · by_cases hp : (a.length : Int) > 0
    · obtain ⟨u, e3, hu, _⟩ := next_some hc (t := t1 + 1) (by omega) (by omega) (a.length : Int)
      obtain ⟨u0, u1⟩ := hu (by omega)
      refine ⟨a, _, Kit.Ev.then H1 (Kit.Ev.pos (by simp only; omega) (Kit.Ev.call e2 (Kit.Ev.neg h0 (Kit.Ev.neg h1 (Kit.Ev.pos h2 (Kit.Ev.pos hp (Kit.Ev.call e3 (Kit.Ev.pos u0 (Kit.Ev.pos u1 (Kit.Ev.const rfl)))))))))), ha, by simp only [List.length_set]; omega⟩
    · exact ⟨a, a, Kit.Ev.then H1 (Kit.Ev.pos (by simp only; omega) (Kit.Ev.call e2 (Kit.Ev.neg h0 (Kit.Ev.neg h1 (Kit.Ev.pos h2 (Kit.Ev.neg hp (Kit.Ev.const rfl))))))), ha, by omega⟩
  · exact ⟨a, a, Kit.Ev.then H1 (Kit.Ev.pos (by simp only; omega) (Kit.Ev.call e2 (Kit.Ev.neg h0 (Kit.Ev.neg h1 (Kit.Ev.neg h2 (Kit.Ev.const rfl)))))), ha, by omega⟩
theorem rows_l0 {c : List Int} (hc : BytesOk c) : ∀ (n : Nat) (t : Int) (acc : List (List Int)), n ≤ 61 → acc.length + n ≤ 61 → (∀ r ∈ acc, r.length ≤ 5) → 0 ≤ t → t + 100 * n ≤ 900000000000 → ∃ rows t', Ev (fun k => spec_l1Rows.l0 k acc (n : Int) c t) (rows, t') ∧ rows.length ≤ 61 ∧ (∀ r ∈ rows, r.length ≤ 5) ∧ t ≤ t' ∧ t' ≤ t + 100 * n + 2000 := by
  intro n
  induction n with
  | zero =>
    intro t acc _ hl ha h0 h1
    by_cases hp : (acc.length : Int) > 0
    · obtain ⟨b, e⟩ := chance_some hc (t := t) h0 (by omega) 10
      by_cases hb : b = true
      · obtain ⟨r, t', H, hr, q1, q2⟩ := bent_some hc (t := t + 1) (by omega) (by omega)
        refine ⟨acc.set (0 : Int).toNat r, t', Kit.Ev.up ?_, by rw [List.length_set]; omega, ?_, by omega, by omega⟩
        · simp only [spec_l1Rows.l0]
          exact Kit.Ev.neg (by omega) (Kit.Ev.pos hp (Kit.Ev.call e (Kit.Ev.pos hb (Kit.Ev.then H (Kit.Ev.pos (by omega) (Kit.Ev.const rfl))))))
        · intro x hx
          rcases List.mem_or_eq_of_mem_set hx with h | h
          · exact ha x h
          · rw [h]; exact hr
      · refine ⟨acc, t + 1, Kit.Ev.up ?_, by omega, ha, by omega, by omega⟩
        simp only [spec_l1Rows.l0]
        exact Kit.Ev.neg (by omega) (Kit.Ev.pos hp (Kit.Ev.call e (Kit.Ev.neg hb (Kit.Ev.const rfl))))
    · refine ⟨acc, t, Kit.Ev.up ?_, by omega, ha, by omega, by omega⟩
      simp only [spec_l1Rows.l0]
      exact Kit.Ev.neg (by omega) (Kit.Ev.neg hp (Kit.Ev.const rfl))
  | succ n ih =>
    intro t acc hn hl ha h0 h1
    obtain ⟨m, e, hv, _⟩ := next_some hc h0 (by omega) 4
    obtain ⟨g0, g1⟩ := hv (by omega)
    obtain ⟨r, H1, hr⟩ := row_some hc (t := t + 1) (by omega) (by omega) (n := m) (by omega) (by omega)
    obtain ⟨rows, t', H, q1, q2, q3, q4⟩ := ih (t + 1 + 6 * m) (acc ++ [r]) (by omega) (by rw [List.length_append]; simp only [List.length_cons, List.length_nil]; omega) (by
      intro x hx
      rcases List.mem_append.mp hx with h | h
      · exact ha x h
      · rw [List.mem_singleton] at h; rw [h]; omega) (by omega) (by omega)
    refine ⟨rows, t', Kit.Ev.up ?_, q1, q2, by omega, by omega⟩
    simp only [spec_l1Rows.l0]
    refine Kit.Ev.pos (by omega) (Kit.Ev.call e (Kit.Ev.then H1 (Kit.Ev.pos (by omega) ?_)))
    have e1 : wrap64 (((n + 1 : Nat) : Int) - 1) = (n : Int) := by rw [Kit.w64 (by omega) (by omega)]; omega
    rw [e1]
    exact H
theorem rows_some {c : List Int} (hc : BytesOk c) {t : Int} (h0 : 0 ≤ t) (h1 : t ≤ 800000000000) : ∃ rows t', Ev (fun k => spec_l1Rows.f k c t) (rows, t') ∧ rows.length ≤ 61 ∧ (∀ r ∈ rows, r.length ≤ 5) ∧ t ≤ t' ∧ t' ≤ t + 10000 := by
  obtain ⟨v1, e1, a1, _⟩ := next_some hc h0 (by omega) 4
  obtain ⟨v2, e2, a2, _⟩ := next_some hc (t := t + 1) (by omega) (by omega) 4
  obtain ⟨v3, e3, a3⟩ := pick_some hc (t := t + 1 + 1) (by omega) (by omega) ([v1, v2, 0, 60, 61] : List Int) (by simp)
  have b1 := a1 (by omega)
  have b2 := a2 (by omega)
  have hv : 0 ≤ v3 ∧ v3 ≤ 61 := by
    simp only [List.mem_cons, List.not_mem_nil, or_false] at a3
    omega
  obtain ⟨n, rfl⟩ := Int.eq_ofNat_of_zero_le hv.1
  obtain ⟨rows, t', H, q1, q2, q3, q4⟩ := rows_l0 hc n (t + 1 + 1 + 1) [] (by omega) (by simp; omega) (by simp) (by omega) (by omega)
  refine ⟨rows, t', ?_, q1, q2, by omega, by omega⟩
  unfold spec_l1Rows.f
  exact Kit.Ev.call e1 (Kit.Ev.call e2 (Kit.Ev.call e3 H))
theorem drawPack_some {c : List Int} (hc : BytesOk c) : ∃ rows, Ev (fun k => spec_DrawPackRows.f k c) rows ∧ rows.length ≤ 61 ∧ (∀ r ∈ rows, r.length ≤ 5) := by
  obtain ⟨rows, t', H, q1, q2, _⟩ := rows_some hc (t := 0) (by omega) (by omega)
  refine ⟨rows, ?_, q1, q2⟩
  unfold spec_DrawPackRows.f spec_l1Source.f
  exact Kit.Ev.call rfl (Kit.Ev.then H (Kit.Ev.const rfl))
theorem cellB_bytes (c : Int) : ∀ x ∈ cellB c, 0 ≤ x ∧ x ≤ 255 := by
  intro x hx
  simp only [cellB, List.mem_cons, List.not_mem_nil, or_false] at hx
  omega
theorem packR_bytes (r : List Int) : ∀ x ∈ packR r, 0 ≤ x ∧ x ≤ 255 := by
  intro x hx
  simp only [packR, List.mem_cons, List.mem_flatMap] at hx
  rcases hx with rfl | ⟨c, _, hc⟩
  · omega
  · exact cellB_bytes c x hc
theorem packG_bytes : ∀ (rs : List (List Int)) (out : List Int), (∀ x ∈ out, 0 ≤ x ∧ x ≤ 255) → (∀ x ∈ (packG out rs).2, 0 ≤ x ∧ x ≤ 255) ∧ (packG out rs).2.length ≤ out.length + 21 * rs.length
  | [], out, h => ⟨h, by simp [packG]⟩
  | r :: rs, out, h => by
    simp only [packG]
    by_cases hr : rowF r = 0
    · rw [if_pos hr]
      have := (rowF_zero hr).1
      obtain ⟨a, b⟩ := packG_bytes rs (out ++ packR r) (fun x hx => by
        rcases List.mem_append.mp hx with h' | h'
        · exact h x h'
        · exact packR_bytes r x h')
      refine ⟨a, ?_⟩
      rw [List.length_append, packR_len] at b
      simp only [List.length_cons]; omega
    · rw [if_neg hr]; exact ⟨by simp, by simp⟩
theorem packV_bytes (rs : List (List Int)) : (∀ x ∈ (packV rs).2, 0 ≤ x ∧ x ≤ 255) ∧ (packV rs).2.length ≤ 1260 := by
  unfold packV
  by_cases h : 60 < rs.length
  · rw [if_pos h]; exact ⟨by simp, by simp⟩
  · rw [if_neg h]
    obtain ⟨a, b⟩ := packG_bytes rs [] (by simp)
    exact ⟨a, by simp only [List.length_nil] at b; omega⟩
theorem drawUn_some {c : List Int} (hc : BytesOk c) : ∃ d, Ev (fun k => spec_DrawUnpackRows.f k c) d ∧ d.length ≤ 1300 ∧ (∀ x ∈ d, 0 ≤ x ∧ x ≤ 255) := by
  obtain ⟨rows, t, H, q1, q2, q3, q4⟩ := rows_some hc (t := 0) (by omega) (by omega)
  have P := specPack_ev rows (fun r hr => by have := q2 r hr; omega)
  obtain ⟨pb, pl⟩ := packV_bytes rows
  generalize packV rows = p at *
  have j0 : ∀ (b : Bool) (u : Int), 0 ≤ u → u ≤ 100000 → (b = true → 0 < p.2.length) → ∃ d, Ev (fun k => spec_DrawUnpackRows.j0 k p.2 b c u) d ∧ d.length ≤ 1300 ∧ (∀ x ∈ d, 0 ≤ x ∧ x ≤ 255) := by
    intro b u hu hu' hb
    by_cases h : b = true
    · have hp := hb h
      obtain ⟨i, e1, hi, _⟩ := next_some hc hu (by omega) (p.2.length : Int)
      obtain ⟨i0, i1⟩ := hi (by omega)
      obtain ⟨v, e2, _⟩ := next_some hc (t := u + 1) (by omega) (by omega) 3
      by_cases h0 : v = 0
      · obtain ⟨z, e3, _⟩ := next_some hc (t := u + 1 + 1) (by omega) (by omega) 256
        refine ⟨p.2.set i.toNat (z % 256), Kit.Ev.up ?_, by rw [List.length_set]; omega, ?_⟩
        · simp only [spec_DrawUnpackRows.j0]
          exact Kit.Ev.pos h (Kit.Ev.call e1 (Kit.Ev.call e2 (Kit.Ev.pos h0 (Kit.Ev.call e3 (Kit.Ev.pos i0 (Kit.Ev.pos i1 (Kit.Ev.const rfl)))))))
        · intro x hx
          rcases List.mem_or_eq_of_mem_set hx with h' | h'
          · exact pb x h'
          · rw [h']; omega
      by_cases h1 : v = 1
      · refine ⟨p.2.take i.toNat, Kit.Ev.up ?_, by rw [List.length_take]; omega, fun x hx => pb x (List.mem_of_mem_take hx)⟩
        simp only [spec_DrawUnpackRows.j0]
        exact Kit.Ev.pos h (Kit.Ev.call e1 (Kit.Ev.call e2 (Kit.Ev.neg h0 (Kit.Ev.pos h1 (Kit.Ev.pos i0 (Kit.Ev.pos (by omega) (Kit.Ev.const rfl)))))))
      by_cases h2 : v = 2
      · obtain ⟨z, e3, _⟩ := next_some hc (t := u + 1 + 1) (by omega) (by omega) 6
        refine ⟨p.2 ++ [z % 256], Kit.Ev.up ?_, by rw [List.length_append]; simp only [List.length_cons, List.length_nil]; omega, ?_⟩
        · simp only [spec_DrawUnpackRows.j0]
          exact Kit.Ev.pos h (Kit.Ev.call e1 (Kit.Ev.call e2 (Kit.Ev.neg h0 (Kit.Ev.neg h1 (Kit.Ev.pos h2 (Kit.Ev.call e3 (Kit.Ev.pos (by omega) (Kit.Ev.const rfl))))))))
        · intro x hx
          rcases List.mem_append.mp hx with h' | h'
          · exact pb x h'
          · rw [List.mem_singleton] at h'; rw [h']; omega
      · refine ⟨p.2, Kit.Ev.up ?_, by omega, pb⟩
        simp only [spec_DrawUnpackRows.j0]
        exact Kit.Ev.pos h (Kit.Ev.call e1 (Kit.Ev.call e2 (Kit.Ev.neg h0 (Kit.Ev.neg h1 (Kit.Ev.neg h2 (Kit.Ev.const rfl))))))
    · refine ⟨p.2, Kit.Ev.up ?_, by omega, pb⟩
      simp only [spec_DrawUnpackRows.j0]
      exact Kit.Ev.neg h (Kit.Ev.const rfl)
  unfold spec_DrawUnpackRows.f spec_l1Source.f
  by_cases hp : (p.2.length : Int) > 0
  · obtain ⟨b, e⟩ := chance_some hc (t := t) (by omega) (by omega) 2
    obtain ⟨d, Hd, q⟩ := j0 b (t + 1) (by omega) (by omega) (fun _ => by omega)
    exact ⟨d, Kit.Ev.call rfl (Kit.Ev.then H (Kit.Ev.then P (Kit.Ev.pos hp (Kit.Ev.call e Hd)))), q⟩
  · obtain ⟨d, Hd, q⟩ := j0 false t (by omega) (by omega) (fun h => absurd h (by decide +kernel))
    exact ⟨d, Kit.Ev.call rfl (Kit.Ev.then H (Kit.Ev.then P (Kit.Ev.neg hp Hd))), q⟩
theorem FnRows : laws_FnRows.Pure := by
  intro l hm hz hw
  refine Kit.Ev.ex ?_
  unfold laws_FnRows.f laws_lwBig.f
  refine Kit.Ev.call rfl ?_
  by_cases hbig : (l.length : Int) > 1048576
  · exact Kit.Ev.pos (decide_eq_true hbig) (Kit.Ev.const rfl)
  refine Kit.Ev.neg (by simpa using hbig) ?_
  have hc : BytesOk l := bytesOk_of (by omega) hw
  obtain ⟨a, b, HC, ha, hb⟩ := drawCmp_some hc
  obtain ⟨rows, HP, hr1, hr2⟩ := drawPack_some hc
  obtain ⟨d, HU, hd1, hd2⟩ := drawUn_some hc
  refine Kit.Ev.then HC (Kit.Ev.then (implCmp_ev a b (by omega)) (Kit.Ev.then (implCmp_ev b a (by omega)) ?_))
  have hin := cmpR_in b a
  refine Kit.Ev.pos (by rw [Kit.w64 (by omega) (by omega)]; exact cmpR_anti a b) (Kit.Ev.then (implCmp_ev a b (by omega)) (Kit.Ev.then (lwNums_ev a b (by omega)) ?_))
  have hx : ((cmpR a b == 0) != decide (a = b)) = false := by
    by_cases h : a = b
    · have := (cmpR_zero a b).mpr h; simp [h, this] at *; simp [this]
    · have : cmpR a b ≠ 0 := fun q => h ((cmpR_zero a b).mp q)
      simp [h, this]
  rw [hx]
  refine Kit.Ev.up ?_
  simp only [laws_FnRows.j0]
  have hrl : ∀ r ∈ rows, r.length ≤ 1048576 := fun r hr => by have := hr2 r hr; omega
  refine Kit.Ev.neg (by decide) (Kit.Ev.then HP (Kit.Ev.then (implPack_ev rows hrl) (Kit.Ev.then HU (Kit.Ev.then (implUn_ev d hd2 (by omega)) ?_))))
  obtain ⟨pb, pl⟩ := packV_bytes rows
  have last : Ev (fun k => laws_FnRows.j1 k rows false (packV rows).1 (packV rows).2) true := by
    refine Kit.Ev.up ?_
    simp only [laws_FnRows.j1]
    refine Kit.Ev.neg (by decide) ?_
    by_cases h0 : (packV rows).1 = 0
    · have U := implUn_ev (packV rows).2 pb (by omega)
      rw [un_pack h0] at U
      refine Kit.Ev.pos h0 (Kit.Ev.then U (Kit.Ev.pos rfl ?_))
      have e : ((rows.length : Int) != (rows.length : Int)) = false := by simp
      simp only [e]
      refine Kit.Ev.up ?_
      simp only [laws_FnRows.j2]
      refine Kit.Ev.neg (by decide) ?_
      have L : ∀ (q i : Nat), i + q = rows.length → Ev (fun k => laws_FnRows.l0 k rows (i : Int) 0 0 rows) true := by
        intro q
        induction q with
        | zero =>
          intro i hq
          refine Kit.Ev.up ?_
          simp only [laws_FnRows.l0]
          exact Kit.Ev.neg (by omega) (Kit.Ev.const rfl)
        | succ q ih =>
          intro i hq
          refine Kit.Ev.up ?_
          simp only [laws_FnRows.l0]
          have hm := hrl _ (rd2_mem (xs := rows) (i := i) (by omega))
          have N := lwNums_ev (rd_L2 rows (i : Int)) (rd_L2 rows (i : Int)) (by omega)
          refine Kit.Ev.pos (by omega) (Kit.Ev.pos (by omega) (Kit.Ev.pos (by omega) (Kit.Ev.then (N.eq (decide_eq_true rfl)) (Kit.Ev.pos rfl ?_))))
          rw [w64n (n := rows.length) (by omega) (by omega)]
          exact ih (i + 1) (by omega)
      exact L rows.length 0 (by omega)
    · refine Kit.Ev.neg h0 (Kit.Ev.then (specPack_ev rows hrl) (Kit.Ev.const (by simp)))
  by_cases hu : (unV d).1 = 0
  · have hp := pack_un hd2 hu
    have hrl' : ∀ r ∈ (unV d).2.2, r.length ≤ 1048576 := by
      intro r hr
      obtain ⟨h1, _⟩ := unG_back (d.length + 1) 0 [] d (by omega) hd2 (by simp) (by simp) hu
      have := (rowF_zero (h1 r hr)).1
      omega
    have P := implPack_ev _ hrl'
    rw [hp] at P
    exact Kit.Ev.pos hu (Kit.Ev.then P (Kit.Ev.pos rfl last))
  · refine Kit.Ev.neg hu (Kit.Ev.then (specUn_ev d hd2 (by omega)) ?_)
    have e : ((unV d).1 != (unV d).1) = false := by simp
    rw [e]
    exact last

end Go.Proofs.Ytljfhfkmbgkpoaa.Pure
