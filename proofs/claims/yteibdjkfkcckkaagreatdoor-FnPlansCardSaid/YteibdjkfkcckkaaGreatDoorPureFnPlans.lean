/- The law FnPlans answers true for every list of bytes. -/
import Derived.Test.YteibdjkfkcckkaaGreatDoorKit
import Derived.Test.YteibdjkfkcckkaaGreatDoorPFnPlansx18
namespace Go.Proofs.YteibdjkfkcckkaaGreatDoor.Pure
open Go.RowKit Go.Proofs.YteibdjkfkcckkaaGreatDoor.PFnPlans Go.Proofs.YteibdjkfkcckkaaGreatDoorW.PrintWords Go.Proofs.YteibdjkfkcckkaaGreatDoorW.PrintLast Go.Proofs.YteibdjkfkcckkaaGreatDoor
set_option linter.unusedSimpArgs false
set_option linter.unusedVariables false

theorem w64n {i n : Nat} (h : i < n) (hn : n ≤ 9223372036854775807) : wrap64 ((i : Int) + 1) = ((i + 1 : Nat) : Int) := by
  rw [Kit.w64 (by omega) (by omega)]; rfl
theorem rd_drop {xs : List Int} {i : Nat} (h : i < xs.length) : xs.drop i = rd xs (i : Int) :: xs.drop (i + 1) := by
  rw [Kit.rd_at h]; exact List.drop_eq_getElem_cons h
theorem specIn_eq (a b c : Int) : spec_l1In.f a b c = some (decide (b ≤ a ∧ a ≤ c)) := by
  unfold spec_l1In.f
  by_cases h : a ≥ b
  · rw [if_pos h]; simp [show b ≤ a from h]
  · rw [if_neg h]; simp; intro h'; omega
theorem implIn_eq (a b c : Int) : impl_in.f a b c = some (decide (b ≤ a ∧ a ≤ c)) := by
  unfold impl_in.f
  by_cases h : a ≥ b
  · rw [if_pos h]; simp [show b ≤ a from h]
  · rw [if_neg h]; simp; intro h'; omega
def inC (x : Int) : Bool := decide (-1000000000 ≤ x ∧ x ≤ 1000000000)
def rowF (xs : List Int) : Int := if 4 < xs.length then 2 else if xs.all inC = true then 0 else 3
def BytesOk (l : List Int) : Prop := l.length ≤ 1048576 ∧ ∀ x ∈ l, 0 ≤ x ∧ x ≤ 255
theorem wfu8 {x : Int} (h : (Lit.int .u8 x).wf = true) : 0 ≤ x ∧ x ≤ 255 := by
  simp only [Lit.wf, Bool.and_eq_true, decide_eq_true_eq] at h
  obtain ⟨h0, h1⟩ := h
  have e0 : IntKind.u8.min = 0 := by rfl
  have e1 : IntKind.u8.max = 255 := by rfl
  rw [e0] at h0
  rw [e1] at h1
  exact ⟨h0, h1⟩
theorem bytesOk_of {l : List Int} (h : l.length ≤ 1048576) (hw : ∀ x ∈ l, (Lit.int .u8 x).wf = true) : BytesOk l := ⟨h, fun x hx => wfu8 (hw x hx)⟩
theorem BytesOk.rd {l : List Int} (h : BytesOk l) (i : Int) : 0 ≤ rd l i ∧ rd l i ≤ 255 := by
  unfold Go.Proofs.YteibdjkfkcckkaaGreatDoorW.PrintWords.rd
  by_cases hi : i.toNat < l.length
  · rw [List.getD_eq_getElem?_getD, List.getElem?_eq_getElem hi]
    exact h.2 _ (List.getElem_mem hi)
  · rw [List.getD_eq_getElem?_getD, List.getElem?_eq_none (by omega)]
    simp
theorem tmod_in {x n : Int} (hx : 0 ≤ x) (hn : 1 ≤ n) : 0 ≤ Int.tmod x n ∧ Int.tmod x n < n := by
  rw [Int.tmod_eq_emod_of_nonneg hx]
  exact ⟨Int.emod_nonneg _ (by omega), Int.emod_lt_of_pos _ (by omega)⟩
theorem tdiv_in {x n : Int} (hx : 0 ≤ x) (hn : 1 ≤ n) : 0 ≤ Int.tdiv x n ∧ Int.tdiv x n ≤ x := by
  rw [Int.tdiv_eq_ediv_of_nonneg hx]
  exact ⟨Int.ediv_nonneg hx (by omega), Int.ediv_le_self _ hx⟩
/-- A draw of a number: it answers, within its bounds, and goes one place on. -/
theorem next_some {c : List Int} (hc : BytesOk c) {t : Int} (h0 : 0 ≤ t) (h1 : t ≤ 1000000000000) (n : Int) :
    ∃ v, spec_l1Next.f c t n = some (v, t + 1) ∧ (1 ≤ n → 0 ≤ v ∧ v < n) ∧ (n < 1 → v = 0) := by
  unfold spec_l1Next.f
  have e1 : wrap64 (t + 1) = t + 1 := Kit.w64 (by omega) (by omega)
  have e2 : wrap64 (t + 1 - 1) = t := by rw [Kit.w64 (by omega) (by omega)]; omega
  simp only [e1, e2]
  by_cases hn : n < 1
  · rw [if_pos hn]
    exact ⟨0, rfl, fun h => by omega, fun _ => rfl⟩
  rw [if_neg hn]
  have hn1 : 1 ≤ n := by omega
  by_cases hl : (c.length : Int) = 0
  · rw [if_pos hl, if_neg (by omega)]
    have e4 : wrap64 (t * 7) = t * 7 := Kit.w64 (by omega) (by omega)
    rw [e4]
    exact ⟨_, rfl, fun _ => tmod_in (by omega) hn1, fun h => by omega⟩
  rw [if_neg hl]
  have hl1 : 1 ≤ (c.length : Int) := by omega
  have m1 := tmod_in h0 hl1
  have m2 := tmod_in (x := t + 1) (by omega) hl1
  have q1 := tdiv_in h0 hl1
  have r1 := hc.rd (Int.tmod t (c.length : Int))
  have r2 := hc.rd (Int.tmod (t + 1) (c.length : Int))
  rw [if_pos m1.1, if_pos m1.2]
  generalize rd c (Int.tmod t (c.length : Int)) = x1 at *
  generalize rd c (Int.tmod (t + 1) (c.length : Int)) = x2 at *
  generalize Int.tdiv t (c.length : Int) = d at *
  have w1 : wrap64 x1 = x1 := Kit.w64 (by omega) (by omega)
  have w2 : wrap64 x2 = x2 := Kit.w64 (by omega) (by omega)
  have w3 : wrap64 d = d := Kit.w64 (by omega) (by omega)
  have w4 : wrap64 (d * 37) = d * 37 := Kit.w64 (by omega) (by omega)
  have w5 : wrap64 (x1 + d * 37) = x1 + d * 37 := Kit.w64 (by omega) (by omega)
  have w6 : wrap64 ((x1 + d * 37) * 251) = (x1 + d * 37) * 251 := Kit.w64 (by omega) (by omega)
  have w7 : wrap64 (x2 * 13) = x2 * 13 := Kit.w64 (by omega) (by omega)
  have w8 : wrap64 ((x1 + d * 37) * 251 + x2 * 13) = (x1 + d * 37) * 251 + x2 * 13 := Kit.w64 (by omega) (by omega)
  have w9 : wrap64 ((x1 + d * 37) * 251 + x2 * 13 + t) = (x1 + d * 37) * 251 + x2 * 13 + t := Kit.w64 (by omega) (by omega)
  by_cases h200 : n > 200
  · rw [if_pos h200, if_pos m2.1, if_pos m2.2, if_neg (by omega)]
    simp only [w1, w2, w3, w4, w5, w6, w7, w8, w9]
    exact ⟨_, rfl, fun _ => tmod_in (by omega) hn1, fun h => by omega⟩
  · rw [if_neg h200, if_neg (by omega)]
    simp only [w1, w3, w4, w5]
    exact ⟨_, rfl, fun _ => tmod_in (by omega) hn1, fun h => by omega⟩
theorem pick_some {c : List Int} (hc : BytesOk c) {t : Int} (h0 : 0 ≤ t) (h1 : t ≤ 1000000000000) (l : List Int) (hl : 1 ≤ l.length) :
    ∃ v, spec_l1Pick.f c t l = some (v, t + 1) ∧ v ∈ l := by
  unfold spec_l1Pick.f
  obtain ⟨v, e, hv, _⟩ := next_some hc h0 h1 (l.length : Int)
  obtain ⟨g0, g1⟩ := hv (by omega)
  rw [e]
  simp only [Option.bind_some]
  rw [if_pos g0, if_pos g1]
  refine ⟨_, rfl, ?_⟩
  unfold Go.Proofs.YteibdjkfkcckkaaGreatDoorW.PrintWords.rd
  have hi : v.toNat < l.length := by omega
  rw [List.getD_eq_getElem?_getD, List.getElem?_eq_getElem hi]
  exact List.getElem_mem hi
theorem slicesEq_l0 (xs ys : List Int) (hn : xs.length ≤ 9223372036854775807) (hl : xs.length = ys.length) : ∀ (d i : Nat), i + d = xs.length → Ev (fun k => slices_Equal_int64_int64.l0 k xs ys (xs.length : Int) (i : Int)) (decide (xs.drop i = ys.drop i)) := by
  intro d
  induction d with
  | zero =>
    intro i hd
    refine Kit.Ev.up ?_
    simp only [slices_Equal_int64_int64.l0]
    refine Kit.Ev.neg (by omega) (Kit.Ev.const ?_)
    rw [List.drop_eq_nil_of_le (by omega), List.drop_eq_nil_of_le (by omega)]; simp
  | succ d ih =>
    intro i hd
    refine Kit.Ev.up ?_
    simp only [slices_Equal_int64_int64.l0]
    refine Kit.Ev.pos (by omega) (Kit.Ev.pos (by omega) (Kit.Ev.pos (by omega) (Kit.Ev.pos (by omega) ?_)))
    rw [rd_drop (xs := xs) (i := i) (by omega), rd_drop (xs := ys) (i := i) (by omega), w64n (n := xs.length) (by omega) hn]
    refine Kit.Ev.ite (fun h => ?_) (fun h => Kit.Ev.const ?_)
    · exact (ih (i + 1) (by omega)).eq (by rw [h]; simp)
    · simp [h]
theorem slicesEq_ev (xs ys : List Int) (hn : xs.length ≤ 9223372036854775807) : Ev (fun k => slices_Equal_int64_int64.f k xs ys) (decide (xs = ys)) := by
  unfold slices_Equal_int64_int64.f
  refine Kit.Ev.ite (fun h => ?_) (fun h => Kit.Ev.const ?_)
  · exact (slicesEq_l0 xs ys hn (by omega) xs.length 0 (by omega)).eq (by simp)
  · have : xs ≠ ys := fun e => h (by rw [e])
    simp [this]
theorem rdN_at {xs : List S36} {i : Nat} (h : i < xs.length) : rd_T36 xs (i : Int) = xs[i] := by simp [rd_T36, h]
theorem rdN_drop {xs : List S36} {i : Nat} (h : i < xs.length) : xs.drop i = rd_T36 xs (i : Int) :: xs.drop (i + 1) := by
  rw [rdN_at h]; exact List.drop_eq_getElem_cons h
theorem rdN_mem {xs : List S36} {i : Nat} (h : i < xs.length) : rd_T36 xs (i : Int) ∈ xs := by
  rw [rdN_at h]; exact List.getElem_mem h
/-- The rows are no longer than any machine's. -/
def FineN (l : List S36) : Prop := l.length ≤ 1048576 ∧ ∀ x ∈ l, x.f6.length ≤ 1048576
theorem FineN.n {l : List S36} (h : FineN l) : l.length ≤ 9223372036854775807 := by have := h.1; omega
theorem FineN.r {l : List S36} (h : FineN l) : ∀ x ∈ l, x.f6.length ≤ 9223372036854775807 := fun x hx => by have := h.2 x hx; omega
theorem evDec {α : Type} {c : Prop} [Decidable c] {g h : Nat → Option α} {r s : α} (hg : c → Ev g r) (hh : ¬ c → Ev h s) : Ev (fun k => if decide c = true then g k else h k) (if c then r else s) := by
  by_cases hc : c
  · rw [if_pos hc]; exact Kit.Ev.pos (decide_eq_true hc) (hg hc)
  · rw [if_neg hc]; exact Kit.Ev.neg (by simpa using hc) (hh hc)
def readsL (x : S36) : List Int := if x.f0 = 1 then [] else if x.f0 = 4 ∨ x.f0 = 6 then [x.f1, x.f2] else [x.f1]
def namedB (a0 a1 a2 a3 a4 a5 : Int) (l6 : List Int) : Bool := decide ((a0 = 1 → a1 = 0) ∧ (¬ (a0 = 4 ∨ a0 = 6) → a2 = 0) ∧ (¬ a0 = 2 → a4 = 0 ∧ a5 = 0) ∧ (¬ a0 = 3 → l6 = []) ∧ ((a0 = 3 ∨ a0 = 4 ∨ a0 = 5 ∨ a0 = 11 ∨ a0 = 12) → a3 = 0))
def named (x : S36) : Bool := namedB x.f0 x.f1 x.f2 x.f3 x.f4 x.f5 x.f6
def widthW (ws : List Int) (x : S36) : Int :=
  if x.f0 = 1 then x.f3 else if x.f0 = 3 then (x.f6.length : Int) else if x.f0 = 6 then rd ws x.f1 + rd ws x.f2 - x.f3 else if 7 ≤ x.f0 ∧ x.f0 ≤ 10 then x.f3 + 1 else rd ws x.f1
def cellOk (w c : Int) : Bool := decide (0 ≤ c ∧ c ≤ w - 1)
def faultW (ws : List Int) (x : S36) : Int :=
  if x.f0 = 1 then (if 1 ≤ x.f3 ∧ x.f3 ≤ 3 then 0 else 3)
  else if x.f0 = 2 then (if 0 ≤ x.f3 ∧ x.f3 ≤ rd ws x.f1 - 1 then (if 0 ≤ x.f4 ∧ x.f4 ≤ 2 then (if -1000000000 ≤ x.f5 ∧ x.f5 ≤ 1000000000 then 0 else 3) else 3) else 3)
  else if x.f0 = 3 then (if 1 ≤ (x.f6.length : Int) ∧ (x.f6.length : Int) ≤ 4 then (if x.f6.all (cellOk (rd ws x.f1)) = true then 0 else 3) else 2)
  else if x.f0 = 4 then (if rd ws x.f1 = rd ws x.f2 then 0 else 1)
  else if x.f0 = 6 then (if 1 ≤ x.f3 ∧ x.f3 ≤ min (rd ws x.f1) (rd ws x.f2) then (if rd ws x.f1 + rd ws x.f2 - x.f3 > 4 then 2 else 0) else 3)
  else if x.f0 = 7 then (if 0 ≤ x.f3 ∧ x.f3 ≤ min (rd ws x.f1) 3 then 0 else 3)
  else if 8 ≤ x.f0 ∧ x.f0 ≤ 10 then (if 0 ≤ x.f3 ∧ x.f3 ≤ rd ws x.f1 - 1 then 0 else 3)
  else 0
def readOk (plan : List S36) (i : Nat) (k : Int) : Bool := decide (0 ≤ k ∧ k ≤ (i : Int) - 1) && !decide ((rd_T36 plan k).f0 = 12)
def wsN (plan : List S36) : Nat → List Int
  | 0 => []
  | i + 1 => wsN plan i ++ [widthW (wsN plan i) (rd_T36 plan (i : Int))]
def codeN (plan : List S36) (i : Nat) : Int :=
  if 1 ≤ (rd_T36 plan (i : Int)).f0 ∧ (rd_T36 plan (i : Int)).f0 ≤ 12 then
    (if named (rd_T36 plan (i : Int)) = true then (if (readsL (rd_T36 plan (i : Int))).all (readOk plan i) = true then faultW (wsN plan i) (rd_T36 plan (i : Int)) else 3) else 1)
  else 5
theorem codeN_eq (plan : List S36) (i : Nat) : codeN plan i = if 1 ≤ (rd_T36 plan (i : Int)).f0 ∧ (rd_T36 plan (i : Int)).f0 ≤ 12 then
    (if named (rd_T36 plan (i : Int)) = true then (if (readsL (rd_T36 plan (i : Int))).all (readOk plan i) = true then faultW (wsN plan i) (rd_T36 plan (i : Int)) else 3) else 1)
  else 5 := rfl
def GoodN (plan : List S36) (i : Nat) : Prop := ∀ j, j < i → codeN plan j = 0
def planC (plan : List S36) : Nat → Nat → Int
  | 0, _ => 0
  | d + 1, i => if codeN plan i = 0 then planC plan d (i + 1) else codeN plan i
def planF (plan : List S36) : Int := if 1 ≤ plan.length ∧ plan.length ≤ 8 then planC plan plan.length 0 else 2
def wOf (plan : List S36) (i : Nat) : Int := widthW (wsN plan i) (rd_T36 plan (i : Int))
theorem wsN_len (plan : List S36) : ∀ i, (wsN plan i).length = i
  | 0 => rfl
  | i + 1 => by simp [wsN, wsN_len plan i]
theorem wsN_rd (plan : List S36) : ∀ {i j : Nat}, j < i → rd (wsN plan i) (j : Int) = wOf plan j
  | 0, _, h => by omega
  | i + 1, j, h => by
    rw [Kit.rd_nat, wsN, List.getD_eq_getElem?_getD]
    by_cases e : j = i
    · subst e
      rw [List.getElem?_append_right (by rw [wsN_len]; omega), wsN_len]
      simp [wOf]
    · rw [List.getElem?_append_left (by rw [wsN_len]; omega), ← List.getD_eq_getElem?_getD, ← Kit.rd_nat]
      exact wsN_rd plan (by omega)
theorem planC_zero (plan : List S36) : ∀ (d i : Nat), planC plan d i = 0 ↔ ∀ j, i ≤ j → j < i + d → codeN plan j = 0
  | 0, i => ⟨fun _ j h1 h2 => by omega, fun _ => rfl⟩
  | d + 1, i => by
    simp only [planC]
    by_cases h : codeN plan i = 0
    · rw [if_pos h, planC_zero plan d (i + 1)]
      constructor
      · intro g j h1 h2
        by_cases e : j = i
        · rw [e]; exact h
        · exact g j (by omega) (by omega)
      · intro g j h1 h2
        exact g j (by omega) (by omega)
    · rw [if_neg h]
      constructor
      · intro g; exact absurd g h
      · intro g; exact absurd (g i (by omega) (by omega)) h
theorem planF_good {plan : List S36} (h : planF plan = 0) : (1 ≤ plan.length ∧ plan.length ≤ 8) ∧ GoodN plan plan.length := by
  unfold planF at h
  by_cases h1 : 1 ≤ plan.length ∧ plan.length ≤ 8
  · rw [if_pos h1] at h
    exact ⟨h1, fun j hj => (planC_zero plan _ _).mp h j (by omega) (by omega)⟩
  · rw [if_neg h1] at h; omega
theorem op_cases {a : Int} (h : 1 ≤ a ∧ a ≤ 12) : a = 1 ∨ a = 2 ∨ a = 3 ∨ a = 4 ∨ a = 5 ∨ a = 6 ∨ a = 7 ∨ a = 8 ∨ a = 9 ∨ a = 10 ∨ a = 11 ∨ a = 12 := by omega
theorem codeN_parts {plan : List S36} {i : Nat} (h : codeN plan i = 0) : (1 ≤ (rd_T36 plan (i : Int)).f0 ∧ (rd_T36 plan (i : Int)).f0 ≤ 12) ∧ named (rd_T36 plan (i : Int)) = true ∧ (readsL (rd_T36 plan (i : Int))).all (readOk plan i) = true ∧ faultW (wsN plan i) (rd_T36 plan (i : Int)) = 0 := by
  unfold codeN at h
  by_cases h1 : 1 ≤ (rd_T36 plan (i : Int)).f0 ∧ (rd_T36 plan (i : Int)).f0 ≤ 12
  · rw [if_pos h1] at h
    by_cases h2 : named (rd_T36 plan (i : Int)) = true
    · rw [if_pos h2] at h
      by_cases h3 : (readsL (rd_T36 plan (i : Int))).all (readOk plan i) = true
      · rw [if_pos h3] at h
        exact ⟨h1, h2, h3, h⟩
      · rw [if_neg h3] at h; omega
    · rw [if_neg h2] at h; omega
  · rw [if_neg h1] at h; omega
theorem readOk_in {plan : List S36} {i : Nat} {k : Int} (h : readOk plan i k = true) : ∃ a : Nat, (a : Int) = k ∧ a < i ∧ ¬ (rd_T36 plan k).f0 = 12 := by
  simp only [readOk, Bool.and_eq_true, decide_eq_true_eq, Bool.not_eq_true', decide_eq_false_iff_not] at h
  exact ⟨k.toNat, by omega, by omega, h.2⟩
/-- The first that a node reads from. -/
theorem reads_a {plan : List S36} {i : Nat} {x : S36} (h : (readsL x).all (readOk plan i) = true) (h1 : ¬ x.f0 = 1) : ∃ a : Nat, (a : Int) = x.f1 ∧ a < i ∧ ¬ (rd_T36 plan x.f1).f0 = 12 := by
  refine readOk_in (List.all_eq_true.mp h _ ?_)
  unfold readsL
  rw [if_neg h1]
  split <;> simp
theorem reads_b {plan : List S36} {i : Nat} {x : S36} (h : (readsL x).all (readOk plan i) = true) (h2 : x.f0 = 4 ∨ x.f0 = 6) : ∃ b : Nat, (b : Int) = x.f2 ∧ b < i ∧ ¬ (rd_T36 plan x.f2).f0 = 12 := by
  refine readOk_in (List.all_eq_true.mp h _ ?_)
  unfold readsL
  rw [if_neg (by omega), if_pos h2]
  simp
theorem width_in {ws : List Int} {x : S36} (h0 : 1 ≤ x.f0 ∧ x.f0 ≤ 12) (hf : faultW ws x = 0) (ha : ¬ x.f0 = 1 → 1 ≤ rd ws x.f1 ∧ rd ws x.f1 ≤ 4) (hb : x.f0 = 4 ∨ x.f0 = 6 → 1 ≤ rd ws x.f2 ∧ rd ws x.f2 ≤ 4) : 1 ≤ widthW ws x ∧ widthW ws x ≤ 4 := by
  rcases op_cases h0 with h | h | h | h | h | h | h | h | h | h | h | h <;> simp only [faultW, widthW, h, Int.reduceEq, Int.reduceLE, if_true, if_false, false_or, or_false, true_or, or_true, and_self, and_false, false_and, and_true, true_and] at hf ha hb ⊢
  all_goals (repeat' split at hf)
  all_goals first | omega | (have := ha (by simp); omega) | (have := ha (by simp); have := hb (by simp); omega)
theorem wOf_in {plan : List S36} {i : Nat} (hg : GoodN plan i) : ∀ (n j : Nat), j < n → j < i → 1 ≤ wOf plan j ∧ wOf plan j ≤ 4
  | 0, _, h, _ => by omega
  | n + 1, j, hn, hj => by
    obtain ⟨h1, h2, h3, h4⟩ := codeN_parts (hg j hj)
    refine width_in h1 h4 (fun h => ?_) (fun h => ?_)
    · obtain ⟨a, ea, ha, _⟩ := reads_a h3 h
      rw [← ea, wsN_rd plan ha]
      exact wOf_in hg n a (by omega) (by omega)
    · obtain ⟨b, eb, hb, _⟩ := reads_b h3 h
      rw [← eb, wsN_rd plan hb]
      exact wOf_in hg n b (by omega) (by omega)
theorem rd_in {plan : List S36} {i : Nat} (hg : GoodN plan i) {a : Nat} (ha : a < i) : rd (wsN plan i) (a : Int) = wOf plan a ∧ 1 ≤ wOf plan a ∧ wOf plan a ≤ 4 := ⟨wsN_rd plan ha, wOf_in hg i a ha ha⟩
theorem specWidthN_ev {plan : List S36} {i : Nat} (hi : i ≤ plan.length) (hg : GoodN plan i) : ∀ (n j : Nat), j < n → j < i → Ev (fun k => spec_l3Width.f k plan (j : Int)) (wOf plan j)
  | 0, _, h, _ => by omega
  | n + 1, j, hn, hj => by
    obtain ⟨h1, h2, h3, h4⟩ := codeN_parts (hg j hj)
    have hgj : GoodN plan j := fun q hq => hg q (by omega)
    have A : ¬ (rd_T36 plan (j : Int)).f0 = 1 → Ev (fun k => spec_l3Width.f k plan (rd_T36 plan (j : Int)).f1) (rd (wsN plan j) (rd_T36 plan (j : Int)).f1) ∧ 1 ≤ rd (wsN plan j) (rd_T36 plan (j : Int)).f1 ∧ rd (wsN plan j) (rd_T36 plan (j : Int)).f1 ≤ 4 := fun h => by
      obtain ⟨a, ea, ha, _⟩ := reads_a h3 h
      rw [← ea, wsN_rd plan ha]
      exact ⟨specWidthN_ev hi hg n a (by omega) (by omega), wOf_in hgj j a ha ha⟩
    have B : (rd_T36 plan (j : Int)).f0 = 4 ∨ (rd_T36 plan (j : Int)).f0 = 6 → Ev (fun k => spec_l3Width.f k plan (rd_T36 plan (j : Int)).f2) (rd (wsN plan j) (rd_T36 plan (j : Int)).f2) ∧ 1 ≤ rd (wsN plan j) (rd_T36 plan (j : Int)).f2 ∧ rd (wsN plan j) (rd_T36 plan (j : Int)).f2 ≤ 4 := fun h => by
      obtain ⟨a, ea, ha, _⟩ := reads_b h3 h
      rw [← ea, wsN_rd plan ha]
      exact ⟨specWidthN_ev hi hg n a (by omega) (by omega), wOf_in hgj j a ha ha⟩
    have W := wOf_in hg (j + 1) j (by omega) hj
    have e : wOf plan j = widthW (wsN plan j) (rd_T36 plan (j : Int)) := rfl
    rw [e] at W ⊢
    refine Kit.Ev.up ?_
    simp only [spec_l3Width.f]
    refine Kit.Ev.pos (by omega) (Kit.Ev.pos (by omega) ?_)
    generalize rd_T36 plan (j : Int) = x at *
    rcases op_cases h1 with h | h | h | h | h | h | h | h | h | h | h | h <;> simp only [widthW, h, Int.reduceEq, Int.reduceLE, if_true, if_false, false_or, or_false, true_or, or_true, and_self, and_false, false_and, and_true, true_and, not_false_eq_true, forall_const] at A B W ⊢
    · exact Kit.Ev.const rfl
    · exact Kit.Ev.then A.1 (Kit.Ev.const rfl)
    · exact Kit.Ev.const rfl
    · exact Kit.Ev.then A.1 (Kit.Ev.const rfl)
    · exact Kit.Ev.then A.1 (Kit.Ev.const rfl)
    · refine Kit.Ev.then A.1 (Kit.Ev.then B.1 (Kit.Ev.const ?_))
      rw [Kit.w64 (x := _ + _) (by omega) (by omega), Kit.w64 (by omega) (by omega)]
    · exact Kit.Ev.const (by rw [Kit.w64 (by omega) (by omega)])
    · exact Kit.Ev.const (by rw [Kit.w64 (by omega) (by omega)])
    · exact Kit.Ev.const (by rw [Kit.w64 (by omega) (by omega)])
    · exact Kit.Ev.const (by rw [Kit.w64 (by omega) (by omega)])
    · exact Kit.Ev.then A.1 (Kit.Ev.const rfl)
    · exact Kit.Ev.then A.1 (Kit.Ev.const rfl)
theorem specReads_eq {x : S36} : spec_l3Reads.f x.f0 = some ((readsL x).length : Int) := by
  unfold spec_l3Reads.f readsL
  by_cases h1 : x.f0 = 1
  · rw [if_pos h1, if_pos h1]; rfl
  · by_cases h4 : x.f0 = 4
    · rw [if_neg h1, if_neg h1, if_pos h4, if_pos (Or.inl h4)]; rfl
    · by_cases h6 : x.f0 = 6
      · rw [if_neg h1, if_neg h1, if_neg h4, if_pos h6, if_pos (Or.inr h6)]; rfl
      · rw [if_neg h1, if_neg h1, if_neg h4, if_neg h6, if_neg (by omega)]; rfl
set_option maxHeartbeats 8000000 in
theorem specNamed_ev (a0 a1 a2 a3 a4 a5 : Int) (l6 : List Int) (h0 : 1 ≤ a0 ∧ a0 ≤ 12) : Ev (fun k => spec_l3Named.f k a0 a1 a2 a3 a4 a5 l6) (namedB a0 a1 a2 a3 a4 a5 l6) := by
  refine Kit.Ev.up (Kit.Ev.up (Kit.Ev.all (fun k => ?_)))
  have h6 : decide ((l6.length : Int) > 0) = !decide (l6 = []) := by cases l6 <;> simp <;> omega
  rcases op_cases h0 with rfl | rfl | rfl | rfl | rfl | rfl | rfl | rfl | rfl | rfl | rfl | rfl <;>
  simp only [spec_l3Named.f, spec_l3Named.j0, spec_l3Named.j1, spec_l3Reads.f, namedB, h6, Int.reduceEq, Int.reduceLT, if_true, if_false, Option.bind_some, Bool.false_eq_true, not_true_eq_false, not_false_eq_true, forall_const, false_or, or_false, true_or, or_true, and_self, and_false, false_and, and_true, true_and, false_implies] <;>
  by_cases c1 : a1 = 0 <;> by_cases c2 : a2 = 0 <;> by_cases c3 : a3 = 0 <;> by_cases c4 : a4 = 0 <;> by_cases c5 : a5 = 0 <;> by_cases c6 : l6 = [] <;> simp [c1, c2, c3, c4, c5, c6]
theorem specCells_l1 (w a0 a1 a2 a3 a4 a5 : Int) (l6 : List Int) (hw : -1000 ≤ w ∧ w ≤ 1000) (hn : l6.length ≤ 1048576) : ∀ (d i : Nat), i + d = l6.length → Ev (fun k => spec_l3Node.l1 k w (i : Int) a0 a1 a2 a3 a4 a5 l6) (if (l6.drop i).all (cellOk w) = true then 0 else 3) := by
  intro d
  induction d with
  | zero =>
    intro i hd
    refine Kit.Ev.up ?_
    simp only [spec_l3Node.l1]
    refine Kit.Ev.neg (by omega) (Kit.Ev.const ?_)
    rw [List.drop_eq_nil_of_le (by omega)]; simp
  | succ d ih =>
    intro i hd
    refine Kit.Ev.up ?_
    simp only [spec_l3Node.l1]
    refine Kit.Ev.pos (by omega) (Kit.Ev.pos (by omega) ?_)
    rw [rd_drop (xs := l6) (i := i) (by omega), w64n (n := l6.length) (by omega) (by omega), specIn_eq, Kit.w64 (x := w - 1) (by omega) (by omega)]
    simp only [Option.bind_some]
    refine Kit.Ev.ite (fun h => ?_) (fun h => Kit.Ev.const ?_)
    · exact (ih (i + 1) (by omega)).eq (by have h' : cellOk w (rd l6 (i : Int)) = true := h; simp [h'])
    · have h' : ¬ cellOk w (rd l6 (i : Int)) = true := h
      simp [h']
theorem specNode_tail {plan : List S36} {i : Nat} (hi : i < plan.length) (hg : GoodN plan i) {x : S36} (h1 : 1 ≤ x.f0 ∧ x.f0 ≤ 12) (h3 : (readsL x).all (readOk plan i) = true) (hl : x.f6.length ≤ 1048576) :
    Ev (fun k => spec_l3Node.l0 k plan (i : Int) ((readsL x).length : Int) x.f0 x.f1 x.f2 x.f3 x.f4 x.f5 x.f6) (faultW (wsN plan i) x) := by
  have A : ¬ x.f0 = 1 → Ev (fun k => spec_l3Width.f k plan x.f1) (rd (wsN plan i) x.f1) ∧ 1 ≤ rd (wsN plan i) x.f1 ∧ rd (wsN plan i) x.f1 ≤ 4 := fun h => by
    obtain ⟨a, ea, ha, _⟩ := reads_a h3 h
    rw [← ea, wsN_rd plan ha]
    exact ⟨specWidthN_ev (by omega) hg i a ha ha, wOf_in hg i a ha ha⟩
  have B : x.f0 = 4 ∨ x.f0 = 6 → Ev (fun k => spec_l3Width.f k plan x.f2) (rd (wsN plan i) x.f2) ∧ 1 ≤ rd (wsN plan i) x.f2 ∧ rd (wsN plan i) x.f2 ≤ 4 := fun h => by
    obtain ⟨a, ea, ha, _⟩ := reads_b h3 h
    rw [← ea, wsN_rd plan ha]
    exact ⟨specWidthN_ev (by omega) hg i a ha ha, wOf_in hg i a ha ha⟩
  refine Kit.Ev.up ?_
  simp only [spec_l3Node.l0]
  refine Kit.Ev.call specReads_eq (Kit.Ev.neg (by omega) ?_)
  have mnE : ∀ a b : Int, spec_l1Min.f a b = some (min a b) := fun a b => by
    unfold spec_l1Min.f
    by_cases c : a < b
    · rw [if_pos c]; congr 1; omega
    · rw [if_neg c]; congr 1; omega
  rcases op_cases h1 with h | h | h | h | h | h | h | h | h | h | h | h <;> simp only [faultW, h, Int.reduceEq, Int.reduceLE, if_true, if_false, false_or, or_false, true_or, or_true, and_self, and_false, false_and, and_true, true_and, not_false_eq_true, forall_const] at A B ⊢
  · exact Kit.Ev.call (specIn_eq _ _ _) (evDec (fun _ => Kit.Ev.const rfl) (fun _ => Kit.Ev.const rfl))
  · refine Kit.Ev.then A.1 (Kit.Ev.call (specIn_eq _ _ _) ?_)
    rw [Kit.w64 (by omega) (by omega)]
    refine evDec (fun _ => Kit.Ev.call (specIn_eq _ _ _) (evDec (fun _ => Kit.Ev.call (specIn_eq _ _ _) (evDec (fun _ => Kit.Ev.const rfl) (fun _ => Kit.Ev.const rfl))) (fun _ => Kit.Ev.const rfl))) (fun _ => Kit.Ev.const rfl)
  · refine Kit.Ev.then A.1 ?_
    by_cases c : 1 ≤ (x.f6.length : Int) ∧ (x.f6.length : Int) ≤ 4
    · rw [if_pos c]
      refine Kit.Ev.neg (by omega) (Kit.Ev.up ?_)
      simp only [spec_l3Node.j1]
      refine Kit.Ev.neg (by simp; omega) ?_
      exact (specCells_l1 _ _ _ _ _ _ _ _ (by omega) hl x.f6.length 0 (by omega)).eq (by simp)
    · rw [if_neg c]
      refine Kit.Ev.ite (fun _ => Kit.Ev.up ?_) (fun _ => Kit.Ev.up ?_) <;> simp only [spec_l3Node.j1]
      · exact Kit.Ev.pos trivial (Kit.Ev.const rfl)
      · exact Kit.Ev.pos (by simp; omega) (Kit.Ev.const rfl)
  · exact Kit.Ev.then A.1 (Kit.Ev.then B.1 (Kit.Ev.ite2 (fun _ => Kit.Ev.const rfl) (fun _ => Kit.Ev.const rfl)))
  · refine Kit.Ev.then A.1 (Kit.Ev.up ?_)
    simp only [spec_l3Node.j3]
    exact Kit.Ev.neg (by decide) (Kit.Ev.const rfl)
  · refine Kit.Ev.then A.1 (Kit.Ev.then B.1 (Kit.Ev.call (mnE _ _) (Kit.Ev.call (specIn_eq _ _ _) ?_)))
    refine evDec (fun c => ?_) (fun _ => Kit.Ev.const rfl)
    rw [Kit.w64 (x := rd (wsN plan i) x.f1 + rd (wsN plan i) x.f2) (by omega) (by omega), Kit.w64 (by omega) (by omega)]
    exact Kit.Ev.ite2 (fun _ => Kit.Ev.const rfl) (fun _ => Kit.Ev.const rfl)
  · refine Kit.Ev.then A.1 (Kit.Ev.call (mnE _ _) (Kit.Ev.call (specIn_eq _ _ _) ?_))
    exact evDec (fun _ => Kit.Ev.const rfl) (fun _ => Kit.Ev.const rfl)
  · refine Kit.Ev.then A.1 (Kit.Ev.up ?_)
    simp only [spec_l3Node.j3]
    refine Kit.Ev.pos (by decide) (Kit.Ev.call (specIn_eq _ _ _) ?_)
    rw [Kit.w64 (by omega) (by omega)]
    exact evDec (fun _ => Kit.Ev.const rfl) (fun _ => Kit.Ev.const rfl)
  · refine Kit.Ev.then A.1 (Kit.Ev.up ?_)
    simp only [spec_l3Node.j3]
    refine Kit.Ev.pos (by decide) (Kit.Ev.call (specIn_eq _ _ _) ?_)
    rw [Kit.w64 (by omega) (by omega)]
    exact evDec (fun _ => Kit.Ev.const rfl) (fun _ => Kit.Ev.const rfl)
  · refine Kit.Ev.then A.1 (Kit.Ev.up ?_)
    simp only [spec_l3Node.j3]
    refine Kit.Ev.pos (by decide) (Kit.Ev.call (specIn_eq _ _ _) ?_)
    rw [Kit.w64 (by omega) (by omega)]
    exact evDec (fun _ => Kit.Ev.const rfl) (fun _ => Kit.Ev.const rfl)
  · refine Kit.Ev.then A.1 (Kit.Ev.up ?_)
    simp only [spec_l3Node.j3]
    exact Kit.Ev.neg (by decide) (Kit.Ev.const rfl)
  · refine Kit.Ev.then A.1 (Kit.Ev.up ?_)
    simp only [spec_l3Node.j3]
    exact Kit.Ev.neg (by decide) (Kit.Ev.const rfl)
/-- One thing that a node reads from is looked at. -/
theorem specNode_read {plan : List S36} {i : Nat} (hi : i < plan.length) (hn : plan.length ≤ 1048576) {v r : Int} {f : Nat → Option Int} (hf : readOk plan i v = true → Ev f r) :
    Ev (fun k => (spec_l1In.f v 0 (wrap64 ((i : Int) - 1))).bind fun t => if t = true then (if 0 ≤ v then (if v < (plan.length : Int) then (if (rd_T36 plan v).f0 = 12 then some 3 else f k) else none) else none) else some 3) (if readOk plan i v = true then r else 3) := by
  refine Kit.Ev.call (specIn_eq _ _ _) ?_
  rw [Kit.w64 (by omega) (by omega)]
  by_cases c : 0 ≤ v ∧ v ≤ (i : Int) - 1
  · refine Kit.Ev.pos (decide_eq_true c) (Kit.Ev.pos c.1 (Kit.Ev.pos (by omega) ?_))
    by_cases c2 : (rd_T36 plan v).f0 = 12
    · refine Kit.Ev.pos c2 (Kit.Ev.const ?_)
      rw [if_neg (by simp [readOk, c2])]
    · refine Kit.Ev.neg c2 ?_
      have hr : readOk plan i v = true := by simp [readOk, c2]; omega
      rw [if_pos hr]
      exact hf hr
  · refine Kit.Ev.neg (by simpa using c) (Kit.Ev.const ?_)
    rw [if_neg (by simp only [readOk, Bool.and_eq_true, decide_eq_true_eq]; intro h; exact c h.1)]
theorem specNode_ev {plan : List S36} (hx : FineN plan) {i : Nat} (hi : i < plan.length) (hg : GoodN plan i) : Ev (fun k => spec_l3Node.f k plan (i : Int)) (codeN plan i) := by
  have hl := hx.2 _ (rdN_mem (xs := plan) (i := i) hi)
  have hn := hx.1
  unfold spec_l3Node.f codeN
  refine Kit.Ev.pos (by omega) (Kit.Ev.pos (by omega) (Kit.Ev.call (specIn_eq _ _ _) ?_))
  generalize rd_T36 plan (i : Int) = x at *
  refine evDec (fun h1 => ?_) (fun _ => Kit.Ev.const rfl)
  refine Kit.Ev.then (specNamed_ev _ _ _ _ _ _ _ h1) ?_
  refine Kit.Ev.ite2 (fun _ => ?_) (fun _ => Kit.Ev.const rfl)
  have T : (readsL x).all (readOk plan i) = true → _ := fun h3 => specNode_tail hi hg h1 h3 hl
  unfold readsL at T ⊢
  by_cases c1 : x.f0 = 1
  · simp only [if_pos c1, List.all_nil, if_true, List.length_nil] at T ⊢
    exact T trivial
  · by_cases c2 : x.f0 = 4 ∨ x.f0 = 6
    · simp only [if_neg c1, if_pos c2, List.all_cons, List.all_nil, Bool.and_true, List.length_cons, List.length_nil] at T ⊢
      refine Kit.Ev.up ?_
      simp only [spec_l3Node.l0]
      refine Kit.Ev.call specReads_eq ?_
      have rl : ((readsL x).length : Int) = 2 := by unfold readsL; rw [if_neg c1, if_pos c2]; rfl
      rw [rl]
      refine Kit.Ev.pos (by omega) (Kit.Ev.neg (by omega) ?_)
      have e : (if (readOk plan i x.f1 && readOk plan i x.f2) = true then faultW (wsN plan i) x else 3) = (if readOk plan i x.f1 = true then (if readOk plan i x.f2 = true then faultW (wsN plan i) x else 3) else 3) := by
        by_cases d1 : readOk plan i x.f1 = true <;> by_cases d2 : readOk plan i x.f2 = true <;> simp [d1, d2]
      rw [e]
      refine specNode_read hi hn (fun r1 => ?_)
      rw [show wrap64 (0 + 1) = 1 from by rw [Kit.w64 (by omega) (by omega)]; rfl]
      refine Kit.Ev.up ?_
      simp only [spec_l3Node.l0]
      refine Kit.Ev.call specReads_eq ?_
      rw [rl]
      refine Kit.Ev.pos (by omega) (Kit.Ev.pos trivial ?_)
      refine specNode_read hi hn (fun r2 => ?_)
      rw [show wrap64 (1 + 1) = 2 from by rw [Kit.w64 (by omega) (by omega)]; rfl]
      exact T (by rw [r1, r2]; rfl)
    · simp only [if_neg c1, if_neg c2, List.all_cons, List.all_nil, Bool.and_true, List.length_cons, List.length_nil] at T ⊢
      refine Kit.Ev.up ?_
      simp only [spec_l3Node.l0]
      refine Kit.Ev.call specReads_eq ?_
      have rl : ((readsL x).length : Int) = 1 := by unfold readsL; rw [if_neg c1, if_neg c2]; rfl
      rw [rl]
      refine Kit.Ev.pos (by omega) (Kit.Ev.neg (by omega) ?_)
      refine specNode_read hi hn (fun r1 => ?_)
      rw [show wrap64 (0 + 1) = 1 from by rw [Kit.w64 (by omega) (by omega)]; rfl]
      exact T r1
theorem specPlan_l0 {plan : List S36} (hx : FineN plan) : ∀ (d i : Nat), i + d = plan.length → GoodN plan i → Ev (fun k => spec_PlanFault.l0 k plan (i : Int)) (planC plan d i)
  | 0, i, hd, hg => by
    refine Kit.Ev.up ?_
    simp only [spec_PlanFault.l0, planC]
    exact Kit.Ev.neg (by omega) (Kit.Ev.const rfl)
  | d + 1, i, hd, hg => by
    refine Kit.Ev.up ?_
    simp only [spec_PlanFault.l0, planC]
    refine Kit.Ev.pos (by omega) (Kit.Ev.then (specNode_ev hx (by omega) hg) (Kit.Ev.ite2 (fun h => ?_) (fun _ => Kit.Ev.const rfl)))
    rw [w64n (n := plan.length) (by omega) hx.n]
    refine specPlan_l0 hx d (i + 1) (by omega) (fun j hj => ?_)
    by_cases e : j = i
    · rw [e]; exact h
    · exact hg j (by omega)
theorem specPlan_ev {plan : List S36} (hx : FineN plan) : Ev (fun k => spec_PlanFault.f k plan) (planF plan) := by
  unfold spec_PlanFault.f planF
  by_cases c : 1 ≤ plan.length ∧ plan.length ≤ 8
  · rw [if_pos c]
    refine Kit.Ev.neg (by omega) (Kit.Ev.up ?_)
    simp only [spec_PlanFault.j0]
    exact Kit.Ev.neg (by simp; omega) (specPlan_l0 hx plan.length 0 (by omega) (fun j hj => by omega))
  · rw [if_neg c]
    refine Kit.Ev.ite (fun _ => Kit.Ev.up ?_) (fun _ => Kit.Ev.up ?_) <;> simp only [spec_PlanFault.j0]
    · exact Kit.Ev.pos trivial (Kit.Ev.const rfl)
    · exact Kit.Ev.pos (by simp; omega) (Kit.Ev.const rfl)
def plainT (a0 a1 a2 a3 a4 a5 : Int) (l6 : List Int) : Int × Int × Int × Int × Int × Int × List Int :=
  (a0, if a0 = 1 then 0 else a1, if a0 = 4 ∨ a0 = 6 then a2 else 0, if a0 = 3 ∨ a0 = 4 ∨ a0 = 5 ∨ a0 = 11 ∨ a0 = 12 then 0 else a3, if a0 = 2 then a4 else 0, if a0 = 2 then a5 else 0, if a0 = 3 then l6 else [])
theorem plain_ev (a0 a1 a2 a3 a4 a5 : Int) (l6 : List Int) (h0 : 1 ≤ a0 ∧ a0 ≤ 12) : Ev (fun k => impl_Node_plain.f k a0 a1 a2 a3 a4 a5 l6) (plainT a0 a1 a2 a3 a4 a5 l6) := by
  refine Kit.Ev.up (Kit.Ev.up (Kit.Ev.up (Kit.Ev.all (fun k => ?_))))
  rcases op_cases h0 with rfl | rfl | rfl | rfl | rfl | rfl | rfl | rfl | rfl | rfl | rfl | rfl <;>
  simp [impl_Node_plain.f, impl_Node_plain.j0, impl_Node_plain.j1, impl_Node_plain.j2, impl_twoSided.f, plainT]
theorem same_plain (a0 a1 a2 a3 a4 a5 : Int) (l6 : List Int) (hl : l6.length ≤ 1048576) :
    Ev (fun k => impl_sameNode.f k a0 a1 a2 a3 a4 a5 l6 (plainT a0 a1 a2 a3 a4 a5 l6).1 (plainT a0 a1 a2 a3 a4 a5 l6).2.1 (plainT a0 a1 a2 a3 a4 a5 l6).2.2.1 (plainT a0 a1 a2 a3 a4 a5 l6).2.2.2.1 (plainT a0 a1 a2 a3 a4 a5 l6).2.2.2.2.1 (plainT a0 a1 a2 a3 a4 a5 l6).2.2.2.2.2.1 (plainT a0 a1 a2 a3 a4 a5 l6).2.2.2.2.2.2) (namedB a0 a1 a2 a3 a4 a5 l6) := by
  unfold impl_sameNode.f
  simp only [plainT]
  have key : namedB a0 a1 a2 a3 a4 a5 l6 = (if a1 = (if a0 = 1 then 0 else a1) then (if a2 = (if a0 = 4 ∨ a0 = 6 then a2 else 0) then (if a3 = (if a0 = 3 ∨ a0 = 4 ∨ a0 = 5 ∨ a0 = 11 ∨ a0 = 12 then 0 else a3) then (if a4 = (if a0 = 2 then a4 else 0) then (if a5 = (if a0 = 2 then a5 else 0) then decide (l6 = (if a0 = 3 then l6 else [])) else false) else false) else false) else false) else false) := by
    have i1 : (a1 = (if a0 = 1 then 0 else a1)) ↔ (a0 = 1 → a1 = 0) := by by_cases h : a0 = 1 <;> simp [h]
    have i2 : (a2 = (if a0 = 4 ∨ a0 = 6 then a2 else 0)) ↔ (¬ (a0 = 4 ∨ a0 = 6) → a2 = 0) := by by_cases h : a0 = 4 ∨ a0 = 6 <;> simp [h]
    have i3 : (a3 = (if a0 = 3 ∨ a0 = 4 ∨ a0 = 5 ∨ a0 = 11 ∨ a0 = 12 then 0 else a3)) ↔ ((a0 = 3 ∨ a0 = 4 ∨ a0 = 5 ∨ a0 = 11 ∨ a0 = 12) → a3 = 0) := by by_cases h : a0 = 3 ∨ a0 = 4 ∨ a0 = 5 ∨ a0 = 11 ∨ a0 = 12 <;> simp [h]
    have i4 : (a4 = (if a0 = 2 then a4 else 0)) ↔ (¬ a0 = 2 → a4 = 0) := by by_cases h : a0 = 2 <;> simp [h]
    have i5 : (a5 = (if a0 = 2 then a5 else 0)) ↔ (¬ a0 = 2 → a5 = 0) := by by_cases h : a0 = 2 <;> simp [h]
    have i6 : (l6 = (if a0 = 3 then l6 else [])) ↔ (¬ a0 = 3 → l6 = []) := by by_cases h : a0 = 3 <;> simp [h]
    unfold namedB
    rw [Bool.eq_iff_iff]
    simp only [Bool.if_false_right, Bool.and_eq_true, decide_eq_true_eq]
    rw [i1, i2, i3, i4, i5, i6]
    constructor
    · rintro ⟨p1, p2, p45, p6, p3⟩; exact ⟨p1, p2, p3, fun h => (p45 h).1, fun h => (p45 h).2, p6⟩
    · rintro ⟨p1, p2, p3, p4, p5, p6⟩; exact ⟨p1, p2, fun h => ⟨p4 h, p5 h⟩, p6, p3⟩
  rw [key]
  refine Kit.Ev.pos trivial (Kit.Ev.ite2 (fun _ => Kit.Ev.ite2 (fun _ => Kit.Ev.ite2 (fun _ => Kit.Ev.ite2 (fun _ => Kit.Ev.ite2 (fun _ => ?_) (fun _ => Kit.Ev.const rfl)) (fun _ => Kit.Ev.const rfl)) (fun _ => Kit.Ev.const rfl)) (fun _ => Kit.Ev.const rfl)) (fun _ => Kit.Ev.const rfl))
  exact Kit.Ev.then (slicesEq_ev _ _ (by omega)) (Kit.Ev.const rfl)
theorem implReads_eq (x : S36) : impl_Node_reads.f x.f0 x.f1 x.f2 x.f3 x.f4 x.f5 x.f6 = some (readsL x) := by
  unfold impl_Node_reads.f readsL impl_twoSided.f
  by_cases h1 : x.f0 = 1
  · rw [if_pos h1, if_pos h1]
  · by_cases h4 : x.f0 = 4
    · rw [if_neg h1, if_neg h1, if_pos h4, if_pos (Or.inl h4)]; rfl
    · by_cases h6 : x.f0 = 6
      · rw [if_neg h1, if_neg h1, if_neg h4, if_pos (Or.inr h6)]; simp [h6]
      · rw [if_neg h1, if_neg h1, if_neg h4, if_neg (by omega)]; simp [h6]
theorem implWidthN_eq {ws : List Int} {x : S36} (h1 : 1 ≤ x.f0 ∧ x.f0 ≤ 12) (ha : ¬ x.f0 = 1 → 0 ≤ x.f1 ∧ x.f1 < (ws.length : Int) ∧ 1 ≤ rd ws x.f1 ∧ rd ws x.f1 ≤ 4) (hb : x.f0 = 4 ∨ x.f0 = 6 → 0 ≤ x.f2 ∧ x.f2 < (ws.length : Int) ∧ 1 ≤ rd ws x.f2 ∧ rd ws x.f2 ≤ 4) (h3 : ¬ x.f0 = 3 → ¬ x.f0 = 1 → -1000 ≤ x.f3 ∧ x.f3 ≤ 1000) :
    impl_Node_width.f x.f0 x.f1 x.f2 x.f3 x.f4 x.f5 x.f6 ws = some (widthW ws x) := by
  unfold impl_Node_width.f impl_grouped.f
  rw [implIn_eq]
  rcases op_cases h1 with h | h | h | h | h | h | h | h | h | h | h | h <;> simp only [widthW, impl_size_int64.f, h, Int.reduceEq, Int.reduceLE, if_true, if_false, false_or, or_false, true_or, or_true, and_self, and_false, false_and, and_true, true_and, not_false_eq_true, forall_const, Option.bind_some, decide_true, decide_false, Bool.false_eq_true] at ha hb h3 ⊢
  · rw [if_pos ha.1, if_pos ha.2.1]
  · rw [if_pos ha.1, if_pos ha.2.1]
  · rw [if_pos ha.1, if_pos ha.2.1]
  · rw [if_pos ha.1, if_pos ha.2.1, if_pos hb.1, if_pos hb.2.1, Kit.w64 (x := _ + _) (by omega) (by omega), Kit.w64 (by omega) (by omega)]
  · rw [Kit.w64 (by omega) (by omega)]
  · rw [Kit.w64 (by omega) (by omega)]
  · rw [Kit.w64 (by omega) (by omega)]
  · rw [Kit.w64 (by omega) (by omega)]
  · rw [if_pos ha.1, if_pos ha.2.1]
  · rw [if_pos ha.1, if_pos ha.2.1]
theorem implCells_l0 (ws : List Int) (a0 a1 a2 a3 a4 a5 : Int) (l6 l7 : List Int) (ha : 0 ≤ a1 ∧ a1 < (ws.length : Int)) (hw : -1000 ≤ rd ws a1 ∧ rd ws a1 ≤ 1000) (hn : l6.length ≤ 1048576) : ∀ (d i : Nat), i + d = l6.length → Ev (fun k => impl_Node_fault.l0 k ws l6 (l6.length : Int) (i : Int) a0 a1 a2 a3 a4 a5 l7) (if (l6.drop i).all (cellOk (rd ws a1)) = true then 0 else 3) := by
  intro d
  induction d with
  | zero =>
    intro i hd
    refine Kit.Ev.up ?_
    simp only [impl_Node_fault.l0]
    refine Kit.Ev.neg (by omega) (Kit.Ev.const ?_)
    rw [List.drop_eq_nil_of_le (by omega)]; simp
  | succ d ih =>
    intro i hd
    refine Kit.Ev.up ?_
    simp only [impl_Node_fault.l0]
    refine Kit.Ev.pos (by omega) (Kit.Ev.pos (by omega) (Kit.Ev.pos (by omega) (Kit.Ev.pos ha.1 (Kit.Ev.pos ha.2 ?_))))
    rw [rd_drop (xs := l6) (i := i) (by omega), w64n (n := l6.length) (by omega) (by omega), implIn_eq, Kit.w64 (x := rd ws a1 - 1) (by omega) (by omega)]
    simp only [Option.bind_some]
    refine Kit.Ev.ite (fun h => ?_) (fun h => Kit.Ev.const ?_)
    · exact (ih (i + 1) (by omega)).eq (by have h' : cellOk (rd ws a1) (rd l6 (i : Int)) = true := h; simp [h'])
    · have h' : ¬ cellOk (rd ws a1) (rd l6 (i : Int)) = true := h
      simp [h']
theorem implFaultN_ev {ws : List Int} {x : S36} (h1 : 1 ≤ x.f0 ∧ x.f0 ≤ 12) (ha : ¬ x.f0 = 1 → 0 ≤ x.f1 ∧ x.f1 < (ws.length : Int) ∧ 1 ≤ rd ws x.f1 ∧ rd ws x.f1 ≤ 4) (hb : x.f0 = 4 ∨ x.f0 = 6 → 0 ≤ x.f2 ∧ x.f2 < (ws.length : Int) ∧ 1 ≤ rd ws x.f2 ∧ rd ws x.f2 ≤ 4) (hl : x.f6.length ≤ 1048576) :
    Ev (fun k => impl_Node_fault.f k x.f0 x.f1 x.f2 x.f3 x.f4 x.f5 x.f6 ws) (faultW ws x) := by
  have mnE : ∀ a b : Int, mn a b = min a b := fun a b => by unfold mn; split <;> omega
  have WE : ∀ c : ¬ x.f0 = 3 → ¬ x.f0 = 1 → -1000 ≤ x.f3 ∧ x.f3 ≤ 1000, _ := fun c => implWidthN_eq h1 ha hb c
  unfold impl_Node_fault.f
  simp only [mnE]
  rcases op_cases h1 with h | h | h | h | h | h | h | h | h | h | h | h <;> simp only [faultW, impl_size_int64.f, h, Int.reduceEq, Int.reduceLE, if_true, if_false, false_or, or_false, true_or, or_true, and_self, and_false, false_and, and_true, true_and, not_false_eq_true, forall_const, Option.bind_some] at ha hb WE ⊢
  · exact Kit.Ev.call (implIn_eq _ _ _) (evDec (fun _ => Kit.Ev.const rfl) (fun _ => Kit.Ev.const rfl))
  · refine Kit.Ev.pos ha.1 (Kit.Ev.pos ha.2.1 (Kit.Ev.call (implIn_eq _ _ _) ?_))
    rw [Kit.w64 (by omega) (by omega)]
    refine evDec (fun _ => Kit.Ev.call (implIn_eq _ _ _) (evDec (fun _ => Kit.Ev.call (implIn_eq _ _ _) (evDec (fun _ => Kit.Ev.const rfl) (fun _ => Kit.Ev.const rfl))) (fun _ => Kit.Ev.const rfl))) (fun _ => Kit.Ev.const rfl)
  · refine Kit.Ev.call (implIn_eq _ _ _) (evDec (fun _ => ?_) (fun _ => Kit.Ev.const rfl))
    exact (implCells_l0 ws _ x.f1 _ _ _ _ x.f6 x.f6 ⟨ha.1, ha.2.1⟩ (by omega) hl x.f6.length 0 (by omega)).eq (by simp)
  · exact Kit.Ev.pos ha.1 (Kit.Ev.pos ha.2.1 (Kit.Ev.pos hb.1 (Kit.Ev.pos hb.2.1 (Kit.Ev.ite2 (fun _ => Kit.Ev.const rfl) (fun _ => Kit.Ev.const rfl)))))
  · refine Kit.Ev.up ?_
    simp only [impl_Node_fault.j1]
    exact Kit.Ev.neg (by decide) (Kit.Ev.const rfl)
  · refine Kit.Ev.pos ha.1 (Kit.Ev.pos ha.2.1 (Kit.Ev.pos hb.1 (Kit.Ev.pos hb.2.1 (Kit.Ev.call (implIn_eq _ _ _) ?_))))
    refine evDec (fun c => ?_) (fun _ => Kit.Ev.const rfl)
    refine Kit.Ev.call (WE (by omega)) ?_
    have e : widthW ws x = rd ws x.f1 + rd ws x.f2 - x.f3 := by simp [widthW, h]
    rw [e]
    exact Kit.Ev.ite2 (fun _ => Kit.Ev.const rfl) (fun _ => Kit.Ev.const rfl)
  · exact Kit.Ev.pos ha.1 (Kit.Ev.pos ha.2.1 (Kit.Ev.call (implIn_eq _ _ _) (evDec (fun _ => Kit.Ev.const rfl) (fun _ => Kit.Ev.const rfl))))
  · refine Kit.Ev.up ?_
    simp only [impl_Node_fault.j1]
    refine Kit.Ev.pos (by decide) (Kit.Ev.pos ha.1 (Kit.Ev.pos ha.2.1 (Kit.Ev.call (implIn_eq _ _ _) ?_)))
    rw [Kit.w64 (by omega) (by omega)]
    exact evDec (fun _ => Kit.Ev.const rfl) (fun _ => Kit.Ev.const rfl)
  · refine Kit.Ev.up ?_
    simp only [impl_Node_fault.j1]
    refine Kit.Ev.pos (by decide) (Kit.Ev.pos ha.1 (Kit.Ev.pos ha.2.1 (Kit.Ev.call (implIn_eq _ _ _) ?_)))
    rw [Kit.w64 (by omega) (by omega)]
    exact evDec (fun _ => Kit.Ev.const rfl) (fun _ => Kit.Ev.const rfl)
  · refine Kit.Ev.up ?_
    simp only [impl_Node_fault.j1]
    refine Kit.Ev.pos (by decide) (Kit.Ev.pos ha.1 (Kit.Ev.pos ha.2.1 (Kit.Ev.call (implIn_eq _ _ _) ?_)))
    rw [Kit.w64 (by omega) (by omega)]
    exact evDec (fun _ => Kit.Ev.const rfl) (fun _ => Kit.Ev.const rfl)
  · refine Kit.Ev.up ?_
    simp only [impl_Node_fault.j1]
    exact Kit.Ev.neg (by decide) (Kit.Ev.const rfl)
  · refine Kit.Ev.up ?_
    simp only [impl_Node_fault.j1]
    exact Kit.Ev.neg (by decide) (Kit.Ev.const rfl)
def lookR (plan : List S36) (c : Int) : List Int × Int := if c = 0 then (wsN plan plan.length, 0) else ([], c)
def lookF (plan : List S36) : List Int × Int := lookR plan (planF plan)
theorem fault_f3 {ws : List Int} {x : S36} (h1 : 1 ≤ x.f0 ∧ x.f0 ≤ 12) (hm : named x = true) (hf : faultW ws x = 0) (ha : ¬ x.f0 = 1 → 1 ≤ rd ws x.f1 ∧ rd ws x.f1 ≤ 4) : ¬ x.f0 = 3 → ¬ x.f0 = 1 → -1000 ≤ x.f3 ∧ x.f3 ≤ 1000 := by
  intro n3 n1
  have hz := (of_decide_eq_true (show decide _ = true from hm)).2.2.2.2
  rcases op_cases h1 with h | h | h | h | h | h | h | h | h | h | h | h <;> simp only [faultW, h, Int.reduceEq, Int.reduceLE, if_true, if_false, false_or, or_false, true_or, or_true, and_self, and_false, false_and, and_true, true_and, not_false_eq_true, forall_const, not_true_eq_false] at hf ha hz n3 n1
  all_goals (repeat' split at hf)
  all_goals first | omega | (have := hz trivial; omega)
theorem looked_reads {plan ws : List S36} {wl : List Int} {i : Nat} {a0 a1 a2 a3 a4 a5 : Int} {l6 : List Int} {x16 x17 : Int} (hi : i < plan.length) (hn : plan.length ≤ 1048576) (rs : List Int) (hrs : rs.length ≤ 1048576) {r : List Int × Int}
    (hend : rs.all (readOk plan i) = true → Ev (fun k => (impl_Node_fault.f k a0 a1 a2 a3 a4 a5 l6 wl).bind fun t232 => if t232 = 0 then ((impl_Node_width.f a0 a1 a2 a3 a4 a5 l6 wl).bind fun t233 => if wl.length < 17592186044416 then impl_looked.l0 k plan (wl ++ [t233]) ws x16 (wrap64 (x17 + 1)) else none) else some (([] : List Int), t232)) r) :
    ∀ (d q : Nat), q + d = rs.length → (∀ v ∈ rs.take q, readOk plan i v = true) → Ev (fun k => impl_looked.l1 k plan wl (i : Int) ws x16 x17 rs (rs.length : Int) (q : Int) a0 a1 a2 a3 a4 a5 l6) (if (rs.drop q).all (readOk plan i) = true then r else ([], 3)) := by
  intro d
  induction d with
  | zero =>
    intro q hd hp
    refine Kit.Ev.up ?_
    simp only [impl_looked.l1]
    refine Kit.Ev.neg (by omega) ?_
    rw [List.drop_eq_nil_of_le (by omega)]
    rw [List.take_of_length_le (by omega)] at hp
    exact (hend (List.all_eq_true.mpr hp)).eq (by simp)
  | succ d ih =>
    intro q hd hp
    refine Kit.Ev.up ?_
    simp only [impl_looked.l1]
    refine Kit.Ev.pos (by omega) (Kit.Ev.pos (by omega) (Kit.Ev.pos (by omega) (Kit.Ev.call (implIn_eq _ _ _) ?_)))
    rw [rd_drop (xs := rs) (i := q) (by omega), Kit.w64 (x := (i : Int) - 1) (by omega) (by omega), w64n (n := rs.length) (by omega) (by omega)]
    by_cases c : 0 ≤ rd rs (q : Int) ∧ rd rs (q : Int) ≤ (i : Int) - 1
    · refine Kit.Ev.pos (decide_eq_true c) (Kit.Ev.pos c.1 (Kit.Ev.pos (by omega) ?_))
      by_cases c2 : (rd_T36 plan (rd rs (q : Int))).f0 = 12
      · refine Kit.Ev.pos c2 (Kit.Ev.const ?_)
        rw [if_neg (by simp [readOk, c2])]
      · have hr : readOk plan i (rd rs (q : Int)) = true := by simp [readOk, c2]; omega
        refine Kit.Ev.neg c2 ((ih (q + 1) (by omega) (fun v hv => ?_)).eq (by simp [hr]))
        rw [List.take_add_one, List.getElem?_eq_getElem (by omega), ← Kit.rd_at (by omega)] at hv
        rcases List.mem_append.mp hv with h1 | h1
        · exact hp v h1
        · simp at h1; rw [h1]; exact hr
    · refine Kit.Ev.neg (by simpa using c) (Kit.Ev.const ?_)
      rw [if_neg]
      simp only [List.all_cons, Bool.and_eq_true, readOk, decide_eq_true_eq]
      intro h
      exact c h.1.1
theorem implLooked_l0 {plan : List S36} (hx : FineN plan) : ∀ (d i : Nat), i + d = plan.length → GoodN plan i → Ev (fun k => impl_looked.l0 k plan (wsN plan i) plan (plan.length : Int) (i : Int)) (lookR plan (planC plan d i))
  | 0, i, hd, hg => by
    refine Kit.Ev.up ?_
    simp only [impl_looked.l0]
    obtain rfl : i = plan.length := by omega
    exact Kit.Ev.neg (by omega) (Kit.Ev.const rfl)
  | d + 1, i, hd, hg => by
    have hn := hx.1
    have hi : i < plan.length := by omega
    have hl := hx.2 _ (rdN_mem (xs := plan) (i := i) hi)
    have IH : codeN plan i = 0 → _ := fun h => implLooked_l0 hx d (i + 1) (by omega) (fun j hj => by
      by_cases e : j = i
      · rw [e]; exact h
      · exact hg j (by omega))
    have e1 : wsN plan (i + 1) = wsN plan i ++ [widthW (wsN plan i) (rd_T36 plan (i : Int))] := rfl
    rw [e1] at IH
    have hp : planC plan (d + 1) i = if codeN plan i = 0 then planC plan d (i + 1) else codeN plan i := rfl
    rw [hp]
    refine Kit.Ev.up ?_
    simp only [impl_looked.l0]
    refine Kit.Ev.pos (by omega) (Kit.Ev.pos (by omega) (Kit.Ev.pos (by omega) (Kit.Ev.call (implIn_eq _ _ _) ?_)))
    have hc := codeN_eq plan i
    generalize rd_T36 plan (i : Int) = x at *
    by_cases h1 : 1 ≤ x.f0 ∧ x.f0 ≤ 12
    · rw [if_pos h1] at hc
      refine Kit.Ev.pos (decide_eq_true h1) (Kit.Ev.then (plain_ev _ _ _ _ _ _ _ h1) (Kit.Ev.then (same_plain _ _ _ _ _ _ _ hl) ?_))
      by_cases h2 : named x = true
      · rw [if_pos h2] at hc
        refine Kit.Ev.pos h2 (Kit.Ev.call (implReads_eq x) ?_)
        have rl : (readsL x).length ≤ 1048576 := by
          unfold readsL
          split
          · simp
          · split <;> simp
        have L := looked_reads (ws := plan) (wl := wsN plan i) (x16 := (plan.length : Int)) (x17 := (i : Int)) (a0 := x.f0) (a1 := x.f1) (a2 := x.f2) (a3 := x.f3) (a4 := x.f4) (a5 := x.f5) (l6 := x.f6) hi hn (readsL x) rl (r := if faultW (wsN plan i) x = 0 then lookR plan (planC plan d (i + 1)) else ([], faultW (wsN plan i) x)) (fun h3 => by
          have A : ¬ x.f0 = 1 → 0 ≤ x.f1 ∧ x.f1 < ((wsN plan i).length : Int) ∧ 1 ≤ rd (wsN plan i) x.f1 ∧ rd (wsN plan i) x.f1 ≤ 4 := fun h => by
            obtain ⟨a, ea, ha, _⟩ := reads_a h3 h
            rw [wsN_len, ← ea, wsN_rd plan ha]
            have := wOf_in hg i a ha ha
            omega
          have B : x.f0 = 4 ∨ x.f0 = 6 → 0 ≤ x.f2 ∧ x.f2 < ((wsN plan i).length : Int) ∧ 1 ≤ rd (wsN plan i) x.f2 ∧ rd (wsN plan i) x.f2 ≤ 4 := fun h => by
            obtain ⟨a, ea, ha, _⟩ := reads_b h3 h
            rw [wsN_len, ← ea, wsN_rd plan ha]
            have := wOf_in hg i a ha ha
            omega
          refine Kit.Ev.then (implFaultN_ev h1 A B hl) (Kit.Ev.ite2 (fun hf => ?_) (fun _ => Kit.Ev.const rfl))
          refine Kit.Ev.call (implWidthN_eq h1 A B (fault_f3 h1 h2 hf (fun h => (A h).2.2))) (Kit.Ev.pos (by rw [wsN_len]; omega) ?_)
          rw [w64n (n := plan.length) (by omega) hx.n]
          rw [if_pos h3] at hc
          exact IH (by rw [hc]; exact hf)) (readsL x).length 0 (by omega) (by simp)
        refine L.eq ?_
        rw [List.drop_zero]
        by_cases h3 : (readsL x).all (readOk plan i) = true
        · rw [if_pos h3] at hc ⊢
          rw [hc]
          by_cases hf : faultW (wsN plan i) x = 0
          · rw [if_pos hf, if_pos hf]
          · rw [if_neg hf, if_neg hf]; unfold lookR; rw [if_neg hf]
        · rw [if_neg h3] at hc ⊢
          rw [hc]; rfl
      · rw [if_neg h2] at hc
        refine Kit.Ev.neg h2 (Kit.Ev.const ?_)
        rw [hc]; rfl
    · rw [if_neg h1] at hc
      refine Kit.Ev.neg (by simpa using h1) (Kit.Ev.const ?_)
      rw [hc]; rfl
theorem implLooked_ev {plan : List S36} (hx : FineN plan) : Ev (fun k => impl_looked.f k plan) (lookF plan) := by
  unfold impl_looked.f lookF planF
  refine Kit.Ev.call (a := (plan.length : Int)) rfl (Kit.Ev.call (implIn_eq _ _ _) ?_)
  by_cases c : 1 ≤ plan.length ∧ plan.length ≤ 8
  · refine Kit.Ev.pos (by simp; omega) ?_
    rw [if_pos c]
    exact implLooked_l0 hx plan.length 0 (by omega) (fun j hj => by omega)
  · refine Kit.Ev.neg (by simp; omega) (Kit.Ev.const ?_)
    rw [if_neg c]; rfl
theorem implPlan_ev {plan : List S36} (hx : FineN plan) : Ev (fun k => impl_PlanFault.f k plan) (planF plan) := by
  unfold impl_PlanFault.f
  refine Kit.Ev.then (implLooked_ev hx) (Kit.Ev.const ?_)
  unfold lookF lookR
  by_cases h : planF plan = 0
  · rw [if_pos h, h]
  · rw [if_neg h]
def askedF (plan : List S36) (v : Int) : Int := if planF plan = 0 then (if 0 ≤ v ∧ v ≤ (plan.length : Int) - 1 then 0 else 3) else planF plan
theorem asked_in {plan : List S36} {v : Int} (h : askedF plan v = 0) : planF plan = 0 ∧ ∃ j : Nat, (j : Int) = v ∧ j < plan.length := by
  unfold askedF at h
  by_cases h1 : planF plan = 0
  · rw [if_pos h1] at h
    by_cases h2 : 0 ≤ v ∧ v ≤ (plan.length : Int) - 1
    · exact ⟨h1, v.toNat, by omega, by omega⟩
    · rw [if_neg h2] at h; omega
  · rw [if_neg h1] at h; exact absurd h h1
theorem implNodeCode_ev {plan : List S36} (hx : FineN plan) (v : Int) : Ev (fun k => impl_nodeCode.f k plan v) ((lookF plan).1, askedF plan v) := by
  have hn := hx.1
  unfold impl_nodeCode.f
  refine Kit.Ev.then (implLooked_ev hx) ?_
  have e : (lookF plan).2 = planF plan := by
    unfold lookF lookR
    by_cases h : planF plan = 0
    · rw [if_pos h, h]
    · rw [if_neg h]
  rw [e]
  by_cases h : planF plan = 0
  · have r : askedF plan v = if 0 ≤ v ∧ v ≤ (plan.length : Int) - 1 then 0 else 3 := by unfold askedF; rw [if_pos h]
    rw [r]
    refine Kit.Ev.pos h (Kit.Ev.call (a := (plan.length : Int)) rfl (Kit.Ev.call (implIn_eq _ _ _) ?_))
    rw [Kit.w64 (by omega) (by omega)]
    by_cases c : 0 ≤ v ∧ v ≤ (plan.length : Int) - 1
    · rw [if_pos c, h]; exact Kit.Ev.pos (decide_eq_true c) (Kit.Ev.const rfl)
    · rw [if_neg c]; exact Kit.Ev.neg (by simpa using c) (Kit.Ev.const rfl)
  · have r : askedF plan v = planF plan := by unfold askedF; rw [if_neg h]
    rw [r]
    exact Kit.Ev.neg h (Kit.Ev.const rfl)
theorem lookF_good {plan : List S36} (h : planF plan = 0) : lookF plan = (wsN plan plan.length, 0) := by
  unfold lookF lookR
  rw [if_pos h]
def widthOfF (plan : List S36) (v : Int) : Int × Int := if askedF plan v = 0 then (0, wOf plan v.toNat) else (askedF plan v, 0)
theorem implWidthOf_ev {plan : List S36} (hx : FineN plan) (v : Int) : Ev (fun k => impl_WidthOf.f k plan v) (widthOfF plan v) := by
  unfold impl_WidthOf.f widthOfF
  refine Kit.Ev.then (implNodeCode_ev hx v) (Kit.Ev.ite2 (fun h => ?_) (fun _ => Kit.Ev.const rfl))
  obtain ⟨h1, j, rfl, hj⟩ := asked_in h
  rw [lookF_good h1]
  refine Kit.Ev.pos (by omega) (Kit.Ev.pos (by rw [wsN_len]; omega) (Kit.Ev.const ?_))
  rw [wsN_rd plan hj]; rfl
def cellV (a b c d e : Int) : Int := (((a * 256 + b) * 256 + c) * 256 + d) * 256 + e - 549755813888
def cells : Nat → List Int → List Int
  | 0, _ => []
  | n + 1, l => cellV (rd l 0) (rd l 1) (rd l 2) (rd l 3) (rd l 4) :: cells n (l.drop 5)
def rowOk (b : Int) (rest : List Int) : Prop := b ≤ 4 ∧ 5 * b ≤ (rest.length : Int) ∧ rowF (cells b.toNat rest) = 0
instance (b : Int) (rest : List Int) : Decidable (rowOk b rest) := by unfold rowOk; infer_instance
def unG : Nat → Int → List (List Int) → List Int → Int × Int × List (List Int)
  | 0, _, rows, _ => (0, 0, rows)
  | _ + 1, _, rows, [] => (0, 0, rows)
  | n + 1, at_, rows, b :: rest =>
    if rowOk b rest ∧ rows.length ≠ 60 then unG n (at_ + 1 + 5 * b) (rows ++ [cells b.toNat rest]) (rest.drop (5 * b.toNat)) else (5, at_, [])
def unV (data : List Int) : Int × Int × List (List Int) := unG (data.length + 1) 0 [] data
theorem cells_length : ∀ (n : Nat) (l : List Int), (cells n l).length = n
  | 0, _ => rfl
  | n + 1, l => by simp only [cells, List.length_cons, cells_length n]
theorem cells_snoc : ∀ (n : Nat) (l : List Int), cells (n + 1) l = cells n l ++ [cellV (rd (l.drop (5 * n)) 0) (rd (l.drop (5 * n)) 1) (rd (l.drop (5 * n)) 2) (rd (l.drop (5 * n)) 3) (rd (l.drop (5 * n)) 4)]
  | 0, l => by simp [cells]
  | n + 1, l => by
    rw [cells, cells_snoc n (l.drop 5), cells, List.cons_append, List.drop_drop]
    rw [show 5 + 5 * n = 5 * (n + 1) by omega]
theorem rd_dropi (l : List Int) (m i : Nat) : rd (l.drop m) (i : Int) = rd l ((m + i : Nat) : Int) := by
  rw [Kit.rd_nat, Kit.rd_nat, List.getD_eq_getElem?_getD, List.getD_eq_getElem?_getD, List.getElem?_drop]
theorem chance_some {c : List Int} (hc : BytesOk c) {t : Int} (h0 : 0 ≤ t) (h1 : t ≤ 1000000000000) (n : Int) : ∃ b, spec_l1Chance.f c t n = some (b, t + 1) := by
  unfold spec_l1Chance.f
  obtain ⟨v, e, _⟩ := next_some hc h0 h1 n
  exact ⟨_, by rw [e]; rfl⟩
/-- Bytes as a text. -/
def ba (l : List UInt8) : ByteArray := ⟨l.toArray⟩
theorem ba_size (l : List UInt8) : (ba l).size = l.length := by
  show l.toArray.size = _
  simp
theorem ba_app (a b : List UInt8) : ba a ++ ba b = ba (a ++ b) := by
  apply ByteArray.ext
  rw [ByteArray.data_append]
  simp [ba]
theorem ba_one (x : Int) (h0 : 0 ≤ x) (h1 : x < 256) : strOfNums [x] = ba [UInt8.ofNat x.toNat] := by
  unfold strOfNums ba
  congr 1
theorem dec_len (u : Nat) : (Lib.decDigits u).length ≤ u + 1 := by
  induction u using Nat.strongRecOn with
  | _ u ih =>
    rw [Lib.decDigits]
    by_cases h : u < 10
    · rw [dif_pos h]; simp
    · rw [dif_neg h, List.length_append]
      have := ih (u / 10) (by omega)
      simp only [List.length_cons, List.length_nil]
      omega
theorem itoa_len (n : Int) : (Lib.itoa n).length ≤ n.natAbs + 2 := by
  unfold Lib.itoa
  by_cases h : n < 0
  · rw [if_pos h, List.length_cons]
    have := dec_len n.natAbs
    omega
  · rw [if_neg h]
    have := dec_len n.toNat
    omega
theorem dec_eq (n : Int) (h0 : -1000000000000 ≤ n) (h1 : n ≤ 1000000000000) : impl_decimal.f n = some (ba (Lib.itoa n)) := by
  unfold impl_decimal.f
  rw [if_pos ⟨by omega, by omega⟩]; rfl
theorem dataL (l : List (List UInt8)) : (l.map ba).map (fun b => b.data.toList) = l := by
  rw [List.map_map]
  exact (List.map_congr_left (fun x _ => by simp [ba])).trans (List.map_id l)
/-- Every word with a blank ahead. -/
def spT (ws : List (List UInt8)) : List UInt8 := (ws.map fun w => (32 : UInt8) :: w).flatten
theorem spT_cons (w : List UInt8) (ws : List (List UInt8)) : spT (w :: ws) = 32 :: w ++ spT ws := by simp [spT]
theorem spT_app (a b : List (List UInt8)) : spT (a ++ b) = spT a ++ spT b := by simp [spT]
theorem spT_nil : spT [] = [] := rfl
theorem spT_len : ∀ (ws : List (List UInt8)) , (∀ w ∈ ws, w.length ≤ 1000000000002) → (spT ws).length ≤ ws.length * 1000000000003
  | [], _ => by simp [spT]
  | w :: ws, h => by
    have ih := spT_len ws (fun x hx => h x (List.mem_cons_of_mem _ hx))
    have hc := h w (List.mem_cons_self ..)
    rw [spT_cons, List.length_append, List.length_cons, List.length_cons]
    omega
theorem itoas_len {cs : List Int} (h : ∀ c ∈ cs, -1000000000000 ≤ c ∧ c ≤ 1000000000000) : ∀ w ∈ cs.map Lib.itoa, w.length ≤ 1000000000002 := by
  intro w hw
  obtain ⟨c, hc, rfl⟩ := List.mem_map.1 hw
  have := itoa_len c
  have := h c hc
  omega
theorem joinTail_sp (ws : List (List UInt8)) : Lib.joinTail [32] ws = spT ws := by
  unfold Lib.joinTail spT
  rfl
theorem join_sp (w : List UInt8) (ws : List (List UInt8)) : Lib.join (w :: ws) [32] = w ++ spT ws := by
  rw [Lib.join_cons, joinTail_sp]
def namesB : List (List UInt8) := [[], [105, 110, 112, 117, 116], [102, 105, 108, 116, 101, 114], [112, 114, 111, 106, 101, 99, 116], [117, 110, 105, 111, 110], [110, 101, 103, 97, 116, 101], [106, 111, 105, 110], [99, 111, 117, 110, 116], [115, 117, 109], [108, 101, 97, 115, 116], [109, 111, 115, 116], [100, 105, 115, 116, 105, 110, 99, 116], [118, 105, 101, 119]]
def nameB (a : Int) : List UInt8 := namesB.getD a.toNat []
def signB (a : Int) : List UInt8 := if a = 0 then [61] else if a = 1 then [60] else [62]
def restW (x : S36) : List (List UInt8) :=
  if x.f0 = 2 then [Lib.itoa x.f3, signB x.f4, Lib.itoa x.f5] else if x.f0 = 3 then x.f6.map Lib.itoa else if x.f0 = 1 ∨ x.f0 = 6 ∨ (7 ≤ x.f0 ∧ x.f0 ≤ 10) then [Lib.itoa x.f3] else []
def argsW (x : S36) : List (List UInt8) := (readsL x).map Lib.itoa ++ restW x
def lineT (x : S36) : List UInt8 := nameB x.f0 ++ spT (argsW x)
def planT : List S36 → List UInt8
  | [] => []
  | x :: xs => lineT x ++ [10] ++ planT xs
/-- What a node of a plan without fault says lies near. -/
def NodeOk (x : S36) : Prop := (1 ≤ x.f0 ∧ x.f0 ≤ 12) ∧ (∀ c ∈ readsL x, 0 ≤ c ∧ c ≤ 8) ∧ (x.f0 = 1 ∨ x.f0 = 2 ∨ x.f0 = 6 ∨ (7 ≤ x.f0 ∧ x.f0 ≤ 10) → 0 ≤ x.f3 ∧ x.f3 ≤ 8) ∧ (x.f0 = 2 → 0 ≤ x.f4 ∧ x.f4 ≤ 2 ∧ -1000000000 ≤ x.f5 ∧ x.f5 ≤ 1000000000) ∧ (x.f0 = 3 → x.f6.length ≤ 4 ∧ ∀ c ∈ x.f6, 0 ≤ c ∧ c ≤ 8)
theorem nodeOk_of {plan : List S36} (hn : plan.length ≤ 8) (hg : GoodN plan plan.length) {i : Nat} (hi : i < plan.length) : NodeOk (rd_T36 plan (i : Int)) := by
  obtain ⟨h1, h2, h3, h4⟩ := codeN_parts (hg i hi)
  have hgi : GoodN plan i := fun j hj => hg j (by omega)
  have hr : ∀ c ∈ readsL (rd_T36 plan (i : Int)), 0 ≤ c ∧ c ≤ 8 := by
    intro c hc
    obtain ⟨a, e, ha, _⟩ := readOk_in (List.all_eq_true.1 h3 c hc)
    omega
  have hw : ¬ (rd_T36 plan (i : Int)).f0 = 1 → 1 ≤ rd (wsN plan i) (rd_T36 plan (i : Int)).f1 ∧ rd (wsN plan i) (rd_T36 plan (i : Int)).f1 ≤ 4 := by
    intro e
    obtain ⟨a, ea, ha, _⟩ := reads_a h3 e
    have := rd_in hgi ha
    rw [← ea]
    omega
  have hw2 : (rd_T36 plan (i : Int)).f0 = 4 ∨ (rd_T36 plan (i : Int)).f0 = 6 → 1 ≤ rd (wsN plan i) (rd_T36 plan (i : Int)).f2 ∧ rd (wsN plan i) (rd_T36 plan (i : Int)).f2 ≤ 4 := by
    intro e
    obtain ⟨a, ea, ha, _⟩ := reads_b h3 e
    have := rd_in hgi ha
    rw [← ea]
    omega
  generalize rd_T36 plan (i : Int) = x at *
  refine ⟨h1, hr, ?_, ?_, ?_⟩
  · intro e
    unfold faultW at h4
    by_cases e1 : x.f0 = 1
    · rw [if_pos e1] at h4
      split at h4 <;> omega
    · have q := hw e1
      rw [if_neg e1] at h4
      by_cases e2 : x.f0 = 2
      · rw [if_pos e2] at h4
        split at h4 <;> omega
      · rw [if_neg e2, if_neg (by omega), if_neg (by omega)] at h4
        by_cases e6 : x.f0 = 6
        · have q2 := hw2 (.inr e6)
          rw [if_pos e6] at h4
          split at h4 <;> omega
        · rw [if_neg e6] at h4
          by_cases e7 : x.f0 = 7
          · rw [if_pos e7] at h4
            split at h4 <;> omega
          · rw [if_neg e7, if_pos (by omega)] at h4
            split at h4 <;> omega
  · intro e
    unfold faultW at h4
    rw [if_neg (by omega), if_pos e] at h4
    by_cases q : 0 ≤ x.f3 ∧ x.f3 ≤ rd (wsN plan i) x.f1 - 1
    · rw [if_pos q] at h4
      by_cases q2 : 0 ≤ x.f4 ∧ x.f4 ≤ 2
      · rw [if_pos q2] at h4
        split at h4 <;> omega
      · rw [if_neg q2] at h4; omega
    · rw [if_neg q] at h4; omega
  · intro e
    have q := hw (by omega)
    unfold faultW at h4
    rw [if_neg (by omega), if_neg (by omega), if_pos e] at h4
    by_cases q1 : 1 ≤ (x.f6.length : Int) ∧ (x.f6.length : Int) ≤ 4
    · rw [if_pos q1] at h4
      by_cases q2 : x.f6.all (cellOk (rd (wsN plan i) x.f1)) = true
      · refine ⟨by omega, fun c hc => ?_⟩
        have := List.all_eq_true.1 q2 c hc
        simp only [cellOk, decide_eq_true_eq] at this
        omega
      · rw [if_neg q2] at h4; omega
    · rw [if_neg q1] at h4; omega
theorem reads_len (x : S36) : (readsL x).length ≤ 2 := by
  unfold readsL
  split
  · simp
  · split <;> simp
theorem readsW {x : S36} (h : NodeOk x) : ∀ c ∈ readsL x, -1000000000000 ≤ c ∧ c ≤ 1000000000000 := fun c hc => by have := h.2.1 c hc; omega
theorem restW_len {x : S36} (h : NodeOk x) : (restW x).length ≤ 4 ∧ ∀ w ∈ restW x, w.length ≤ 1000000000002 := by
  obtain ⟨h1, h2, h3, h4, h5⟩ := h
  unfold restW
  by_cases e2 : x.f0 = 2
  · rw [if_pos e2]
    have := h3 (.inr (.inl e2))
    have := h4 e2
    have := itoa_len x.f3
    have := itoa_len x.f5
    refine ⟨by simp, fun w hw => ?_⟩
    simp only [List.mem_cons, List.not_mem_nil, or_false] at hw
    rcases hw with rfl | rfl | rfl
    · omega
    · unfold signB
      split
      · simp
      · split <;> simp
    · omega
  · rw [if_neg e2]
    by_cases e3 : x.f0 = 3
    · rw [if_pos e3]
      obtain ⟨q1, q2⟩ := h5 e3
      exact ⟨by rw [List.length_map]; exact q1, itoas_len (fun c hc => by have := q2 c hc; omega)⟩
    · rw [if_neg e3]
      by_cases e : x.f0 = 1 ∨ x.f0 = 6 ∨ (7 ≤ x.f0 ∧ x.f0 ≤ 10)
      · rw [if_pos e]
        have := h3 (by omega)
        have := itoa_len x.f3
        refine ⟨by simp, fun w hw => ?_⟩
        simp only [List.mem_cons, List.not_mem_nil, or_false] at hw
        rw [hw]; omega
      · rw [if_neg e]
        exact ⟨by simp, fun w hw => absurd hw (by simp)⟩
theorem nameB_len (a : Int) : (nameB a).length ≤ 8 := by
  unfold nameB
  rw [List.getD_eq_getElem?_getD]
  have q : ∀ w ∈ namesB, w.length ≤ 8 := by decide
  cases e : namesB[a.toNat]? with
  | none => simp
  | some w => exact q w (List.mem_of_getElem? e)
theorem argsW_len {x : S36} (h : NodeOk x) : (argsW x).length ≤ 6 ∧ ∀ w ∈ argsW x, w.length ≤ 1000000000002 := by
  obtain ⟨q1, q2⟩ := restW_len h
  have q3 := reads_len x
  have q4 := itoas_len (readsW h)
  unfold argsW
  refine ⟨by rw [List.length_append, List.length_map]; omega, fun w hw => ?_⟩
  rcases List.mem_append.1 hw with hw | hw
  · exact q4 w hw
  · exact q2 w hw
theorem lineT_len {x : S36} (h : NodeOk x) : (lineT x).length ≤ 10000000000000 := by
  obtain ⟨q1, q2⟩ := argsW_len h
  have := spT_len _ q2
  have := nameB_len x.f0
  unfold lineT
  rw [List.length_append]
  omega
theorem planT_len : ∀ (l : List S36), (∀ x ∈ l, NodeOk x) → (planT l).length ≤ l.length * 10000000000001
  | [], _ => by simp [planT]
  | x :: xs, h => by
    have ih := planT_len xs (fun y hy => h y (List.mem_cons_of_mem _ hy))
    have := lineT_len (h x (List.mem_cons_self ..))
    unfold planT
    rw [List.length_append, List.length_append, List.length_cons, List.length_cons, List.length_nil]
    omega
theorem sign_eq {a : Int} (h : 0 ≤ a ∧ a ≤ 2) : (⟨#[61, 60, 62]⟩ : ByteArray).extract (a : Int).toNat ((wrap64 (a + 1)) : Int).toNat = ba (signB a) := by
  have : a = 0 ∨ a = 1 ∨ a = 2 := by omega
  have w : wrap64 (a + 1) = a + 1 := Kit.w64 (by omega) (by omega)
  rw [w]
  apply ByteArray.ext
  rw [ByteArray.data_extract]
  rcases this with rfl | rfl | rfl <;> simp [ba, signB]
theorem signB_len (a : Int) : (signB a).length = 1 := by
  unfold signB
  split
  · rfl
  · split <;> rfl
def formatF (plan : List S36) : ByteArray := if planF plan = 0 then ba (planT plan) else ba []
theorem plan_all {plan : List S36} (hn : plan.length ≤ 8) (hg : GoodN plan plan.length) : ∀ x ∈ plan, NodeOk x := by
  intro x hx
  obtain ⟨i, hi, rfl⟩ := List.mem_iff_getElem.1 hx
  rw [← rdN_at hi]
  exact nodeOk_of hn hg hi
theorem split_words : strings_Split.f (⟨#[105, 110, 112, 117, 116, 32, 102, 105, 108, 116, 101, 114, 32, 112, 114, 111, 106, 101, 99, 116, 32, 117, 110, 105, 111, 110, 32, 110, 101, 103, 97, 116, 101, 32, 106, 111, 105, 110, 32, 99, 111, 117, 110, 116, 32, 115, 117, 109, 32, 108, 101, 97, 115, 116, 32, 109, 111, 115, 116, 32, 100, 105, 115, 116, 105, 110, 99, 116, 32, 118, 105, 101, 119]⟩ : ByteArray) (⟨#[32]⟩ : ByteArray) = some ((namesB.drop 1).map ba) := by
  unfold strings_Split.f
  rw [if_pos ⟨by decide, by decide⟩]
  have e : ∀ l : List ByteArray, l = (l.map (·.data.toList)).map ba := by
    intro l
    rw [List.map_map]
    exact ((List.map_congr_left (fun x _ => by simp [ba])).trans (List.map_id l)).symm
  rw [e (Lib.splitB _ _ _ _), Lib.splitB_data]
  refine congrArg some (congrArg (List.map ba) ?_)
  kernel_rfl
theorem names1_len : (((namesB.drop 1).map ba).length : Int) = 12 := rfl
theorem name_at {a : Int} (h : 1 ≤ a ∧ a ≤ 12) : rdOf ByteArray.empty ((namesB.drop 1).map ba) (a - 1) = ba (nameB a) := by
  rcases op_cases h with rfl | rfl | rfl | rfl | rfl | rfl | rfl | rfl | rfl | rfl | rfl | rfl <;> rfl
theorem implWords_l1 (cs : List Int) (hb : ∀ c ∈ cs, -1000000000000 ≤ c ∧ c ≤ 1000000000000) (hn : cs.length ≤ 1000) : ∀ (d i : Nat) (acc : List (List UInt8)), i + d = cs.length → acc.length ≤ 1000 + i → Ev (fun k => impl_Node_wordsOf.l1 k (acc.map ba) cs (cs.length : Int) (i : Int)) ((acc ++ (cs.drop i).map Lib.itoa).map ba) := by
  intro d
  induction d with
  | zero =>
    intro i acc hd _
    refine Kit.Ev.up ?_
    simp only [impl_Node_wordsOf.l1]
    refine Kit.Ev.neg (by omega) (Kit.Ev.const ?_)
    rw [List.drop_eq_nil_of_le (by omega)]
    simp
  | succ d ih =>
    intro i acc hd hl
    have hi : i < cs.length := by omega
    have hc := hb _ (List.getElem_mem hi)
    rw [List.drop_eq_getElem_cons hi, List.map_cons]
    refine Kit.Ev.up ?_
    simp only [impl_Node_wordsOf.l1, Kit.rd_at hi]
    refine Kit.Ev.pos (by omega) (Kit.Ev.pos (by omega) (Kit.Ev.pos (by omega) (Kit.Ev.call (dec_eq _ hc.1 hc.2) (Kit.Ev.pos (by rw [List.length_map]; omega) ?_))))
    rw [w64n (n := cs.length) (by omega) (by omega)]
    have e : acc.map ba ++ [ba (Lib.itoa cs[i])] = (acc ++ [Lib.itoa cs[i]]).map ba := by rw [List.map_append]; rfl
    rw [e]
    refine (ih (i + 1) _ (by omega) (by rw [List.length_append]; simp only [List.length_cons, List.length_nil]; omega)).eq ?_
    congr 1
    simp
theorem implWords_j1 {x : S36} (h : NodeOk x) (acc : List (List UInt8)) (ha : acc.length ≤ 1000) (b : Bool) (hb : b = decide (x.f0 = 1 ∨ x.f0 = 6 ∨ (7 ≤ x.f0 ∧ x.f0 ≤ 10))) : Ev (fun k => impl_Node_wordsOf.j1 k (acc.map ba) x.f0 b x.f0 x.f1 x.f2 x.f3 x.f4 x.f5 x.f6) ((acc ++ restW x).map ba) := by
  obtain ⟨h1, h2, h3, h4, h5⟩ := h
  refine Kit.Ev.up ?_
  simp only [impl_Node_wordsOf.j1]
  unfold restW
  by_cases e : x.f0 = 1 ∨ x.f0 = 6 ∨ (7 ≤ x.f0 ∧ x.f0 ≤ 10)
  · have q3 := h3 (by omega)
    rw [if_neg (by omega), if_neg (by omega), if_pos e]
    refine Kit.Ev.pos (by rw [hb]; exact decide_eq_true e) (Kit.Ev.call (dec_eq _ (by omega) (by omega)) (Kit.Ev.pos (by rw [List.length_map]; omega) (Kit.Ev.const ?_)))
    rw [List.map_append]; rfl
  · refine Kit.Ev.neg (by rw [hb]; simpa using e) (Kit.Ev.ite (fun e2 => ?_) (fun e2 => ?_))
    · have q3 := h3 (by omega)
      have q4 := h4 e2
      have w4 : wrap64 (x.f4 + 1) = x.f4 + 1 := Kit.w64 (by omega) (by omega)
      have se := sign_eq (a := x.f4) (by omega)
      rw [if_pos e2]
      refine Kit.Ev.call (dec_eq _ (by omega) (by omega)) (Kit.Ev.pos (by omega) (Kit.Ev.pos (by omega) (Kit.Ev.pos (by omega) (Kit.Ev.call (dec_eq _ (by omega) (by omega)) ?_))))
      simp only [se, Option.bind_some]
      refine Kit.Ev.pos (by rw [List.length_map]; simp only [List.length_cons, List.length_nil]; omega) (Kit.Ev.const ?_)
      rw [List.map_append]; rfl
    · rw [if_neg e2]
      refine Kit.Ev.ite (fun e3 => ?_) (fun e3 => ?_)
      · obtain ⟨q5, q6⟩ := h5 e3
        rw [if_pos e3]
        exact implWords_l1 x.f6 (fun c hc => by have := q6 c hc; omega) (by omega) x.f6.length 0 acc (by omega) (by omega)
      · rw [if_neg e3, if_neg e]
        exact Kit.Ev.const (by simp)
theorem implWords_l0 {x : S36} (h : NodeOk x) (cs : List Int) (hb : ∀ c ∈ cs, -1000000000000 ≤ c ∧ c ≤ 1000000000000) (hn : cs.length ≤ 100) : ∀ (d i : Nat) (acc : List (List UInt8)), i + d = cs.length → acc.length ≤ 100 + i → Ev (fun k => impl_Node_wordsOf.l0 k (acc.map ba) cs (cs.length : Int) (i : Int) x.f0 x.f1 x.f2 x.f3 x.f4 x.f5 x.f6) ((acc ++ (cs.drop i).map Lib.itoa ++ restW x).map ba) := by
  intro d
  induction d with
  | zero =>
    intro i acc hd hl
    have h1 := h.1
    have J : ∀ b : Bool, b = decide (x.f0 = 1 ∨ x.f0 = 6 ∨ (7 ≤ x.f0 ∧ x.f0 ≤ 10)) → Ev (fun k => impl_Node_wordsOf.j1 k (acc.map ba) x.f0 b x.f0 x.f1 x.f2 x.f3 x.f4 x.f5 x.f6) ((acc ++ (cs.drop i).map Lib.itoa ++ restW x).map ba) := by
      intro b eb
      rw [List.drop_eq_nil_of_le (by omega), List.map_nil, List.append_nil]
      exact implWords_j1 h acc (by omega) b eb
    refine Kit.Ev.up ?_
    simp only [impl_Node_wordsOf.l0]
    refine Kit.Ev.neg (by omega) (Kit.Ev.ite (fun e => J _ (by rw [e]; rfl)) (fun e1 => Kit.Ev.ite (fun e => J _ (by rw [e]; rfl)) (fun e2 => Kit.Ev.ite (fun e => J _ (by rw [e]; rfl)) (fun e3 => Kit.Ev.ite (fun e => J _ (by rw [e]; rfl)) (fun e4 => Kit.Ev.ite (fun e => J _ (by rw [e]; rfl)) (fun e5 => J _ ?_))))))
    by_cases e10 : x.f0 = 10
    · rw [e10]; rfl
    · rw [show (x.f0 == 10) = false by simpa using e10]
      exact (decide_eq_false (by omega)).symm
  | succ d ih =>
    intro i acc hd hl
    have hi : i < cs.length := by omega
    have hc := hb _ (List.getElem_mem hi)
    rw [List.drop_eq_getElem_cons hi, List.map_cons]
    refine Kit.Ev.up ?_
    simp only [impl_Node_wordsOf.l0, Kit.rd_at hi]
    refine Kit.Ev.pos (by omega) (Kit.Ev.pos (by omega) (Kit.Ev.pos (by omega) (Kit.Ev.call (dec_eq _ hc.1 hc.2) (Kit.Ev.pos (by rw [List.length_map]; omega) ?_))))
    rw [w64n (n := cs.length) (by omega) (by omega)]
    have e : acc.map ba ++ [ba (Lib.itoa cs[i])] = (acc ++ [Lib.itoa cs[i]]).map ba := by rw [List.map_append]; rfl
    rw [e]
    refine (ih (i + 1) _ (by omega) (by rw [List.length_append]; simp only [List.length_cons, List.length_nil]; omega)).eq ?_
    congr 1
    simp
theorem implWords_ev {x : S36} (h : NodeOk x) : Ev (fun k => impl_Node_wordsOf.f k x.f0 x.f1 x.f2 x.f3 x.f4 x.f5 x.f6) ((nameB x.f0 :: argsW x).map ba) := by
  have h1 := h.1
  have w1 : wrap64 (x.f0 - 1) = x.f0 - 1 := Kit.w64 (by omega) (by omega)
  unfold impl_Node_wordsOf.f
  rw [split_words]
  simp only [Option.bind_some, w1, names1_len, name_at h1]
  refine Kit.Ev.pos (by omega) (Kit.Ev.pos (by omega) (Kit.Ev.call (implReads_eq x) ?_))
  refine (implWords_l0 h (readsL x) (readsW h) (by have := reads_len x; omega) (readsL x).length 0 [nameB x.f0] (by omega) (by simp)).eq ?_
  congr 1
theorem implFormat_l0 {plan : List S36} (hn : plan.length ≤ 8) (hg : GoodN plan plan.length) : ∀ (d i : Nat) (acc : List UInt8), i + d = plan.length → acc.length + (planT (plan.drop i)).length ≤ 4000000000000000000 → Ev (fun k => impl_formatPlan.l0 k (ba acc) plan (plan.length : Int) (i : Int)) (ba (acc ++ planT (plan.drop i))) := by
  intro d
  induction d with
  | zero =>
    intro i acc hd _
    refine Kit.Ev.up ?_
    simp only [impl_formatPlan.l0]
    refine Kit.Ev.neg (by omega) (Kit.Ev.const ?_)
    rw [List.drop_eq_nil_of_le (by omega)]
    simp [planT]
  | succ d ih =>
    intro i acc hd hl
    have hok := nodeOk_of hn hg (i := i) (by omega)
    have ha := argsW_len hok
    have hll := lineT_len hok
    rw [rdN_drop (xs := plan) (i := i) (by omega)] at hl ⊢
    unfold planT at hl ⊢
    simp only [List.length_append, List.length_cons, List.length_nil] at hl
    refine Kit.Ev.up ?_
    simp only [impl_formatPlan.l0]
    refine Kit.Ev.pos (by omega) (Kit.Ev.pos (by omega) (Kit.Ev.pos (by omega) (Kit.Ev.then (implWords_ev hok) ?_)))
    have ej : strings_Join.f ((nameB (rd_T36 plan (i : Int)).f0 :: argsW (rd_T36 plan (i : Int))).map ba) (⟨#[32]⟩ : ByteArray) = some (ba (lineT (rd_T36 plan (i : Int)))) := by
      have es : (⟨#[32]⟩ : ByteArray).data.toList = [32] := rfl
      unfold strings_Join.f
      rw [dataL, es, join_sp]
      rw [if_pos ⟨by rw [List.length_map, List.length_cons]; omega, by unfold lineT at hll; omega⟩]
      rfl
    refine Kit.Ev.call ej ?_
    have e3 : ba (lineT (rd_T36 plan (i : Int))) ++ (⟨#[10]⟩ : ByteArray) = ba (lineT (rd_T36 plan (i : Int)) ++ [10]) := ba_app _ [10]
    simp only [e3, ba_app]
    refine Kit.Ev.pos (by simp only [ba_size]; omega) (Kit.Ev.pos (by simp only [ba_size, List.length_append, List.length_cons, List.length_nil]; omega) ?_)
    rw [w64n (n := plan.length) (by omega) (by omega)]
    refine (ih (i + 1) _ (by omega) (by simp only [List.length_append, List.length_cons, List.length_nil]; omega)).eq ?_
    congr 1
    simp
theorem implFormat_ev {plan : List S36} (hx : FineN plan) : Ev (fun k => impl_FormatPlan.f k plan) (formatF plan) := by
  unfold impl_FormatPlan.f formatF
  refine Kit.Ev.then (implPlan_ev hx) (Kit.Ev.ite2 (fun h => ?_) (fun _ => Kit.Ev.const rfl))
  obtain ⟨h1, hg⟩ := planF_good h
  have hl := planT_len plan (plan_all h1.2 hg)
  have F : Ev (fun k => impl_formatPlan.f k plan) (ba (planT plan)) := by
    unfold impl_formatPlan.f
    exact implFormat_l0 h1.2 hg plan.length 0 [] (by omega) (by simp only [List.length_nil, List.drop_zero]; omega)
  exact Kit.Ev.then F (Kit.Ev.const rfl)
/-- A plan as it is drawn: right, no longer than n, no more than three cells in a node. -/
structure PlanD (n : Nat) (l : List S36) : Prop where
  good : GoodN l l.length
  pos : 1 ≤ l.length
  len : l.length ≤ n
  few : ∀ x ∈ l, x.f6.length ≤ 3
theorem codeN_input {l : List S36} {i : Nat} {c : Int} (h : rd_T36 l (i : Int) = ⟨1, 0, 0, c, 0, 0, []⟩) (hc : 1 ≤ c ∧ c ≤ 3) : codeN l i = 0 := by
  rw [codeN_eq, h]
  simp [named, namedB, readsL, faultW, hc.1, hc.2]
theorem wrap_up {v : Int} (h : 0 ≤ v ∧ v < 2) : 1 ≤ wrap64 (1 + v) ∧ wrap64 (1 + v) ≤ 3 := by
  rw [Kit.w64 (by omega) (by omega)]; omega
theorem plan_one {c : Int} (hc : 1 ≤ c ∧ c ≤ 3) : PlanD 7 [(⟨1, 0, 0, c, 0, 0, []⟩ : S36)] := by
  refine ⟨fun j hj => ?_, by simp, by simp, fun x hx => ?_⟩
  · have e : j = 0 := by simp only [List.length_cons, List.length_nil] at hj; omega
    subst e
    exact codeN_input (c := c) (by simp [rd_T36]) hc
  · rw [List.mem_singleton.mp hx]; simp
theorem plan_two {c d : Int} (hc : 1 ≤ c ∧ c ≤ 3) (hd : 1 ≤ d ∧ d ≤ 3) : PlanD 7 ([(⟨1, 0, 0, c, 0, 0, []⟩ : S36)] ++ [(⟨1, 0, 0, d, 0, 0, []⟩ : S36)]) := by
  refine ⟨fun j hj => ?_, by simp, by simp, fun x hx => ?_⟩
  · have e : j = 0 ∨ j = 1 := by simp only [List.length_append, List.length_cons, List.length_nil] at hj; omega
    rcases e with e | e <;> subst e
    · exact codeN_input (c := c) (by simp [rd_T36]) hc
    · exact codeN_input (c := d) (by simp [rd_T36]) hd
  · simp only [List.mem_append, List.mem_singleton] at hx
    rcases hx with h | h <;> rw [h] <;> simp
theorem growCells_ev {c : List Int} (hc : BytesOk c) (w a0 a1 a2 a3 a4 a5 : Int) : ∀ (n : Nat) (t : Int) (acc : List Int), acc.length + n ≤ 100 → 0 ≤ t → t + n ≤ 999999999000 →
    ∃ r : List Int, Ev (fun k => spec_l3Grow.l0 k w (n : Int) c t a0 a1 a2 a3 a4 a5 acc) (a0, a1, a2, a3, a4, a5, r, t + n) ∧ r.length = acc.length + n := by
  intro n
  induction n with
  | zero =>
    intro t acc _ _ _
    refine ⟨acc, Kit.Ev.up ?_, by omega⟩
    simp only [spec_l3Grow.l0]
    exact Kit.Ev.neg (by omega) (Kit.Ev.const (by simp))
  | succ n ih =>
    intro t acc hn h0 h1
    obtain ⟨v, e, _⟩ := next_some hc h0 (by omega) w
    obtain ⟨r, H, hr⟩ := ih (t + 1) (acc ++ [v]) (by rw [List.length_append]; simp only [List.length_cons, List.length_nil]; omega) (by omega) (by omega)
    refine ⟨r, Kit.Ev.up ?_, by rw [hr, List.length_append]; simp only [List.length_cons, List.length_nil]; omega⟩
    simp only [spec_l3Grow.l0]
    refine Kit.Ev.pos (by omega) (Kit.Ev.call e (Kit.Ev.pos (by omega) ?_))
    have e1 : wrap64 (((n + 1 : Nat) : Int) - 1) = (n : Int) := by rw [Kit.w64 (by omega) (by omega)]; omega
    rw [e1]
    exact H.eq (by congr 7; omega)
theorem grow_some {c : List Int} (hc : BytesOk c) {t : Int} (h0 : 0 ≤ t) (h1 : t ≤ 999999000000) {l : List S36} {n : Nat} (hl : PlanD n l) :
    ∃ (x : S36) (t' : Int), Ev (fun k => spec_l3Grow.f k c t l) (x.f0, x.f1, x.f2, x.f3, x.f4, x.f5, x.f6, t') ∧ x.f6.length ≤ 3 ∧ t ≤ t' ∧ t' ≤ t + 10 := by
  unfold spec_l3Grow.f
  have hp := hl.pos
  obtain ⟨v, e1, _⟩ := next_some hc h0 (by omega) 11
  obtain ⟨a, e2, ha, _⟩ := next_some hc (t := t + 1) (by omega) (by omega) (l.length : Int)
  obtain ⟨a0, a1⟩ := ha (by omega)
  obtain ⟨j, rfl⟩ := Int.eq_ofNat_of_zero_le a0
  have ew := specWidthN_ev (Nat.le_refl _) hl.good (j + 1) j (by omega) (by omega)
  generalize wOf l j = w at ew
  by_cases c2 : (wrap64 (2 + v)) = 2
  · obtain ⟨x3, e3, _⟩ := next_some hc (t := t + 1 + 1) (by omega) (by omega) w
    obtain ⟨x4, e4, _⟩ := next_some hc (t := t + 1 + 1 + 1) (by omega) (by omega) 3
    obtain ⟨x5, e5, _⟩ := next_some hc (t := t + 1 + 1 + 1 + 1) (by omega) (by omega) 4
    exact ⟨⟨(wrap64 (2 + v)), (j : Int), 0, x3, x4, x5, []⟩, _, Kit.Ev.call e1 (Kit.Ev.call e2 (Kit.Ev.then ew (Kit.Ev.pos c2 (Kit.Ev.call e3 (Kit.Ev.call e4 (Kit.Ev.call e5 (Kit.Ev.const rfl))))))), by simp, by omega, by omega⟩
  by_cases c3 : (wrap64 (2 + v)) = 3
  · obtain ⟨x3, e3, hx, _⟩ := next_some hc (t := t + 1 + 1) (by omega) (by omega) 3
    obtain ⟨x0, x1⟩ := hx (by omega)
    obtain ⟨m, rfl⟩ := Int.eq_ofNat_of_zero_le x0
    obtain ⟨r, H, hr⟩ := growCells_ev hc w (wrap64 (2 + v)) (j : Int) 0 0 0 0 (m + 1) (t + 1 + 1 + 1) [] (by simp only [List.length_nil]; omega) (by omega) (by omega)
    have e : ((m + 1 : Nat) : Int) = wrap64 (1 + (m : Int)) := by rw [Kit.w64 (by omega) (by omega)]; omega
    rw [e] at H
    exact ⟨⟨(wrap64 (2 + v)), (j : Int), 0, 0, 0, 0, r⟩, _, Kit.Ev.call e1 (Kit.Ev.call e2 (Kit.Ev.then ew (Kit.Ev.neg c2 (Kit.Ev.pos c3 (Kit.Ev.call e3 H))))), by rw [hr]; simp only [List.length_nil]; omega, by omega, by omega⟩
  by_cases c4 : (wrap64 (2 + v)) = 4
  · obtain ⟨x3, e3, _⟩ := next_some hc (t := t + 1 + 1) (by omega) (by omega) (l.length : Int)
    exact ⟨⟨(wrap64 (2 + v)), (j : Int), x3, 0, 0, 0, []⟩, _, Kit.Ev.call e1 (Kit.Ev.call e2 (Kit.Ev.then ew (Kit.Ev.neg c2 (Kit.Ev.neg c3 (Kit.Ev.pos c4 (Kit.Ev.call e3 (Kit.Ev.const rfl))))))), by simp, by omega, by omega⟩
  by_cases c6 : (wrap64 (2 + v)) = 6
  · obtain ⟨x3, e3, _⟩ := next_some hc (t := t + 1 + 1) (by omega) (by omega) (l.length : Int)
    obtain ⟨x4, e4, _⟩ := next_some hc (t := t + 1 + 1 + 1) (by omega) (by omega) w
    exact ⟨⟨(wrap64 (2 + v)), (j : Int), x3, wrap64 (1 + x4), 0, 0, []⟩, _, Kit.Ev.call e1 (Kit.Ev.call e2 (Kit.Ev.then ew (Kit.Ev.neg c2 (Kit.Ev.neg c3 (Kit.Ev.neg c4 (Kit.Ev.pos c6 (Kit.Ev.call e3 (Kit.Ev.call e4 (Kit.Ev.const rfl))))))))), by simp, by omega, by omega⟩
  by_cases c7 : (wrap64 (2 + v)) = 7
  · obtain ⟨x3, e3, _⟩ := next_some hc (t := t + 1 + 1) (by omega) (by omega) (wrap64 (w + 1))
    exact ⟨⟨(wrap64 (2 + v)), (j : Int), 0, x3, 0, 0, []⟩, _, Kit.Ev.call e1 (Kit.Ev.call e2 (Kit.Ev.then ew (Kit.Ev.neg c2 (Kit.Ev.neg c3 (Kit.Ev.neg c4 (Kit.Ev.neg c6 (Kit.Ev.pos c7 (Kit.Ev.call e3 (Kit.Ev.const rfl))))))))), by simp, by omega, by omega⟩
  obtain ⟨x3, e3, _⟩ := next_some hc (t := t + 1 + 1) (by omega) (by omega) w
  by_cases c8 : (wrap64 (2 + v)) = 8
  · exact ⟨⟨(wrap64 (2 + v)), (j : Int), 0, x3, 0, 0, []⟩, _, Kit.Ev.call e1 (Kit.Ev.call e2 (Kit.Ev.then ew (Kit.Ev.neg c2 (Kit.Ev.neg c3 (Kit.Ev.neg c4 (Kit.Ev.neg c6 (Kit.Ev.neg c7 (Kit.Ev.pos c8 (Kit.Ev.call e3 (Kit.Ev.const rfl)))))))))), by simp, by omega, by omega⟩
  by_cases c9 : (wrap64 (2 + v)) = 9
  · exact ⟨⟨(wrap64 (2 + v)), (j : Int), 0, x3, 0, 0, []⟩, _, Kit.Ev.call e1 (Kit.Ev.call e2 (Kit.Ev.then ew (Kit.Ev.neg c2 (Kit.Ev.neg c3 (Kit.Ev.neg c4 (Kit.Ev.neg c6 (Kit.Ev.neg c7 (Kit.Ev.neg c8 (Kit.Ev.pos c9 (Kit.Ev.call e3 (Kit.Ev.const rfl))))))))))), by simp, by omega, by omega⟩
  by_cases c10 : (wrap64 (2 + v)) = 10
  · exact ⟨⟨(wrap64 (2 + v)), (j : Int), 0, x3, 0, 0, []⟩, _, Kit.Ev.call e1 (Kit.Ev.call e2 (Kit.Ev.then ew (Kit.Ev.neg c2 (Kit.Ev.neg c3 (Kit.Ev.neg c4 (Kit.Ev.neg c6 (Kit.Ev.neg c7 (Kit.Ev.neg c8 (Kit.Ev.neg c9 (Kit.Ev.pos c10 (Kit.Ev.call e3 (Kit.Ev.const rfl)))))))))))), by simp, by omega, by omega⟩
  exact ⟨⟨(wrap64 (2 + v)), (j : Int), 0, 0, 0, 0, []⟩, t + 1 + 1, Kit.Ev.call e1 (Kit.Ev.call e2 (Kit.Ev.then ew (Kit.Ev.neg c2 (Kit.Ev.neg c3 (Kit.Ev.neg c4 (Kit.Ev.neg c6 (Kit.Ev.neg c7 (Kit.Ev.neg c8 (Kit.Ev.neg c9 (Kit.Ev.neg c10 (Kit.Ev.const rfl))))))))))), by simp, by omega, by omega⟩
theorem drawPlan_l0 {c : List Int} (hc : BytesOk c) : ∀ (n : Nat) (t : Int) (l : List S36), PlanD 7 l → 0 ≤ t → t + 10 * n ≤ 999999000000 → n ≤ 100 →
    ∃ (r : List S36) (t' : Int), Ev (fun k => spec_l3Draw.l0 k l (n : Int) c t) (r, t') ∧ (2 ≤ r.length ∧ r.length ≤ 8 ∧ ∀ x ∈ r, x.f6.length ≤ 3) ∧ t ≤ t' ∧ t' ≤ t + 10 * n := by
  have last : ∀ (i t : Int) (l : List S36), PlanD 7 l → ∃ r : List S36, Ev (fun k => spec_l3Draw.j2 k l i false c t) (r, t) ∧ (2 ≤ r.length ∧ r.length ≤ 8 ∧ ∀ x ∈ r, x.f6.length ≤ 3) := by
    intro i t l hl
    have h1 := hl.pos
    have h2 := hl.len
    refine ⟨l ++ [(⟨12, wrap64 ((l.length : Int) - 1), 0, 0, 0, 0, ([] : List Int)⟩ : S36)], Kit.Ev.up ?_, ?_⟩
    · simp only [spec_l3Draw.j2]
      exact Kit.Ev.neg (by simp) (Kit.Ev.pos (by omega) (Kit.Ev.const rfl))
    · refine ⟨by simp; omega, by simp; omega, fun x hx => ?_⟩
      rcases List.mem_append.mp hx with h | h
      · exact hl.few x h
      · rw [List.mem_singleton.mp h]; simp
  intro n
  induction n with
  | zero =>
    intro t l hl _ _ _
    obtain ⟨r, H, hr⟩ := last 0 t l hl
    refine ⟨r, t, Kit.Ev.up ?_, hr, by omega, by omega⟩
    simp only [spec_l3Draw.l0]
    exact Kit.Ev.neg (by omega) H
  | succ n ih =>
    intro t l hl h0 h1 hn
    have p1 := hl.pos
    have p2 := hl.len
    by_cases h7 : (l.length : Int) < 7
    · obtain ⟨x, u, H, hx, u0, u1⟩ := grow_some hc h0 (by omega) hl
      obtain ⟨r, t', Hr, hr, q0, q1⟩ := ih u l hl (by omega) (by omega) (by omega)
      have e1 : wrap64 (((n + 1 : Nat) : Int) - 1) = (n : Int) := by rw [Kit.w64 (by omega) (by omega)]; omega
      have el : (l ++ [(⟨x.f0, x.f1, x.f2, x.f3, x.f4, x.f5, x.f6⟩ : S36)]).length = l.length + 1 := by simp
      have e2 : wrap64 (((l ++ [(⟨x.f0, x.f1, x.f2, x.f3, x.f4, x.f5, x.f6⟩ : S36)]).length : Int) - 1) = (l.length : Int) := by rw [el, Kit.w64 (by omega) (by omega)]; omega
      have fx : FineN (l ++ [(⟨x.f0, x.f1, x.f2, x.f3, x.f4, x.f5, x.f6⟩ : S36)]) := by
        refine ⟨by omega, fun y hy => ?_⟩
        rcases List.mem_append.mp hy with h | h
        · have := hl.few y h; omega
        · rw [List.mem_singleton.mp h]; simp only; omega
      by_cases c12 : (rd_T36 (l ++ [(⟨x.f0, x.f1, x.f2, x.f3, x.f4, x.f5, x.f6⟩ : S36)]) (l.length : Int)).f0 = 12
      · refine ⟨r, t', Kit.Ev.up ?_, hr, by omega, by omega⟩
        simp only [spec_l3Draw.l0]
        refine Kit.Ev.pos (by omega) (Kit.Ev.up ?_)
        simp only [spec_l3Draw.j2, list_copy.f]
        refine Kit.Ev.pos (decide_eq_true h7) (Kit.Ev.call (if_pos (by omega)) (Kit.Ev.then H (Kit.Ev.pos (by omega) (Kit.Ev.call rfl ?_))))
        simp only [e2, e1]
        exact Kit.Ev.pos (by omega) (Kit.Ev.pos (by rw [el]; omega) (Kit.Ev.pos c12 Hr))
      by_cases cp : planF (l ++ [(⟨x.f0, x.f1, x.f2, x.f3, x.f4, x.f5, x.f6⟩ : S36)]) = 0
      · have hl2 : PlanD 7 (l ++ [(⟨x.f0, x.f1, x.f2, x.f3, x.f4, x.f5, x.f6⟩ : S36)]) := by
          refine ⟨(planF_good cp).2, by omega, by omega, fun y hy => ?_⟩
          rcases List.mem_append.mp hy with h | h
          · exact hl.few y h
          · rw [List.mem_singleton.mp h]; exact hx
        obtain ⟨r, t', Hr, hr, q0, q1⟩ := ih u _ hl2 (by omega) (by omega) (by omega)
        refine ⟨r, t', Kit.Ev.up ?_, hr, by omega, by omega⟩
        simp only [spec_l3Draw.l0]
        refine Kit.Ev.pos (by omega) (Kit.Ev.up ?_)
        simp only [spec_l3Draw.j2, list_copy.f]
        refine Kit.Ev.pos (decide_eq_true h7) (Kit.Ev.call (if_pos (by omega)) (Kit.Ev.then H (Kit.Ev.pos (by omega) (Kit.Ev.call rfl ?_))))
        simp only [e2, e1]
        exact Kit.Ev.pos (by omega) (Kit.Ev.pos (by rw [el]; omega) (Kit.Ev.neg c12 (Kit.Ev.then (specPlan_ev fx) (Kit.Ev.pos cp Hr))))
      · refine ⟨r, t', Kit.Ev.up ?_, hr, by omega, by omega⟩
        simp only [spec_l3Draw.l0]
        refine Kit.Ev.pos (by omega) (Kit.Ev.up ?_)
        simp only [spec_l3Draw.j2, list_copy.f]
        refine Kit.Ev.pos (decide_eq_true h7) (Kit.Ev.call (if_pos (by omega)) (Kit.Ev.then H (Kit.Ev.pos (by omega) (Kit.Ev.call rfl ?_))))
        simp only [e2, e1]
        exact Kit.Ev.pos (by omega) (Kit.Ev.pos (by rw [el]; omega) (Kit.Ev.neg c12 (Kit.Ev.then (specPlan_ev fx) (Kit.Ev.neg cp Hr))))
    · obtain ⟨r, H, hr⟩ := last ((n + 1 : Nat) : Int) t l hl
      refine ⟨r, t, Kit.Ev.up ?_, hr, by omega, by omega⟩
      simp only [spec_l3Draw.l0]
      refine Kit.Ev.pos (by omega) ?_
      rw [decide_eq_false h7]
      exact H
theorem drawPlan_some {c : List Int} (hc : BytesOk c) {t : Int} (h0 : 0 ≤ t) (h1 : t ≤ 999990000000) :
    ∃ (r : List S36) (t' : Int), Ev (fun k => spec_l3Draw.f k c t) (r, t') ∧ (2 ≤ r.length ∧ r.length ≤ 8 ∧ ∀ x ∈ r, x.f6.length ≤ 3) ∧ t ≤ t' ∧ t' ≤ t + 100 := by
  have j0 : ∀ (u : Int) (l : List S36), PlanD 7 l → t ≤ u → u ≤ t + 5 → ∃ (r : List S36) (t' : Int), Ev (fun k => spec_l3Draw.j0 k l c u) (r, t') ∧ (2 ≤ r.length ∧ r.length ≤ 8 ∧ ∀ x ∈ r, x.f6.length ≤ 3) ∧ t ≤ t' ∧ t' ≤ t + 100 := by
    intro u l hl hu hu'
    obtain ⟨v, e, hv, _⟩ := next_some hc (t := u) (by omega) (by omega) 6
    obtain ⟨v0, v1⟩ := hv (by omega)
    obtain ⟨m, rfl⟩ := Int.eq_ofNat_of_zero_le v0
    obtain ⟨r, t', H, hr, q0, q1⟩ := drawPlan_l0 hc m (u + 1) l hl (by omega) (by omega) (by omega)
    refine ⟨r, t', Kit.Ev.up ?_, hr, by omega, by omega⟩
    simp only [spec_l3Draw.j0]
    exact Kit.Ev.call e H
  unfold spec_l3Draw.f
  obtain ⟨v, e1, hv, _⟩ := next_some hc h0 (by omega) 2
  have w1 := wrap_up (hv (by omega))
  obtain ⟨b, e2⟩ := chance_some hc (t := t + 1) (by omega) (by omega) 2
  by_cases hb : b = true
  · obtain ⟨v2, e3, hv2, _⟩ := next_some hc (t := t + 1 + 1) (by omega) (by omega) 2
    have w2 := wrap_up (hv2 (by omega))
    obtain ⟨r, t', H, q⟩ := j0 (t + 1 + 1 + 1) _ (plan_two w1 w2) (by omega) (by omega)
    exact ⟨r, t', Kit.Ev.call e1 (Kit.Ev.call rfl (Kit.Ev.call e2 (Kit.Ev.pos hb (Kit.Ev.call e3 (Kit.Ev.pos (by simp) H))))), q⟩
  · obtain ⟨r, t', H, q⟩ := j0 (t + 1 + 1) _ (plan_one w1) (by omega) (by omega)
    exact ⟨r, t', Kit.Ev.call e1 (Kit.Ev.call rfl (Kit.Ev.call e2 (Kit.Ev.neg hb H))), q⟩
def FewP (l : List S36) : Prop := l.length ≤ 9 ∧ ∀ x ∈ l, x.f6.length ≤ 4
theorem FewP.fine {l : List S36} (h : FewP l) : FineN l := ⟨by have := h.1; omega, fun x hx => by have := h.2 x hx; omega⟩
theorem FewP.put {l : List S36} (h : FewP l) (i : Nat) {x : S36} (hx : x.f6.length ≤ 4) : FewP (l.set i x) := by
  refine ⟨by rw [List.length_set]; exact h.1, fun y hy => ?_⟩
  rcases List.mem_or_eq_of_mem_set hy with g | g
  · exact h.2 y g
  · rw [g]; exact hx
theorem bentPlan_some {c : List Int} (hc : BytesOk c) {t : Int} (h0 : 0 ≤ t) (h1 : t ≤ 999980000000) :
    ∃ (r : List S36) (t' : Int), Ev (fun k => spec_l3Bent.f k c t) (r, t') ∧ FewP r ∧ t ≤ t' ∧ t' ≤ t + 200 := by
  unfold spec_l3Bent.f
  obtain ⟨l, t1, H, ⟨l2, l8, lc⟩, p0, p1⟩ := drawPlan_some hc h0 (by omega)
  obtain ⟨i, e1, hi, _⟩ := next_some hc (t := t1) (by omega) (by omega) (l.length : Int)
  obtain ⟨i0, i1⟩ := hi (by omega)
  obtain ⟨op, e2, _⟩ := next_some hc (t := t1 + 1) (by omega) (by omega) 24
  have fl : FewP l := ⟨by omega, fun x hx => by have := lc x hx; omega⟩
  have f3 : (rd_T36 l i).f6.length ≤ 3 := by
    obtain ⟨j, rfl⟩ := Int.eq_ofNat_of_zero_le i0
    exact lc _ (rdN_mem (by omega))
  have f4 : (rd_T36 l i).f6.length ≤ 4 := by omega
  by_cases c0 : op = 0
  · obtain ⟨v, e3, _⟩ := next_some hc (t := t1 + 1 + 1) (by omega) (by omega) 13
    obtain ⟨x, e4, _⟩ := pick_some hc (t := t1 + 1 + 1 + 1) (by omega) (by omega) ([0, 13, v] : List Int) (by simp)
    exact ⟨_, _, Kit.Ev.then H (Kit.Ev.call e1 (Kit.Ev.call e2 (Kit.Ev.pos c0 (Kit.Ev.call e3 (Kit.Ev.call e4 (Kit.Ev.pos i0 (Kit.Ev.pos i1 (Kit.Ev.const rfl)))))))), fl.put _ f4, by omega, by omega⟩
  by_cases c1 : op = 1
  · obtain ⟨x, e4, _⟩ := pick_some hc (t := t1 + 1 + 1) (by omega) (by omega) ([(-1), i, 0, 4611686018427387904] : List Int) (by simp)
    exact ⟨_, _, Kit.Ev.then H (Kit.Ev.call e1 (Kit.Ev.call e2 (Kit.Ev.neg c0 (Kit.Ev.pos c1 (Kit.Ev.call e4 (Kit.Ev.pos i0 (Kit.Ev.pos i1 (Kit.Ev.const rfl)))))))), fl.put _ f4, by omega, by omega⟩
  by_cases c2 : op = 2
  · obtain ⟨x, e4, _⟩ := pick_some hc (t := t1 + 1 + 1) (by omega) (by omega) ([(-1), i, 1] : List Int) (by simp)
    exact ⟨_, _, Kit.Ev.then H (Kit.Ev.call e1 (Kit.Ev.call e2 (Kit.Ev.neg c0 (Kit.Ev.neg c1 (Kit.Ev.pos c2 (Kit.Ev.call e4 (Kit.Ev.pos i0 (Kit.Ev.pos i1 (Kit.Ev.const rfl))))))))), fl.put _ f4, by omega, by omega⟩
  by_cases c3 : op = 3
  · obtain ⟨x, e4, _⟩ := pick_some hc (t := t1 + 1 + 1) (by omega) (by omega) ([(-1), 0, 4, 3, 1] : List Int) (by simp)
    exact ⟨_, _, Kit.Ev.then H (Kit.Ev.call e1 (Kit.Ev.call e2 (Kit.Ev.neg c0 (Kit.Ev.neg c1 (Kit.Ev.neg c2 (Kit.Ev.pos c3 (Kit.Ev.call e4 (Kit.Ev.pos i0 (Kit.Ev.pos i1 (Kit.Ev.const rfl)))))))))), fl.put _ f4, by omega, by omega⟩
  by_cases c4 : op = 4
  · obtain ⟨x, e4, _⟩ := pick_some hc (t := t1 + 1 + 1) (by omega) (by omega) ([0, (-1), 4] : List Int) (by simp)
    have e5 : list_app.f (rd_T36 l i).f6 [x] = some ((rd_T36 l i).f6 ++ [x]) := by
      unfold list_app.f
      rw [if_pos (by simp only [List.length_cons, List.length_nil]; omega)]
    exact ⟨_, _, Kit.Ev.then H (Kit.Ev.call e1 (Kit.Ev.call e2 (Kit.Ev.neg c0 (Kit.Ev.neg c1 (Kit.Ev.neg c2 (Kit.Ev.neg c3 (Kit.Ev.pos c4 (Kit.Ev.pos i0 (Kit.Ev.pos i1 (Kit.Ev.call e4 (Kit.Ev.call e5 (Kit.Ev.const rfl)))))))))))), fl.put _ (by simp only [List.length_append, List.length_cons, List.length_nil]; omega), by omega, by omega⟩
  by_cases c5 : op = 5
  · obtain ⟨x, e4, _⟩ := pick_some hc (t := t1 + 1 + 1) (by omega) (by omega) ([1, 3] : List Int) (by simp)
    exact ⟨_, _, Kit.Ev.then H (Kit.Ev.call e1 (Kit.Ev.call e2 (Kit.Ev.neg c0 (Kit.Ev.neg c1 (Kit.Ev.neg c2 (Kit.Ev.neg c3 (Kit.Ev.neg c4 (Kit.Ev.pos c5 (Kit.Ev.call e4 (Kit.Ev.pos i0 (Kit.Ev.pos i1 (Kit.Ev.const rfl)))))))))))), fl.put _ f4, by omega, by omega⟩
  by_cases c6 : op = 6
  · obtain ⟨x, e4, _⟩ := pick_some hc (t := t1 + 1 + 1) (by omega) (by omega) ([1000000000, 1000000001, (-1)] : List Int) (by simp)
    exact ⟨_, _, Kit.Ev.then H (Kit.Ev.call e1 (Kit.Ev.call e2 (Kit.Ev.neg c0 (Kit.Ev.neg c1 (Kit.Ev.neg c2 (Kit.Ev.neg c3 (Kit.Ev.neg c4 (Kit.Ev.neg c5 (Kit.Ev.pos c6 (Kit.Ev.call e4 (Kit.Ev.pos i0 (Kit.Ev.pos i1 (Kit.Ev.const rfl))))))))))))), fl.put _ f4, by omega, by omega⟩
  by_cases c7 : op = 7
  · refine ⟨_, _, Kit.Ev.then H (Kit.Ev.call e1 (Kit.Ev.call e2 (Kit.Ev.neg c0 (Kit.Ev.neg c1 (Kit.Ev.neg c2 (Kit.Ev.neg c3 (Kit.Ev.neg c4 (Kit.Ev.neg c5 (Kit.Ev.neg c6 (Kit.Ev.pos c7 (Kit.Ev.pos (show l.length < 1954687338268 by omega) (Kit.Ev.const rfl)))))))))))), ⟨by simp; omega, fun x hx => ?_⟩, by omega, by omega⟩
    rcases List.mem_append.mp hx with h | h
    · exact fl.2 x h
    · rw [List.mem_singleton.mp h]; simp
  by_cases c8 : op = 8
  · obtain ⟨x, e4, hx⟩ := pick_some hc (t := t1 + 1 + 1) (by omega) (by omega) ([0, 9] : List Int) (by simp)
    have hx2 : 0 ≤ x ∧ x ≤ 9 := by
      simp only [List.mem_cons, List.not_mem_nil, or_false] at hx
      omega
    refine ⟨_, _, Kit.Ev.then H (Kit.Ev.call e1 (Kit.Ev.call e2 (Kit.Ev.neg c0 (Kit.Ev.neg c1 (Kit.Ev.neg c2 (Kit.Ev.neg c3 (Kit.Ev.neg c4 (Kit.Ev.neg c5 (Kit.Ev.neg c6 (Kit.Ev.neg c7 (Kit.Ev.pos c8 (Kit.Ev.call e4 (Kit.Ev.pos hx2.1 (Kit.Ev.pos (by simp only; omega) (Kit.Ev.const rfl))))))))))))))), ⟨by rw [List.length_replicate]; omega, fun y hy => ?_⟩, by omega, by omega⟩
    rw [List.eq_of_mem_replicate hy]
    simp [z36]
  exact ⟨l, t1 + 1 + 1, Kit.Ev.then H (Kit.Ev.call e1 (Kit.Ev.call e2 (Kit.Ev.neg c0 (Kit.Ev.neg c1 (Kit.Ev.neg c2 (Kit.Ev.neg c3 (Kit.Ev.neg c4 (Kit.Ev.neg c5 (Kit.Ev.neg c6 (Kit.Ev.neg c7 (Kit.Ev.neg c8 (Kit.Ev.const rfl)))))))))))), fl, by omega, by omega⟩
theorem dig_nat {u : Nat} (h : u < 10) : (UInt8.ofNat (48 + u)).toNat = 48 + u := by
  rw [UInt8.toNat_ofNat']; omega
theorem dec_digits (u : Nat) : ∀ x ∈ Lib.decDigits u, 48 ≤ x.toNat ∧ x.toNat ≤ 57 := by
  induction u using Nat.strongRecOn with
  | _ u ih =>
    intro x hx
    rw [Lib.decDigits] at hx
    by_cases h : u < 10
    · rw [dif_pos h, List.mem_singleton] at hx
      rw [hx, dig_nat h]; omega
    · rw [dif_neg h, List.mem_append, List.mem_singleton] at hx
      rcases hx with hx | hx
      · exact ih (u / 10) (by omega) x hx
      · rw [hx, dig_nat (by omega)]; omega
theorem dec_pos (u : Nat) : 1 ≤ (Lib.decDigits u).length := by
  rw [Lib.decDigits]
  by_cases h : u < 10
  · rw [dif_pos h]; simp
  · rw [dif_neg h]; simp
theorem dec_short : ∀ (k u : Nat), u < 10 ^ (k + 1) → (Lib.decDigits u).length ≤ k + 1
  | 0, u, h => by rw [Lib.decDigits, dif_pos (by omega)]; simp
  | k + 1, u, h => by
    rw [Lib.decDigits]
    by_cases c : u < 10
    · rw [dif_pos c]; simp
    · rw [dif_neg c, List.length_append]
      have := dec_short k (u / 10) (by rw [Nat.pow_succ] at h; omega)
      simp only [List.length_cons, List.length_nil]
      omega
theorem parse_dec (u : Nat) : u ≤ 1000000000000 → ∀ r, Lib.parseUintM (2 ^ 64 - 1) 0 (Lib.decDigits u ++ r) = Lib.parseUintM (2 ^ 64 - 1) u r := by
  induction u using Nat.strongRecOn with
  | _ u ih =>
    intro hu r
    rw [Lib.decDigits]
    by_cases h : u < 10
    · rw [dif_pos h, List.singleton_append, Lib.parseUintM, dig_nat h, if_pos (by omega), if_neg (by omega), if_neg (by omega)]
      congr 1
      omega
    · rw [dif_neg h, List.append_assoc, ih (u / 10) (by omega) (by omega), List.singleton_append, Lib.parseUintM, dig_nat (by omega), if_pos (by omega), if_neg (by omega), if_neg (by omega)]
      congr 1
      omega
theorem parse_dec' {u : Nat} (h : u ≤ 1000000000000) : Lib.parseUintB 64 (Lib.decDigits u) = .ok u := by
  have hp := dec_pos u
  unfold Lib.parseUintB
  rw [if_neg (fun e => by rw [e] at hp; simp at hp)]
  have := parse_dec u h []
  rw [List.append_nil] at this
  rw [this, Lib.parseUintM]
theorem digit_in {x : UInt8} (h : 48 ≤ x.toNat ∧ x.toNat ≤ 57) : Text.digitSet.data.toList.contains x = true := by
  obtain ⟨n, rfl⟩ : ∃ n : Nat, x = UInt8.ofNat n := ⟨x.toNat, by simp⟩
  have hn : (UInt8.ofNat n).toNat = n % 256 := UInt8.toNat_ofNat'
  rw [hn] at h
  have e : UInt8.ofNat n = UInt8.ofNat (n % 256) := by apply UInt8.toNat_inj.1; rw [UInt8.toNat_ofNat', UInt8.toNat_ofNat']; omega
  rw [e]
  generalize n % 256 = m at h
  have : m = 48 ∨ m = 49 ∨ m = 50 ∨ m = 51 ∨ m = 52 ∨ m = 53 ∨ m = 54 ∨ m = 55 ∨ m = 56 ∨ m = 57 := by omega
  rcases this with h | h | h | h | h | h | h | h | h | h <;> subst h <;> decide
theorem dropAll {α : Type} {p : α → Bool} : ∀ {l : List α}, (∀ x ∈ l, p x = true) → l.dropWhile p = []
  | [], _ => rfl
  | x :: l, h => by rw [List.dropWhile_cons_of_pos (h x List.mem_cons_self)]; exact dropAll (fun y hy => h y (List.mem_cons_of_mem _ hy))
theorem trim_dec (u : Nat) : Lib.trimS (Lib.decDigits u) Text.digitSet.data.toList = [] := by
  unfold Lib.trimS Lib.trimRightS Lib.trimLeftS
  rw [dropAll (fun x hx => digit_in (dec_digits u x (List.mem_reverse.1 hx)))]
  rfl
theorem pre_dec (u : Nat) : Lib.trimPrefix (Lib.decDigits u) [45] = Lib.decDigits u := by
  have hp := dec_pos u
  have hd := dec_digits u
  unfold Lib.trimPrefix Lib.hasPrefix
  cases e : Lib.decDigits u with
  | nil => rfl
  | cons c r =>
    rw [e] at hd
    have hdc := hd c List.mem_cons_self
    have hc : ((45 : UInt8) == c) = false := by
      cases hq : ((45 : UInt8) == c) with
      | false => rfl
      | true =>
        have h45 := beq_iff_eq.1 hq
        rw [← h45] at hdc
        exact absurd hdc.1 (by decide)
    simp [List.isPrefixOf, hc]
theorem itoa_ok {c : Int} (h0 : -1000000000 ≤ c) (h1 : c ≤ 1000000000) : Text.numF (ba (Lib.itoa c)) 10 = some (c, true) := by
  have el : (ba (Lib.itoa c)).data.toList = Lib.itoa c := by simp [ba]
  have hlen := itoa_len c
  unfold Text.numF
  rw [el, ba_size]
  by_cases hc : c < 0
  · have e : Lib.itoa c = 45 :: Lib.decDigits c.natAbs := by unfold Lib.itoa; rw [if_pos hc]
    have hp := dec_pos c.natAbs
    have hs := dec_short 9 c.natAbs (by omega)
    have ep : Lib.trimPrefix (45 :: Lib.decDigits c.natAbs) [45] = Lib.decDigits c.natAbs := by simp [Lib.trimPrefix, Lib.hasPrefix, List.isPrefixOf]
    have en : Lib.parseIntB 64 (45 :: Lib.decDigits c.natAbs) = .ok c := by
      unfold Lib.parseIntB
      simp only [show ((45 : UInt8).toNat = 43 ∨ (45 : UInt8).toNat = 45) = True from eq_true (.inr rfl), if_true, parse_dec' (u := c.natAbs) (by omega)]
      rw [if_neg (fun h => h.1 rfl), if_neg (fun h => by have := h.2; omega), if_pos (show UInt8.toNat 45 = 45 from rfl)]
      congr 1; omega
    rw [e, en]
    simp only [ep]
    rw [if_pos ⟨by simp only [List.length_cons]; omega, by omega, by omega, trim_dec _⟩]
  · have e : Lib.itoa c = Lib.decDigits c.toNat := by unfold Lib.itoa; rw [if_neg hc]
    have hp := dec_pos c.toNat
    have hs := dec_short 9 c.toNat (by omega)
    have hd := dec_digits c.toNat
    have en : Lib.parseIntB 64 (Lib.decDigits c.toNat) = .ok c := by
      cases q : Lib.decDigits c.toNat with
      | nil => rw [q] at hp; simp at hp
      | cons x r =>
        rw [q] at hd
        have hx := hd x List.mem_cons_self
        have hu := parse_dec' (u := c.toNat) (by omega)
        rw [q] at hu
        unfold Lib.parseIntB
        simp only [show (x.toNat = 43) = False from eq_false (by omega), show (x.toNat = 45) = False from eq_false (by omega), or_self, if_false, hu]
        rw [if_neg (fun h => by have := h.2; omega), if_neg (fun h => h.1)]
        congr 1; omega
    rw [e, en]
    simp only [pre_dec]
    rw [if_pos ⟨by omega, by omega, by omega, trim_dec _⟩]
theorem itoa_not {b : UInt8} (h1 : b ≠ 45) (h2 : ¬ (48 ≤ b.toNat ∧ b.toNat ≤ 57)) (c : Int) : b ∉ Lib.itoa c := by
  unfold Lib.itoa
  intro h
  by_cases hc : c < 0
  · rw [if_pos hc] at h
    rcases List.mem_cons.1 h with h | h
    · exact h1 h
    · exact h2 (dec_digits _ _ h)
  · rw [if_neg hc] at h
    exact h2 (dec_digits _ _ h)
/-- A text put together with one byte between its parts, none of which holds it, is split into them. -/
theorem indexByte_at (c : UInt8) : ∀ (w rest : List UInt8), c ∉ w → Lib.indexByte (w ++ c :: rest) c = (w.length : Int)
  | [], rest, _ => by simp [Lib.indexByte]
  | x :: w, rest, h => by
    have ih := indexByte_at c w rest (fun hm => h (List.mem_cons_of_mem _ hm))
    have hx : (x == c) = false := by
      cases q : x == c with
      | false => rfl
      | true => exact absurd (beq_iff_eq.1 q) (fun e => h (e ▸ List.mem_cons_self))
    rw [List.cons_append, Lib.indexByte, hx, ih]
    simp only [Bool.false_eq_true, if_false]
    rw [if_neg (by simp <;> omega)]
    simp
theorem split_parts (c : UInt8) : ∀ (ws : List (List UInt8)) (w : List UInt8), c ∉ w → (∀ x ∈ ws, c ∉ x) → Lib.splitK [c] 0 ws.length (w ++ (ws.map (fun x => c :: x)).flatten) = w :: ws
  | [], w, _, _ => by simp [Lib.splitK]
  | v :: vs, w, hw, h => by
    have ei : Lib.index (w ++ (((v :: vs).map (fun x => c :: x)).flatten)) [c] = (w.length : Int) := by
      rw [Lib.index_one, List.map_cons, List.flatten_cons, List.cons_append]
      exact indexByte_at c w _ hw
    rw [List.length_cons, Lib.splitK, ei, if_neg (by simp <;> omega)]
    rw [Int.toNat_natCast, Nat.add_zero, List.take_left]
    congr 1
    have ed : (w ++ (((v :: vs).map (fun x => c :: x)).flatten)).drop (w.length + [c].length) = v ++ (vs.map (fun x => c :: x)).flatten := by
      rw [← List.drop_drop, List.drop_left, List.map_cons, List.flatten_cons, List.cons_append]
      rfl
    rw [ed]
    exact split_parts c vs v (h v List.mem_cons_self) (fun x hx => h x (List.mem_cons_of_mem _ hx))
theorem count_parts (c : UInt8) : ∀ (ws : List (List UInt8)) (w : List UInt8), c ∉ w → (∀ x ∈ ws, c ∉ x) → (w ++ (ws.map (fun x => c :: x)).flatten).count c = ws.length
  | [], w, hw, _ => by simp [List.count_eq_zero.2 hw]
  | v :: vs, w, hw, h => by
    have ih := count_parts c vs v (h v List.mem_cons_self) (fun x hx => h x (List.mem_cons_of_mem _ hx))
    rw [List.map_cons, List.flatten_cons, List.count_append, List.cons_append, List.count_cons_self, ih, List.count_eq_zero.2 hw, List.length_cons]
    omega
theorem back_ba (l : List ByteArray) : l = (l.map (·.data.toList)).map ba := by
  rw [List.map_map]
  exact ((List.map_congr_left (fun x _ => by simp [ba])).trans (List.map_id l)).symm
theorem splitB_parts (c : UInt8) (ws : List (List UInt8)) (w : List UInt8) (hw : c ∉ w) (h : ∀ x ∈ ws, c ∉ x) {s : List UInt8} (hs : s = w ++ (ws.map (fun x => c :: x)).flatten) :
    Lib.splitB (⟨#[c]⟩ : ByteArray) 0 (Lib.countB (ba s) (⟨#[c]⟩ : ByteArray)) (ba s) = (w :: ws).map ba := by
  have e0 : (ba s).data.toList = s := by simp [ba]
  have ec : Lib.countB (ba s) (⟨#[c]⟩ : ByteArray) = ws.length := by
    show Lib.count (ba s).data.toList [c] = ws.length
    rw [e0, Lib.count_one, hs]
    exact count_parts c ws w hw h
  rw [ec, back_ba (Lib.splitB _ _ _ _), Lib.splitB_data, e0, hs]
  exact congrArg (List.map ba) (split_parts c ws w hw h)
theorem itoa_len11 {c : Int} (h0 : -1000000000 ≤ c) (h1 : c ≤ 1000000000) : (Lib.itoa c).length ≤ 11 := by
  unfold Lib.itoa
  by_cases h : c < 0
  · rw [if_pos h, List.length_cons]
    have := dec_short 9 c.natAbs (by omega)
    omega
  · rw [if_neg h]
    have := dec_short 9 c.toNat (by omega)
    omega
theorem itoa_ne (c : Int) : Lib.itoa c ≠ [] := by
  unfold Lib.itoa
  by_cases h : c < 0
  · rw [if_pos h]; simp
  · rw [if_neg h]
    have := dec_pos c.toNat
    intro e
    rw [e] at this
    simp at this
/-- A word of a line: a number of the bounds, or a sign. -/
def WordOk (w : List UInt8) : Prop := (∃ c : Int, -1000000000 ≤ c ∧ c ≤ 1000000000 ∧ w = Lib.itoa c) ∨ ∃ a, w = signB a
theorem sign_no {b : UInt8} (hb : b = 32 ∨ b = 10) (a : Int) : b ∉ signB a := by
  unfold signB
  rcases hb with rfl | rfl <;> (repeat' split) <;> decide
theorem WordOk.no {w : List UInt8} (h : WordOk w) {b : UInt8} (hb : b = 32 ∨ b = 10) : b ∉ w := by
  rcases h with ⟨c, _, _, rfl⟩ | ⟨a, rfl⟩
  · rcases hb with rfl | rfl <;> exact itoa_not (by decide) (by decide) c
  · exact sign_no hb a
theorem WordOk.ne {w : List UInt8} (h : WordOk w) : w ≠ [] ∧ w.length ≤ 11 := by
  rcases h with ⟨c, h0, h1, rfl⟩ | ⟨a, rfl⟩
  · exact ⟨itoa_ne c, itoa_len11 h0 h1⟩
  · have := signB_len a
    exact ⟨fun e => by rw [e] at this; simp at this, by omega⟩
theorem argsW_ok {x : S36} (h : NodeOk x) : ∀ w ∈ argsW x, WordOk w := by
  obtain ⟨ho, hr, h3, h45, h6⟩ := h
  intro w hw
  unfold argsW at hw
  rcases List.mem_append.1 hw with hw | hw
  · obtain ⟨c, hc, rfl⟩ := List.mem_map.1 hw
    have := hr c hc
    exact .inl ⟨c, by omega, by omega, rfl⟩
  · unfold restW at hw
    by_cases c2 : x.f0 = 2
    · rw [if_pos c2] at hw
      have a3 := h3 (.inr (.inl c2))
      have a5 := h45 c2
      simp only [List.mem_cons, List.not_mem_nil, or_false] at hw
      rcases hw with rfl | rfl | rfl
      · exact .inl ⟨_, by omega, by omega, rfl⟩
      · exact .inr ⟨_, rfl⟩
      · exact .inl ⟨_, by omega, by omega, rfl⟩
    · rw [if_neg c2] at hw
      by_cases c3 : x.f0 = 3
      · rw [if_pos c3] at hw
        obtain ⟨c, hc, rfl⟩ := List.mem_map.1 hw
        have := (h6 c3).2 c hc
        exact .inl ⟨c, by omega, by omega, rfl⟩
      · rw [if_neg c3] at hw
        by_cases c1 : x.f0 = 1 ∨ x.f0 = 6 ∨ (7 ≤ x.f0 ∧ x.f0 ≤ 10)
        · rw [if_pos c1, List.mem_singleton] at hw
          have a3 := h3 (by omega)
          exact .inl ⟨_, by omega, by omega, hw⟩
        · rw [if_neg c1] at hw
          simp at hw
theorem nameB_no {a : Int} (h : 1 ≤ a ∧ a ≤ 12) {b : UInt8} (hb : b = 32 ∨ b = 10) : b ∉ nameB a ∧ nameB a ≠ [] := by
  rcases hb with rfl | rfl <;> rcases op_cases h with rfl | rfl | rfl | rfl | rfl | rfl | rfl | rfl | rfl | rfl | rfl | rfl <;> decide
theorem spT_short {m : Nat} : ∀ (ws : List (List UInt8)), (∀ w ∈ ws, w.length ≤ m) → (spT ws).length ≤ ws.length * (m + 1)
  | [], _ => by simp [spT_nil]
  | w :: ws, h => by
    have := spT_short ws (fun y hy => h y (List.mem_cons_of_mem _ hy))
    have h1 := h w List.mem_cons_self
    rw [spT_cons, List.length_append, List.length_cons, List.length_cons, Nat.succ_mul]
    omega
theorem line_short {x : S36} (h : NodeOk x) : (lineT x).length ≤ 80 := by
  have h1 := nameB_len x.f0
  have h2 := (argsW_len h).1
  have h3 := spT_short (m := 11) (argsW x) (fun w hw => (argsW_ok h w hw).ne.2)
  unfold lineT
  rw [List.length_append]
  omega
theorem line_no {x : S36} (h : NodeOk x) : (10 : UInt8) ∉ lineT x := by
  unfold lineT spT
  intro hm
  rcases List.mem_append.1 hm with hm | hm
  · exact (nameB_no h.1 (.inr rfl)).1 hm
  · obtain ⟨l, hl, hx⟩ := List.mem_flatten.1 hm
    obtain ⟨w, hw, rfl⟩ := List.mem_map.1 hl
    rcases List.mem_cons.1 hx with hx | hx
    · exact absurd hx (by decide)
    · exact (argsW_ok h w hw).no (.inr rfl) hx
theorem plan_short : ∀ (l : List S36), (∀ x ∈ l, NodeOk x) → (planT l).length ≤ l.length * 81
  | [], _ => Nat.le_refl _
  | x :: xs, h => by
    have := plan_short xs (fun y hy => h y (List.mem_cons_of_mem _ hy))
    have h1 := line_short (h x List.mem_cons_self)
    simp only [planT, List.length_append, List.length_cons, List.length_nil]
    omega
theorem planT_parts : ∀ (x : S36) (xs : List S36), planT (x :: xs) = lineT x ++ (((xs.map lineT) ++ [[]]).map (fun w => (10 : UInt8) :: w)).flatten
  | x, [] => by simp [planT]
  | x, y :: ys => by
    have ih := planT_parts y ys
    rw [planT, ih]
    simp
theorem linesOf_ev {l : List S36} (hp : 1 ≤ l.length) (hn : l.length ≤ 8) (h : ∀ x ∈ l, NodeOk x) : impl_linesOf.f (ba (planT l)) = some ((l.map lineT).map ba) := by
  have hs := plan_short l h
  cases l with
  | nil => simp at hp
  | cons x xs =>
    have hx := h x List.mem_cons_self
    have hxs : ∀ y ∈ xs, NodeOk y := fun y hy => h y (List.mem_cons_of_mem _ hy)
    have hsp := splitB_parts 10 (xs.map lineT ++ [[]]) (lineT x) (line_no hx) (fun w hw => by
      rcases List.mem_append.1 hw with hw | hw
      · obtain ⟨y, hy, rfl⟩ := List.mem_map.1 hw
        exact line_no (hxs y hy)
      · rw [List.mem_singleton.1 hw]; simp) (planT_parts x xs)
    unfold impl_linesOf.f strings_Split.f
    rw [if_pos ⟨by rw [ba_size]; simp only [List.length_cons] at hs hn ⊢; omega, by decide⟩, hsp]
    simp only [Option.bind_some]
    have el : ((lineT x :: (xs.map lineT ++ [[]])).map ba).length = xs.length + 2 := by simp
    have ew : wrap64 ((((lineT x :: (xs.map lineT ++ [[]])).map ba).length : Int) - 1) = ((xs.length + 1 : Nat) : Int) := by
      rw [el, Kit.w64 (by simp only [List.length_cons] at hn; omega) (by simp only [List.length_cons] at hn; omega)]; omega
    rw [ew, if_pos (by omega), if_pos (by rw [el]; omega)]
    have er : (rdOf ByteArray.empty ((lineT x :: (xs.map lineT ++ [[]])).map ba) ((xs.length + 1 : Nat) : Int)).toList = ([] : List UInt8) := by
      unfold rdOf
      rw [Int.toNat_natCast, List.getD_eq_getElem?_getD, List.getElem?_map]
      have : (lineT x :: (xs.map lineT ++ [[]]))[xs.length + 1]? = some [] := by
        rw [List.getElem?_cons_succ, List.getElem?_append_right (by simp)]
        simp
      rw [this, Option.map_some, Option.getD_some, Lib.toList_data]
      rfl
    rw [if_pos er, if_pos (by rw [el]; omega), Int.toNat_natCast]
    congr 1
    rw [← List.map_take]
    congr 1
    rw [List.take_succ_cons, List.map_cons]
    congr 1
    rw [List.take_append_of_le_length (by simp)]
    exact List.take_of_length_le (by simp)
theorem pieces_ev {x : S36} (h : NodeOk x) : impl_piecesOf.f (ba (lineT x)) = some ((nameB x.f0 :: argsW x).map ba) := by
  have hl := line_short h
  have ha := (argsW_len h).1
  have hsp := splitB_parts 32 (argsW x) (nameB x.f0) (nameB_no h.1 (.inl rfl)).1 (fun w hw => (argsW_ok h w hw).no (.inl rfl)) (s := lineT x) rfl
  unfold impl_piecesOf.f
  rw [hsp, if_pos]
  refine ⟨by rw [ba_size]; omega, by simp only [List.length_map, List.length_cons]; omega, ?_⟩
  rw [List.all_eq_true]
  intro w hw
  obtain ⟨v, hv, rfl⟩ := List.mem_map.1 hw
  have hne : v ≠ [] := by
    rcases List.mem_cons.1 hv with rfl | hv
    · exact (nameB_no h.1 (.inl rfl)).2
    · exact (argsW_ok h v hv).ne.1
  have e : (ba v).toList = v := by rw [Lib.toList_data]; simp [ba]
  rw [e]
  cases v with
  | nil => exact absurd rfl hne
  | cons a b => rfl
theorem readNumbers_l0 (cs : List Int) (hc : ∀ c ∈ cs, -1000000000 ≤ c ∧ c ≤ 1000000000) (hn : cs.length ≤ 1000) : ∀ (d i : Nat), i + d = cs.length → Ev (fun k => impl_readNumbers.l0 k 10 (cs.take i) ((cs.map Lib.itoa).map ba) (((cs.map Lib.itoa).map ba).length : Int) (i : Int)) (cs, true) := by
  have el : ((cs.map Lib.itoa).map ba).length = cs.length := by simp
  rw [el]
  intro d
  induction d with
  | zero =>
    intro i hi
    refine Kit.Ev.up ?_
    simp only [impl_readNumbers.l0]
    refine Kit.Ev.neg (by omega) (Kit.Ev.const ?_)
    rw [List.take_of_length_le (by omega)]
  | succ d ih =>
    intro i hi
    have hi' : i < cs.length := by omega
    have hb := hc _ (List.getElem_mem hi')
    have er : rdOf ByteArray.empty ((cs.map Lib.itoa).map ba) (i : Int) = ba (Lib.itoa cs[i]) := by
      unfold rdOf
      rw [Int.toNat_natCast, List.getD_eq_getElem?_getD, List.getElem?_map, List.getElem?_map, List.getElem?_eq_getElem hi']
      rfl
    have ih' := ih (i + 1) (by omega)
    rw [(List.take_append_getElem hi').symm] at ih'
    refine Kit.Ev.up ?_
    simp only [impl_readNumbers.l0]
    rw [er, Kit.w64s (n := cs.length) (by omega) (by omega) (by omega)]
    exact Kit.Ev.pos (by omega) (Kit.Ev.pos (by omega) (Kit.Ev.pos (by rw [el]; omega) (Kit.Ev.call (itoa_ok hb.1 hb.2) (Kit.Ev.pos rfl (Kit.Ev.pos (by rw [List.length_take]; omega) ih')))))
theorem readNumbers_ev {cs : List Int} (hc : ∀ c ∈ cs, -1000000000 ≤ c ∧ c ≤ 1000000000) (hn : cs.length ≤ 1000) {ws : List ByteArray} (hw : ws = (cs.map Lib.itoa).map ba) : Ev (fun k => impl_readNumbers.f k ws 10) (cs, true) := by
  subst hw
  unfold impl_readNumbers.f
  exact readNumbers_l0 cs hc hn cs.length 0 (by omega)
def numsOf (x : S36) : List Int := readsL x ++ (if x.f0 = 2 then [x.f3, x.f5] else if x.f0 = 3 then x.f6 else if x.f0 = 1 ∨ x.f0 = 6 ∨ (7 ≤ x.f0 ∧ x.f0 ≤ 10) then [x.f3] else [])
theorem nums_in {x : S36} (h : NodeOk x) : (∀ c ∈ numsOf x, -1000000000 ≤ c ∧ c ≤ 1000000000) ∧ (numsOf x).length ≤ 1000 := by
  have hl := reads_len x
  obtain ⟨ho, hr, h3, h45, h6⟩ := h
  unfold numsOf
  have key : (∀ c ∈ (if x.f0 = 2 then [x.f3, x.f5] else if x.f0 = 3 then x.f6 else if x.f0 = 1 ∨ x.f0 = 6 ∨ (7 ≤ x.f0 ∧ x.f0 ≤ 10) then [x.f3] else []), -1000000000 ≤ c ∧ c ≤ 1000000000) ∧ (if x.f0 = 2 then [x.f3, x.f5] else if x.f0 = 3 then x.f6 else if x.f0 = 1 ∨ x.f0 = 6 ∨ (7 ≤ x.f0 ∧ x.f0 ≤ 10) then [x.f3] else []).length ≤ 4 := by
    by_cases c2 : x.f0 = 2
    · rw [if_pos c2]
      have a3 := h3 (.inr (.inl c2))
      have a5 := h45 c2
      refine ⟨fun c hc => ?_, by simp⟩
      simp only [List.mem_cons, List.not_mem_nil, or_false] at hc
      rcases hc with rfl | rfl <;> omega
    · rw [if_neg c2]
      by_cases c3 : x.f0 = 3
      · rw [if_pos c3]
        exact ⟨fun c hc => by have := (h6 c3).2 c hc; omega, (h6 c3).1⟩
      · rw [if_neg c3]
        by_cases c1 : x.f0 = 1 ∨ x.f0 = 6 ∨ (7 ≤ x.f0 ∧ x.f0 ≤ 10)
        · rw [if_pos c1]
          have a3 := h3 (by omega)
          refine ⟨fun c hc => ?_, by simp⟩
          rw [List.mem_singleton] at hc
          rw [hc]; omega
        · rw [if_neg c1]
          exact ⟨fun c hc => by simp at hc, by simp⟩
  refine ⟨fun c hc => ?_, by rw [List.length_append]; have := key.2; omega⟩
  rcases List.mem_append.1 hc with hc | hc
  · have := hr c hc; omega
  · exact key.1 c hc
theorem node_j2 {x : S36} (h : NodeOk x) (hm : named x = true) : Ev (fun k => impl_readNode.j2 k (numsOf x) false x.f0 0 0 0 x.f4 0) (x.f0, x.f1, x.f2, x.f3, x.f4, x.f5, x.f6, true) := by
  obtain ⟨a0, a1, a2, a3, a4, a5, l6⟩ := x
  have ho : 1 ≤ a0 ∧ a0 ≤ 12 := h.1
  simp only [named, namedB, decide_eq_true_eq] at hm
  obtain ⟨m1, m2, m45, m6, m3⟩ := hm
  refine ⟨9, fun k hk => ?_⟩
  obtain ⟨q, rfl⟩ : ∃ q, k = q + 9 := ⟨k - 9, by omega⟩
  rcases op_cases ho with rfl | rfl | rfl | rfl | rfl | rfl | rfl | rfl | rfl | rfl | rfl | rfl <;> simp at m1 m2 m45 m6 m3 <;> (try obtain ⟨rfl, rfl⟩ := m45) <;> (try subst m1) <;> (try subst m2) <;> (try subst m6) <;> (try subst m3) <;>
    simp [impl_readNode.j2, impl_readNode.j3, impl_readNode.j4, impl_readNode.j5, impl_readNode.j6, impl_readNode.j7, numsOf, readsL, rd, impl_grouped.f, implIn_eq]
  omega
theorem node_j1 {x : S36} (h : NodeOk x) (hm : named x = true) (ws : List ByteArray) (hl : 1 ≤ ws.length) (hw : ws.drop 1 = ((numsOf x).map Lib.itoa).map ba) : Ev (fun k => impl_readNode.j1 k ws x.f0 0 0 0 x.f4 0) (x.f0, x.f1, x.f2, x.f3, x.f4, x.f5, x.f6, true) := by
  have h4 : ¬ x.f4 < 0 := by
    by_cases c : x.f0 = 2
    · have := h.2.2.2.1 c; omega
    · simp only [named, namedB, decide_eq_true_eq] at hm
      have := (hm.2.2.1 c).1
      omega
  obtain ⟨hb, hn⟩ := nums_in h
  refine Kit.Ev.up ?_
  simp only [impl_readNode.j1]
  rw [decide_eq_false h4]
  exact Kit.Ev.pos (by omega) (Kit.Ev.then (readNumbers_ev hb hn hw) (Kit.Ev.pos rfl (node_j2 h hm)))
theorem idx_name {a : Int} (h : 1 ≤ a ∧ a ≤ 12) : slices_Index_string_string.f ((namesB.drop 1).map ba) (ba (nameB a)) = some (a - 1) := by
  unfold slices_Index_string_string.f
  rw [if_pos (by decide)]
  rcases op_cases h with rfl | rfl | rfl | rfl | rfl | rfl | rfl | rfl | rfl | rfl | rfl | rfl <;> exact congrArg some (by decide +kernel)
theorem sign_idx {a : Int} (h : 0 ≤ a ∧ a ≤ 2) : strings_IndexByte.f (⟨#[61, 60, 62]⟩ : ByteArray) (bt (ba (signB a)) 0) = some a := by
  have : a = 0 ∨ a = 1 ∨ a = 2 := by omega
  rcases this with rfl | rfl | rfl <;> rfl
theorem readNode_ev {x : S36} (h : NodeOk x) (hm : named x = true) : Ev (fun k => impl_readNode.f k (ba (lineT x))) (x.f0, x.f1, x.f2, x.f3, x.f4, x.f5, x.f6, true) := by
  have ho := h.1
  have el : ((nameB x.f0 :: argsW x).map ba).length = (argsW x).length + 1 := by simp
  have er : rdOf ByteArray.empty ((nameB x.f0 :: argsW x).map ba) 0 = ba (nameB x.f0) := rfl
  have ew : wrap64 (x.f0 - 1 + 1) = x.f0 := by rw [Kit.w64 (by omega) (by omega)]; omega
  unfold impl_readNode.f
  refine Kit.Ev.call (pieces_ev h) (Kit.Ev.neg (by rw [el]; omega) (Kit.Ev.call split_words (Kit.Ev.pos (by rw [el]; omega) ?_)))
  rw [er]
  refine Kit.Ev.call (idx_name ho) ?_
  rw [ew]
  by_cases c2 : x.f0 = 2
  · have e0 : readsL x = [x.f1] := by unfold readsL; rw [if_neg (by omega), if_neg (by omega)]
    have ea : argsW x = [Lib.itoa x.f1, Lib.itoa x.f3, signB x.f4, Lib.itoa x.f5] := by
      unfold argsW restW
      rw [e0, if_pos c2]
      rfl
    have en : numsOf x = [x.f1, x.f3, x.f5] := by
      unfold numsOf
      rw [e0, if_pos c2]
      rfl
    have e3 : rdOf ByteArray.empty ((nameB x.f0 :: argsW x).map ba) 3 = ba (signB x.f4) := by rw [ea]; rfl
    have hs := signB_len x.f4
    refine Kit.Ev.pos c2 (Kit.Ev.pos (by rw [el, ea]; rfl) (Kit.Ev.pos (by rw [el, ea]; simp) ?_))
    rw [e3]
    have hz : (((ba (signB x.f4)).size : Int) != 1) = false := by rw [ba_size, hs]; rfl
    rw [hz]
    refine Kit.Ev.up ?_
    simp only [impl_readNode.j0]
    refine Kit.Ev.neg (by simp) (Kit.Ev.pos (by rw [el, ea]; simp) ?_)
    rw [e3]
    have h45 := h.2.2.2.1 c2
    have ed : slices_Delete_string_string.f ((nameB x.f0 :: argsW x).map ba) 3 4 = some ([nameB x.f0, Lib.itoa x.f1, Lib.itoa x.f3, Lib.itoa x.f5].map ba) := by
      unfold slices_Delete_string_string.f
      rw [ea, if_pos ⟨by decide, by decide, by simp⟩]
      rfl
    refine Kit.Ev.pos (by rw [ba_size, hs]; decide) (Kit.Ev.call (sign_idx ⟨h45.1, h45.2.1⟩) (Kit.Ev.call ed ?_))
    exact node_j1 h hm _ (by simp) (by rw [en]; rfl)
  · have h4 : x.f4 = 0 := by
      simp only [named, namedB, decide_eq_true_eq] at hm
      exact (hm.2.2.1 c2).1
    have en : argsW x = (numsOf x).map Lib.itoa := by
      unfold argsW restW numsOf
      rw [if_neg c2, if_neg c2, List.map_append]
      congr 1
      split
      · rfl
      · split <;> rfl
    have := node_j1 h hm ((nameB x.f0 :: argsW x).map ba) (by simp) (by rw [List.map_cons, List.drop_succ_cons, List.drop_zero, en])
    rw [h4] at this ⊢
    exact Kit.Ev.neg c2 this
theorem plan_named {plan : List S36} (hg : GoodN plan plan.length) : ∀ x ∈ plan, named x = true := by
  intro x hx
  obtain ⟨i, hi, rfl⟩ := List.mem_iff_getElem.1 hx
  have := (codeN_parts (hg i hi)).2.1
  rw [rdN_at hi] at this
  exact this
theorem parse_l0 {plan : List S36} (hx : FineN plan) (hp : planF plan = 0) : ∀ (d i : Nat), i + d = plan.length → Ev (fun k => impl_ParsePlan.l0 k (plan.take i) ((plan.map lineT).map ba) (((plan.map lineT).map ba).length : Int) (i : Int)) (0, 0, plan) := by
  have hn := hx.1
  obtain ⟨h1, hg⟩ := planF_good hp
  have hall := plan_all h1.2 hg
  have hnm := plan_named hg
  have el : ((plan.map lineT).map ba).length = plan.length := by simp
  rw [el]
  intro d
  induction d with
  | zero =>
    intro i hi
    refine Kit.Ev.up ?_
    simp only [impl_ParsePlan.l0]
    rw [List.take_of_length_le (by omega)]
    exact Kit.Ev.neg (by omega) (Kit.Ev.then (implPlan_ev hx) (Kit.Ev.pos hp (Kit.Ev.const rfl)))
  | succ d ih =>
    intro i hi
    have hi' : i < plan.length := by omega
    have hm := List.getElem_mem hi'
    have er : rdOf ByteArray.empty ((plan.map lineT).map ba) (i : Int) = ba (lineT plan[i]) := by
      unfold rdOf
      rw [Int.toNat_natCast, List.getD_eq_getElem?_getD, List.getElem?_map, List.getElem?_map, List.getElem?_eq_getElem hi']
      rfl
    have ih' := ih (i + 1) (by omega)
    rw [(List.take_append_getElem hi').symm] at ih'
    refine Kit.Ev.up ?_
    simp only [impl_ParsePlan.l0]
    rw [er, Kit.w64s (n := plan.length) (by omega) (by omega) (by omega)]
    exact Kit.Ev.pos (by omega) (Kit.Ev.pos (by omega) (Kit.Ev.pos (by rw [el]; omega) (Kit.Ev.then (readNode_ev (hall _ hm) (hnm _ hm)) (Kit.Ev.pos rfl (Kit.Ev.pos (by rw [List.length_take]; omega) ih')))))
theorem parse_ev {plan : List S36} (hx : FineN plan) (hp : planF plan = 0) : Ev (fun k => impl_ParsePlan.f k (ba (planT plan))) (0, 0, plan) := by
  obtain ⟨h1, hg⟩ := planF_good hp
  have hall := plan_all h1.2 hg
  have hs := plan_short plan hall
  unfold impl_ParsePlan.f
  exact Kit.Ev.neg (by rw [ba_size]; omega) (Kit.Ev.call (linesOf_ev h1.1 h1.2 hall) (parse_l0 hx hp plan.length 0 (by omega)))
theorem drawFormat_some {c : List Int} (hc : BytesOk c) : ∃ l : List S36, Ev (fun k => spec_DrawFormatPlan.f k c) l ∧ FewP l := by
  unfold spec_DrawFormatPlan.f spec_l1Source.f
  obtain ⟨l, t, H, hl, _, _⟩ := bentPlan_some hc (t := 0) (by omega) (by omega)
  exact ⟨l, Kit.Ev.call rfl (Kit.Ev.then H (Kit.Ev.const rfl)), hl⟩
theorem plans_l0 {plan : List S36} (hx : FineN plan) (a b : Int) : ∀ (d i : Nat), i + d = plan.length → Ev (fun k => laws_FnPlans.l0 k plan (i : Int) a b plan) true := by
  have hn := hx.1
  intro d
  induction d with
  | zero =>
    intro i hi
    refine Kit.Ev.up ?_
    simp only [laws_FnPlans.l0]
    exact Kit.Ev.neg (by omega) (Kit.Ev.const rfl)
  | succ d ih =>
    intro i hi
    have go := ih (i + 1) (by omega)
    refine Kit.Ev.up ?_
    simp only [laws_FnPlans.l0]
    rw [Kit.w64s (n := plan.length) (by omega) (by omega) (by omega)]
    exact Kit.Ev.pos (by omega) (Kit.Ev.then (implWidthOf_ev hx (i : Int)) (Kit.Ev.then (implWidthOf_ev hx (i : Int)) (Kit.Ev.pos rfl (Kit.Ev.pos (by omega) (Kit.Ev.pos (by omega) (Kit.Ev.pos trivial go))))))
theorem FnPlans : laws_FnPlans.Pure := by
  intro l0 hl8 _
  refine Kit.Ev.ex ?_
  unfold laws_FnPlans.f laws_lwBig.f
  simp only [Option.bind_some]
  refine Kit.Ev.ite (fun _ => Kit.Ev.const rfl) (fun hbig => ?_)
  have hc : BytesOk l0 := bytesOk_of (by simp only [decide_eq_true_eq] at hbig; omega) hl8.2
  obtain ⟨l, H, hl⟩ := drawFormat_some hc
  have hx := hl.fine
  refine Kit.Ev.then H (Kit.Ev.then (implFormat_ev hx) ?_)
  unfold formatF
  by_cases hp : planF l = 0
  · rw [if_pos hp]
    have e : (ba (planT l)).toList = planT l := by rw [Lib.toList_data]; simp [ba]
    have hne : ¬ (ba (planT l)).toList = ([] : List UInt8) := by
      rw [e]
      obtain ⟨h1, _⟩ := planF_good hp
      cases l with
      | nil => simp at h1
      | cons x xs => simp [planT]
    refine Kit.Ev.neg hne (Kit.Ev.then (parse_ev hx hp) (Kit.Ev.pos rfl (Kit.Ev.pos rfl (Kit.Ev.then (implFormat_ev hx) ?_))))
    unfold formatF
    rw [if_pos hp]
    refine Kit.Ev.up ?_
    simp only [laws_FnPlans.j0]
    exact Kit.Ev.neg (by simp) (plans_l0 hx 0 0 l.length 0 (by omega))
  · rw [if_neg hp]
    refine Kit.Ev.pos (by rw [Lib.toList_data]; rfl) (Kit.Ev.then (specPlan_ev hx) (Kit.Ev.neg hp (Kit.Ev.then (implPlan_ev hx) (Kit.Ev.then (specPlan_ev hx) (Kit.Ev.const ?_)))))
    simp

end Go.Proofs.YteibdjkfkcckkaaGreatDoor.Pure
