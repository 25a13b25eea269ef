/- The law FnFeeds answers true for every list of bytes. -/
import Derived.Test.YteibdjkfkcckkaaKit
import Derived.Test.YteibdjkfkcckkaaPFnFeedsx14
namespace Go.Proofs.Yteibdjkfkcckkaa.Pure
open Go.RowKit Go.Proofs.Yteibdjkfkcckkaa.PFnFeeds Go.Proofs.YteibdjkfkcckkaaW.PrintWords Go.Proofs.YteibdjkfkcckkaaW.PrintLast Go.Proofs.Yteibdjkfkcckkaa
set_option linter.unusedSimpArgs false
set_option linter.unusedVariables false

theorem w64n {i n : Nat} (h : i < n) (hn : n ≤ 9223372036854775807) : wrap64 ((i : Int) + 1) = ((i + 1 : Nat) : Int) := by
  rw [Kit.w64 (by omega) (by omega)]; rfl
theorem rd_drop {xs : List Int} {i : Nat} (h : i < xs.length) : xs.drop i = rd xs (i : Int) :: xs.drop (i + 1) := by
  rw [Kit.rd_at h]; exact List.drop_eq_getElem_cons h
theorem specIn_eq (a b c : Int) : spec_l1In.f a b c = some (decide (b ≤ a ∧ a ≤ c)) := by
  unfold spec_l1In.f
  by_cases h : a ≥ b
  · rw [if_pos h]; simp [show b ≤ a from h]
  · rw [if_neg h]; simp; intro h'; omega
theorem implIn_eq (a b c : Int) : impl_in.f a b c = some (decide (b ≤ a ∧ a ≤ c)) := by
  unfold impl_in.f
  by_cases h : a ≥ b
  · rw [if_pos h]; simp [show b ≤ a from h]
  · rw [if_neg h]; simp; intro h'; omega
def inC (x : Int) : Bool := decide (-1000000000 ≤ x ∧ x ≤ 1000000000)
def rowF (xs : List Int) : Int := if 4 < xs.length then 2 else if xs.all inC = true then 0 else 3
def BytesOk (l : List Int) : Prop := l.length ≤ 1048576 ∧ ∀ x ∈ l, 0 ≤ x ∧ x ≤ 255
theorem wfu8 {x : Int} (h : (Lit.int .u8 x).wf = true) : 0 ≤ x ∧ x ≤ 255 := by
  simp only [Lit.wf, Bool.and_eq_true, decide_eq_true_eq] at h
  obtain ⟨h0, h1⟩ := h
  have e0 : IntKind.u8.min = 0 := by rfl
  have e1 : IntKind.u8.max = 255 := by rfl
  rw [e0] at h0
  rw [e1] at h1
  exact ⟨h0, h1⟩
theorem bytesOk_of {l : List Int} (h : l.length ≤ 1048576) (hw : ∀ x ∈ l, (Lit.int .u8 x).wf = true) : BytesOk l := ⟨h, fun x hx => wfu8 (hw x hx)⟩
theorem BytesOk.rd {l : List Int} (h : BytesOk l) (i : Int) : 0 ≤ rd l i ∧ rd l i ≤ 255 := by
  unfold Go.Proofs.YteibdjkfkcckkaaW.PrintWords.rd
  by_cases hi : i.toNat < l.length
  · rw [List.getD_eq_getElem?_getD, List.getElem?_eq_getElem hi]
    exact h.2 _ (List.getElem_mem hi)
  · rw [List.getD_eq_getElem?_getD, List.getElem?_eq_none (by omega)]
    simp
theorem tmod_in {x n : Int} (hx : 0 ≤ x) (hn : 1 ≤ n) : 0 ≤ Int.tmod x n ∧ Int.tmod x n < n := by
  rw [Int.tmod_eq_emod_of_nonneg hx]
  exact ⟨Int.emod_nonneg _ (by omega), Int.emod_lt_of_pos _ (by omega)⟩
theorem tdiv_in {x n : Int} (hx : 0 ≤ x) (hn : 1 ≤ n) : 0 ≤ Int.tdiv x n ∧ Int.tdiv x n ≤ x := by
  rw [Int.tdiv_eq_ediv_of_nonneg hx]
  exact ⟨Int.ediv_nonneg hx (by omega), Int.ediv_le_self _ hx⟩
/-- A draw of a number: it answers, within its bounds, and goes one place on. -/
theorem next_some {c : List Int} (hc : BytesOk c) {t : Int} (h0 : 0 ≤ t) (h1 : t ≤ 1000000000000) (n : Int) :
    ∃ v, spec_l1Next.f c t n = some (v, t + 1) ∧ (1 ≤ n → 0 ≤ v ∧ v < n) ∧ (n < 1 → v = 0) := by
  unfold spec_l1Next.f
  have e1 : wrap64 (t + 1) = t + 1 := Kit.w64 (by omega) (by omega)
  have e2 : wrap64 (t + 1 - 1) = t := by rw [Kit.w64 (by omega) (by omega)]; omega
  simp only [e1, e2]
  by_cases hn : n < 1
  · rw [if_pos hn]
    exact ⟨0, rfl, fun h => by omega, fun _ => rfl⟩
  rw [if_neg hn]
  have hn1 : 1 ≤ n := by omega
  by_cases hl : (c.length : Int) = 0
  · rw [if_pos hl, if_neg (by omega)]
    have e4 : wrap64 (t * 7) = t * 7 := Kit.w64 (by omega) (by omega)
    rw [e4]
    exact ⟨_, rfl, fun _ => tmod_in (by omega) hn1, fun h => by omega⟩
  rw [if_neg hl]
  have hl1 : 1 ≤ (c.length : Int) := by omega
  have m1 := tmod_in h0 hl1
  have m2 := tmod_in (x := t + 1) (by omega) hl1
  have q1 := tdiv_in h0 hl1
  have r1 := hc.rd (Int.tmod t (c.length : Int))
  have r2 := hc.rd (Int.tmod (t + 1) (c.length : Int))
  rw [if_pos m1.1, if_pos m1.2]
  generalize rd c (Int.tmod t (c.length : Int)) = x1 at *
  generalize rd c (Int.tmod (t + 1) (c.length : Int)) = x2 at *
  generalize Int.tdiv t (c.length : Int) = d at *
  have w1 : wrap64 x1 = x1 := Kit.w64 (by omega) (by omega)
  have w2 : wrap64 x2 = x2 := Kit.w64 (by omega) (by omega)
  have w3 : wrap64 d = d := Kit.w64 (by omega) (by omega)
  have w4 : wrap64 (d * 37) = d * 37 := Kit.w64 (by omega) (by omega)
  have w5 : wrap64 (x1 + d * 37) = x1 + d * 37 := Kit.w64 (by omega) (by omega)
  have w6 : wrap64 ((x1 + d * 37) * 251) = (x1 + d * 37) * 251 := Kit.w64 (by omega) (by omega)
  have w7 : wrap64 (x2 * 13) = x2 * 13 := Kit.w64 (by omega) (by omega)
  have w8 : wrap64 ((x1 + d * 37) * 251 + x2 * 13) = (x1 + d * 37) * 251 + x2 * 13 := Kit.w64 (by omega) (by omega)
  have w9 : wrap64 ((x1 + d * 37) * 251 + x2 * 13 + t) = (x1 + d * 37) * 251 + x2 * 13 + t := Kit.w64 (by omega) (by omega)
  by_cases h200 : n > 200
  · rw [if_pos h200, if_pos m2.1, if_pos m2.2, if_neg (by omega)]
    simp only [w1, w2, w3, w4, w5, w6, w7, w8, w9]
    exact ⟨_, rfl, fun _ => tmod_in (by omega) hn1, fun h => by omega⟩
  · rw [if_neg h200, if_neg (by omega)]
    simp only [w1, w3, w4, w5]
    exact ⟨_, rfl, fun _ => tmod_in (by omega) hn1, fun h => by omega⟩
theorem pick_some {c : List Int} (hc : BytesOk c) {t : Int} (h0 : 0 ≤ t) (h1 : t ≤ 1000000000000) (l : List Int) (hl : 1 ≤ l.length) :
    ∃ v, spec_l1Pick.f c t l = some (v, t + 1) ∧ v ∈ l := by
  unfold spec_l1Pick.f
  obtain ⟨v, e, hv, _⟩ := next_some hc h0 h1 (l.length : Int)
  obtain ⟨g0, g1⟩ := hv (by omega)
  rw [e]
  simp only [Option.bind_some]
  rw [if_pos g0, if_pos g1]
  refine ⟨_, rfl, ?_⟩
  unfold Go.Proofs.YteibdjkfkcckkaaW.PrintWords.rd
  have hi : v.toNat < l.length := by omega
  rw [List.getD_eq_getElem?_getD, List.getElem?_eq_getElem hi]
  exact List.getElem_mem hi
theorem slicesEq_l0 (xs ys : List Int) (hn : xs.length ≤ 9223372036854775807) (hl : xs.length = ys.length) : ∀ (d i : Nat), i + d = xs.length → Ev (fun k => slices_Equal_int64_int64.l0 k xs ys (xs.length : Int) (i : Int)) (decide (xs.drop i = ys.drop i)) := by
  intro d
  induction d with
  | zero =>
    intro i hd
    refine Kit.Ev.up ?_
    simp only [slices_Equal_int64_int64.l0]
    refine Kit.Ev.neg (by omega) (Kit.Ev.const ?_)
    rw [List.drop_eq_nil_of_le (by omega), List.drop_eq_nil_of_le (by omega)]; simp
  | succ d ih =>
    intro i hd
    refine Kit.Ev.up ?_
    simp only [slices_Equal_int64_int64.l0]
    refine Kit.Ev.pos (by omega) (Kit.Ev.pos (by omega) (Kit.Ev.pos (by omega) (Kit.Ev.pos (by omega) ?_)))
    rw [rd_drop (xs := xs) (i := i) (by omega), rd_drop (xs := ys) (i := i) (by omega), w64n (n := xs.length) (by omega) hn]
    refine Kit.Ev.ite (fun h => ?_) (fun h => Kit.Ev.const ?_)
    · exact (ih (i + 1) (by omega)).eq (by rw [h]; simp)
    · simp [h]
theorem slicesEq_ev (xs ys : List Int) (hn : xs.length ≤ 9223372036854775807) : Ev (fun k => slices_Equal_int64_int64.f k xs ys) (decide (xs = ys)) := by
  unfold slices_Equal_int64_int64.f
  refine Kit.Ev.ite (fun h => ?_) (fun h => Kit.Ev.const ?_)
  · exact (slicesEq_l0 xs ys hn (by omega) xs.length 0 (by omega)).eq (by simp)
  · have : xs ≠ ys := fun e => h (by rw [e])
    simp [this]
def readsL (x : S58) : List Int := if x.f0 = 1 then [] else if x.f0 = 4 ∨ x.f0 = 6 then [x.f1, x.f2] else [x.f1]
def namedB (a0 a1 a2 a3 a4 a5 : Int) (l6 : List Int) : Bool := decide ((a0 = 1 → a1 = 0) ∧ (¬ (a0 = 4 ∨ a0 = 6) → a2 = 0) ∧ (¬ a0 = 2 → a4 = 0 ∧ a5 = 0) ∧ (¬ a0 = 3 → l6 = []) ∧ ((a0 = 3 ∨ a0 = 4 ∨ a0 = 5 ∨ a0 = 11 ∨ a0 = 12) → a3 = 0))
def named (x : S58) : Bool := namedB x.f0 x.f1 x.f2 x.f3 x.f4 x.f5 x.f6
def widthW (ws : List Int) (x : S58) : Int :=
  if x.f0 = 1 then x.f3 else if x.f0 = 3 then (x.f6.length : Int) else if x.f0 = 6 then rd ws x.f1 + rd ws x.f2 - x.f3 else if 7 ≤ x.f0 ∧ x.f0 ≤ 10 then x.f3 + 1 else rd ws x.f1
def cellOk (w c : Int) : Bool := decide (0 ≤ c ∧ c ≤ w - 1)
def faultW (ws : List Int) (x : S58) : Int :=
  if x.f0 = 1 then (if 1 ≤ x.f3 ∧ x.f3 ≤ 3 then 0 else 3)
  else if x.f0 = 2 then (if 0 ≤ x.f3 ∧ x.f3 ≤ rd ws x.f1 - 1 then (if 0 ≤ x.f4 ∧ x.f4 ≤ 2 then (if -1000000000 ≤ x.f5 ∧ x.f5 ≤ 1000000000 then 0 else 3) else 3) else 3)
  else if x.f0 = 3 then (if 1 ≤ (x.f6.length : Int) ∧ (x.f6.length : Int) ≤ 4 then (if x.f6.all (cellOk (rd ws x.f1)) = true then 0 else 3) else 2)
  else if x.f0 = 4 then (if rd ws x.f1 = rd ws x.f2 then 0 else 1)
  else if x.f0 = 6 then (if 1 ≤ x.f3 ∧ x.f3 ≤ min (rd ws x.f1) (rd ws x.f2) then (if rd ws x.f1 + rd ws x.f2 - x.f3 > 4 then 2 else 0) else 3)
  else if x.f0 = 7 then (if 0 ≤ x.f3 ∧ x.f3 ≤ min (rd ws x.f1) 3 then 0 else 3)
  else if 8 ≤ x.f0 ∧ x.f0 ≤ 10 then (if 0 ≤ x.f3 ∧ x.f3 ≤ rd ws x.f1 - 1 then 0 else 3)
  else 0
def readOk (plan : List S58) (i : Nat) (k : Int) : Bool := decide (0 ≤ k ∧ k ≤ (i : Int) - 1) && !decide ((rd_T58 plan k).f0 = 12)
def wsN (plan : List S58) : Nat → List Int
  | 0 => []
  | i + 1 => wsN plan i ++ [widthW (wsN plan i) (rd_T58 plan (i : Int))]
def codeN (plan : List S58) (i : Nat) : Int :=
  if 1 ≤ (rd_T58 plan (i : Int)).f0 ∧ (rd_T58 plan (i : Int)).f0 ≤ 12 then
    (if named (rd_T58 plan (i : Int)) = true then (if (readsL (rd_T58 plan (i : Int))).all (readOk plan i) = true then faultW (wsN plan i) (rd_T58 plan (i : Int)) else 3) else 1)
  else 5
theorem codeN_eq (plan : List S58) (i : Nat) : codeN plan i = if 1 ≤ (rd_T58 plan (i : Int)).f0 ∧ (rd_T58 plan (i : Int)).f0 ≤ 12 then
    (if named (rd_T58 plan (i : Int)) = true then (if (readsL (rd_T58 plan (i : Int))).all (readOk plan i) = true then faultW (wsN plan i) (rd_T58 plan (i : Int)) else 3) else 1)
  else 5 := rfl
def GoodN (plan : List S58) (i : Nat) : Prop := ∀ j, j < i → codeN plan j = 0
def planC (plan : List S58) : Nat → Nat → Int
  | 0, _ => 0
  | d + 1, i => if codeN plan i = 0 then planC plan d (i + 1) else codeN plan i
def planF (plan : List S58) : Int := if 1 ≤ plan.length ∧ plan.length ≤ 8 then planC plan plan.length 0 else 2
def wOf (plan : List S58) (i : Nat) : Int := widthW (wsN plan i) (rd_T58 plan (i : Int))
theorem wsN_len (plan : List S58) : ∀ i, (wsN plan i).length = i
  | 0 => rfl
  | i + 1 => by simp [wsN, wsN_len plan i]
theorem wsN_rd (plan : List S58) : ∀ {i j : Nat}, j < i → rd (wsN plan i) (j : Int) = wOf plan j
  | 0, _, h => by omega
  | i + 1, j, h => by
    rw [Kit.rd_nat, wsN, List.getD_eq_getElem?_getD]
    by_cases e : j = i
    · subst e
      rw [List.getElem?_append_right (by rw [wsN_len]; omega), wsN_len]
      simp [wOf]
    · rw [List.getElem?_append_left (by rw [wsN_len]; omega), ← List.getD_eq_getElem?_getD, ← Kit.rd_nat]
      exact wsN_rd plan (by omega)
theorem planC_zero (plan : List S58) : ∀ (d i : Nat), planC plan d i = 0 ↔ ∀ j, i ≤ j → j < i + d → codeN plan j = 0
  | 0, i => ⟨fun _ j h1 h2 => by omega, fun _ => rfl⟩
  | d + 1, i => by
    simp only [planC]
    by_cases h : codeN plan i = 0
    · rw [if_pos h, planC_zero plan d (i + 1)]
      constructor
      · intro g j h1 h2
        by_cases e : j = i
        · rw [e]; exact h
        · exact g j (by omega) (by omega)
      · intro g j h1 h2
        exact g j (by omega) (by omega)
    · rw [if_neg h]
      constructor
      · intro g; exact absurd g h
      · intro g; exact absurd (g i (by omega) (by omega)) h
theorem planF_good {plan : List S58} (h : planF plan = 0) : (1 ≤ plan.length ∧ plan.length ≤ 8) ∧ GoodN plan plan.length := by
  unfold planF at h
  by_cases h1 : 1 ≤ plan.length ∧ plan.length ≤ 8
  · rw [if_pos h1] at h
    exact ⟨h1, fun j hj => (planC_zero plan _ _).mp h j (by omega) (by omega)⟩
  · rw [if_neg h1] at h; omega
theorem op_cases {a : Int} (h : 1 ≤ a ∧ a ≤ 12) : a = 1 ∨ a = 2 ∨ a = 3 ∨ a = 4 ∨ a = 5 ∨ a = 6 ∨ a = 7 ∨ a = 8 ∨ a = 9 ∨ a = 10 ∨ a = 11 ∨ a = 12 := by omega
theorem codeN_parts {plan : List S58} {i : Nat} (h : codeN plan i = 0) : (1 ≤ (rd_T58 plan (i : Int)).f0 ∧ (rd_T58 plan (i : Int)).f0 ≤ 12) ∧ named (rd_T58 plan (i : Int)) = true ∧ (readsL (rd_T58 plan (i : Int))).all (readOk plan i) = true ∧ faultW (wsN plan i) (rd_T58 plan (i : Int)) = 0 := by
  unfold codeN at h
  by_cases h1 : 1 ≤ (rd_T58 plan (i : Int)).f0 ∧ (rd_T58 plan (i : Int)).f0 ≤ 12
  · rw [if_pos h1] at h
    by_cases h2 : named (rd_T58 plan (i : Int)) = true
    · rw [if_pos h2] at h
      by_cases h3 : (readsL (rd_T58 plan (i : Int))).all (readOk plan i) = true
      · rw [if_pos h3] at h
        exact ⟨h1, h2, h3, h⟩
      · rw [if_neg h3] at h; omega
    · rw [if_neg h2] at h; omega
  · rw [if_neg h1] at h; omega
theorem readOk_in {plan : List S58} {i : Nat} {k : Int} (h : readOk plan i k = true) : ∃ a : Nat, (a : Int) = k ∧ a < i ∧ ¬ (rd_T58 plan k).f0 = 12 := by
  simp only [readOk, Bool.and_eq_true, decide_eq_true_eq, Bool.not_eq_true', decide_eq_false_iff_not] at h
  exact ⟨k.toNat, by omega, by omega, h.2⟩
/-- The first that a node reads from. -/
theorem reads_a {plan : List S58} {i : Nat} {x : S58} (h : (readsL x).all (readOk plan i) = true) (h1 : ¬ x.f0 = 1) : ∃ a : Nat, (a : Int) = x.f1 ∧ a < i ∧ ¬ (rd_T58 plan x.f1).f0 = 12 := by
  refine readOk_in (List.all_eq_true.mp h _ ?_)
  unfold readsL
  rw [if_neg h1]
  split <;> simp
theorem reads_b {plan : List S58} {i : Nat} {x : S58} (h : (readsL x).all (readOk plan i) = true) (h2 : x.f0 = 4 ∨ x.f0 = 6) : ∃ b : Nat, (b : Int) = x.f2 ∧ b < i ∧ ¬ (rd_T58 plan x.f2).f0 = 12 := by
  refine readOk_in (List.all_eq_true.mp h _ ?_)
  unfold readsL
  rw [if_neg (by omega), if_pos h2]
  simp
theorem width_in {ws : List Int} {x : S58} (h0 : 1 ≤ x.f0 ∧ x.f0 ≤ 12) (hf : faultW ws x = 0) (ha : ¬ x.f0 = 1 → 1 ≤ rd ws x.f1 ∧ rd ws x.f1 ≤ 4) (hb : x.f0 = 4 ∨ x.f0 = 6 → 1 ≤ rd ws x.f2 ∧ rd ws x.f2 ≤ 4) : 1 ≤ widthW ws x ∧ widthW ws x ≤ 4 := by
  rcases op_cases h0 with h | h | h | h | h | h | h | h | h | h | h | h <;> simp only [faultW, widthW, h, Int.reduceEq, Int.reduceLE, if_true, if_false, false_or, or_false, true_or, or_true, and_self, and_false, false_and, and_true, true_and] at hf ha hb ⊢
  all_goals (repeat' split at hf)
  all_goals first | omega | (have := ha (by simp); omega) | (have := ha (by simp); have := hb (by simp); omega)
theorem wOf_in {plan : List S58} {i : Nat} (hg : GoodN plan i) : ∀ (n j : Nat), j < n → j < i → 1 ≤ wOf plan j ∧ wOf plan j ≤ 4
  | 0, _, h, _ => by omega
  | n + 1, j, hn, hj => by
    obtain ⟨h1, h2, h3, h4⟩ := codeN_parts (hg j hj)
    refine width_in h1 h4 (fun h => ?_) (fun h => ?_)
    · obtain ⟨a, ea, ha, _⟩ := reads_a h3 h
      rw [← ea, wsN_rd plan ha]
      exact wOf_in hg n a (by omega) (by omega)
    · obtain ⟨b, eb, hb, _⟩ := reads_b h3 h
      rw [← eb, wsN_rd plan hb]
      exact wOf_in hg n b (by omega) (by omega)
theorem rd_in {plan : List S58} {i : Nat} (hg : GoodN plan i) {a : Nat} (ha : a < i) : rd (wsN plan i) (a : Int) = wOf plan a ∧ 1 ≤ wOf plan a ∧ wOf plan a ≤ 4 := ⟨wsN_rd plan ha, wOf_in hg i a ha ha⟩
/-- A node feeds on another, by as many steps as it takes. -/
inductive Fd (plan : List S58) : Nat → Nat → Prop
  | one {a c : Nat} (h : (a : Int) ∈ readsL (rd_T58 plan (c : Int))) : Fd plan a c
  | step {a b c : Nat} (h : (a : Int) ∈ readsL (rd_T58 plan (b : Int))) (g : Fd plan b c) : Fd plan a c
theorem Fd.left {plan : List S58} {a c : Nat} : Fd plan a c ↔ ∃ b : Nat, (a : Int) ∈ readsL (rd_T58 plan (b : Int)) ∧ (b = c ∨ Fd plan b c) := by
  constructor
  · intro h
    cases h with
    | one h => exact ⟨c, h, .inl rfl⟩
    | step h g => exact ⟨_, h, .inr g⟩
  · rintro ⟨b, h, rfl | g⟩
    · exact .one h
    · exact .step h g
theorem Fd.snoc {plan : List S58} {a b c : Nat} (g : Fd plan a b) : (b : Int) ∈ readsL (rd_T58 plan (c : Int)) → Fd plan a c := by
  induction g with
  | one h => exact fun h2 => .step h (.one h2)
  | step h _ ih => exact fun h2 => .step h (ih h2)
theorem Fd.right {plan : List S58} {a c : Nat} : Fd plan a c ↔ ∃ b : Nat, (b : Int) ∈ readsL (rd_T58 plan (c : Int)) ∧ (b = a ∨ Fd plan a b) := by
  constructor
  · intro h
    induction h with
    | one h => exact ⟨_, h, .inl rfl⟩
    | step h g ih =>
      obtain ⟨b', h', e | e⟩ := ih
      · subst e; exact ⟨_, h', .inr (.one h)⟩
      · exact ⟨_, h', .inr (.step h e)⟩
  · rintro ⟨b, h, rfl | g⟩
    · exact .one h
    · exact g.snoc h
theorem reads_lt {plan : List S58} (hg : GoodN plan plan.length) {c : Nat} (hc : c < plan.length) {x : Int} (h : x ∈ readsL (rd_T58 plan (c : Int))) : ∃ b : Nat, (b : Int) = x ∧ b < c := by
  obtain ⟨b, h1, h2, _⟩ := readOk_in (List.all_eq_true.mp (codeN_parts (hg c hc)).2.2.1 _ h)
  exact ⟨b, h1, h2⟩
theorem Fd.lt {plan : List S58} (hg : GoodN plan plan.length) {a c : Nat} (h : Fd plan a c) : c < plan.length → a < c := by
  induction h with
  | one h => intro hc; obtain ⟨b, h1, h2⟩ := reads_lt hg hc h; omega
  | @step a b c h _ ih =>
    intro hc
    have := ih hc
    obtain ⟨b', h1, h2⟩ := reads_lt hg (c := b) (by omega) h
    omega
theorem readsL_len (x : S58) : (readsL x).length ≤ 1048576 := by
  unfold readsL
  split
  · simp
  · split <;> simp
theorem indexI_ev (B : Int → Bool) (xs : List Int) (hn : xs.length ≤ 1048576) : ∀ (d i : Nat) (q : Nat → Int → Option Bool), (∀ x ∈ xs, Ev (fun k => q k x) (B x)) → i + d = xs.length → ∃ r : Int, Ev (fun k => indexI.l0 (q k) k xs (xs.length : Int) (i : Int)) r ∧ (0 ≤ r ↔ ∃ x ∈ xs.drop i, B x = true) := by
  intro d
  induction d with
  | zero =>
    intro i q _ hd
    refine ⟨-1, Kit.Ev.up ?_, ?_⟩
    · simp only [indexI.l0]
      exact Kit.Ev.neg (by omega) (Kit.Ev.const rfl)
    · rw [List.drop_eq_nil_of_le (by omega)]; simp
  | succ d ih =>
    intro i q hq hd
    have hr := rd_drop (xs := xs) (i := i) (by omega)
    have hm : rd xs (i : Int) ∈ xs := by
      have : rd xs (i : Int) ∈ xs.drop i := by rw [hr]; exact List.mem_cons_self
      exact List.mem_of_mem_drop this
    have hq1 := Kit.Ev.shift (hq _ hm)
    by_cases h : B (rd xs (i : Int)) = true
    · refine ⟨(i : Int), Kit.Ev.up ?_, ?_⟩
      · simp only [indexI.l0]
        rw [h] at hq1
        exact Kit.Ev.pos (by omega) (Kit.Ev.pos (by omega) (Kit.Ev.pos (by omega) (Kit.Ev.then hq1 (Kit.Ev.pos rfl (Kit.Ev.const rfl)))))
      · rw [hr]
        exact ⟨fun _ => ⟨_, List.mem_cons_self, h⟩, fun _ => by omega⟩
    · have h' : B (rd xs (i : Int)) = false := by simpa using h
      rw [h'] at hq1
      obtain ⟨r, e, hiff⟩ := ih (i + 1) (fun k => q (k + 1)) (fun x hx => Kit.Ev.shift (hq x hx)) (by omega)
      refine ⟨r, Kit.Ev.up ?_, ?_⟩
      · simp only [indexI.l0]
        rw [w64n (n := xs.length) (by omega) (by omega)]
        exact Kit.Ev.pos (by omega) (Kit.Ev.pos (by omega) (Kit.Ev.pos (by omega) (Kit.Ev.then hq1 (Kit.Ev.neg (by decide) e))))
      · rw [hr, hiff]
        constructor
        · rintro ⟨x, h1, h2⟩; exact ⟨x, List.mem_cons_of_mem _ h1, h2⟩
        · rintro ⟨x, h1, h2⟩
          rcases List.mem_cons.mp h1 with e | e
          · subst e; exact absurd h2 h
          · exact ⟨x, e, h2⟩
theorem implReads_eq (x : S58) : impl_Node_reads.f x.f0 x.f1 x.f2 x.f3 x.f4 x.f5 x.f6 = some (readsL x) := by
  unfold impl_Node_reads.f readsL impl_twoSided.f
  by_cases h1 : x.f0 = 1
  · rw [if_pos h1, if_pos h1]
  · by_cases h4 : x.f0 = 4
    · rw [if_neg h1, if_neg h1, if_pos h4, if_pos (Or.inl h4)]; rfl
    · by_cases h6 : x.f0 = 6
      · rw [if_neg h1, if_neg h1, if_neg h4, if_pos (Or.inr h6)]; simp [h6]
      · rw [if_neg h1, if_neg h1, if_neg h4, if_neg (by omega)]; simp [h6]
theorem implFeeds_ev {plan : List S58} (hg : GoodN plan plan.length) (a : Nat) : ∀ (d c : Nat), c < plan.length → c < d → ∃ r : Bool, Ev (fun k => impl_feeds.f k plan (a : Int) (c : Int)) r ∧ (r = true ↔ Fd plan a c) := by
  intro d
  induction d with
  | zero => intro c _ h; omega
  | succ d ih =>
    intro c hc hd
    have hB : ∀ x : Int, ∃ b : Bool, x ∈ readsL (rd_T58 plan (c : Int)) → Ev (fun k => if x = (a : Int) then some true else impl_feeds.f k plan (a : Int) x) b ∧ (b = true ↔ ∃ n : Nat, (n : Int) = x ∧ (n = a ∨ Fd plan a n)) := by
      intro x
      by_cases hx : x ∈ readsL (rd_T58 plan (c : Int))
      · obtain ⟨n, h1, h2⟩ := reads_lt hg hc hx
        subst h1
        obtain ⟨r, e, hr⟩ := ih n (by omega) (by omega)
        by_cases hna : n = a
        · refine ⟨true, fun _ => ⟨Kit.Ev.pos (by omega) (Kit.Ev.const rfl), ⟨fun _ => ⟨n, rfl, .inl hna⟩, fun _ => rfl⟩⟩⟩
        · refine ⟨r, fun _ => ⟨Kit.Ev.neg (by omega) e, ?_⟩⟩
          rw [hr]
          constructor
          · intro h; exact ⟨n, rfl, .inr h⟩
          · rintro ⟨m, h1, h3⟩
            have : m = n := by omega
            subst this
            rcases h3 with h3 | h3
            · exact absurd h3 hna
            · exact h3
      · exact ⟨true, fun h => absurd h hx⟩
    obtain ⟨B, hB⟩ := Classical.axiomOfChoice hB
    obtain ⟨r, e, hr⟩ := indexI_ev B (readsL (rd_T58 plan (c : Int))) (readsL_len _) _ 0 (fun k x => if x = (a : Int) then some true else impl_feeds.f k plan (a : Int) x) (fun x hx => (hB x hx).1) (Nat.zero_add _)
    refine ⟨decide (r ≥ 0), Kit.Ev.up ?_, ?_⟩
    · simp only [impl_feeds.f]
      refine Kit.Ev.pos (by omega) (Kit.Ev.pos (by omega) (Kit.Ev.call (implReads_eq _) ?_))
      unfold containsI.f indexI.f
      exact Kit.Ev.then e (Kit.Ev.const rfl)
    · rw [decide_eq_true_iff, ge_iff_le, hr, Fd.right, List.drop_zero]
      constructor
      · rintro ⟨x, h1, h2⟩
        obtain ⟨n, h3, h4⟩ := (hB x h1).2.mp h2
        exact ⟨n, by rw [h3]; exact h1, h4⟩
      · rintro ⟨n, h1, h2⟩
        exact ⟨_, h1, (hB _ h1).2.mpr ⟨n, rfl, h2⟩⟩
theorem rdN_at {xs : List S58} {i : Nat} (h : i < xs.length) : rd_T58 xs (i : Int) = xs[i] := by simp [rd_T58, h]
theorem rdN_drop {xs : List S58} {i : Nat} (h : i < xs.length) : xs.drop i = rd_T58 xs (i : Int) :: xs.drop (i + 1) := by
  rw [rdN_at h]; exact List.drop_eq_getElem_cons h
theorem rdN_mem {xs : List S58} {i : Nat} (h : i < xs.length) : rd_T58 xs (i : Int) ∈ xs := by
  rw [rdN_at h]; exact List.getElem_mem h
/-- The rows are no longer than any machine's. -/
def FineN (l : List S58) : Prop := l.length ≤ 1048576 ∧ ∀ x ∈ l, x.f6.length ≤ 1048576
theorem FineN.n {l : List S58} (h : FineN l) : l.length ≤ 9223372036854775807 := by have := h.1; omega
theorem FineN.r {l : List S58} (h : FineN l) : ∀ x ∈ l, x.f6.length ≤ 9223372036854775807 := fun x hx => by have := h.2 x hx; omega
theorem evDec {α : Type} {c : Prop} [Decidable c] {g h : Nat → Option α} {r s : α} (hg : c → Ev g r) (hh : ¬ c → Ev h s) : Ev (fun k => if decide c = true then g k else h k) (if c then r else s) := by
  by_cases hc : c
  · rw [if_pos hc]; exact Kit.Ev.pos (decide_eq_true hc) (hg hc)
  · rw [if_neg hc]; exact Kit.Ev.neg (by simpa using hc) (hh hc)
theorem specWidthN_ev {plan : List S58} {i : Nat} (hi : i ≤ plan.length) (hg : GoodN plan i) : ∀ (n j : Nat), j < n → j < i → Ev (fun k => spec_l3Width.f k plan (j : Int)) (wOf plan j)
  | 0, _, h, _ => by omega
  | n + 1, j, hn, hj => by
    obtain ⟨h1, h2, h3, h4⟩ := codeN_parts (hg j hj)
    have hgj : GoodN plan j := fun q hq => hg q (by omega)
    have A : ¬ (rd_T58 plan (j : Int)).f0 = 1 → Ev (fun k => spec_l3Width.f k plan (rd_T58 plan (j : Int)).f1) (rd (wsN plan j) (rd_T58 plan (j : Int)).f1) ∧ 1 ≤ rd (wsN plan j) (rd_T58 plan (j : Int)).f1 ∧ rd (wsN plan j) (rd_T58 plan (j : Int)).f1 ≤ 4 := fun h => by
      obtain ⟨a, ea, ha, _⟩ := reads_a h3 h
      rw [← ea, wsN_rd plan ha]
      exact ⟨specWidthN_ev hi hg n a (by omega) (by omega), wOf_in hgj j a ha ha⟩
    have B : (rd_T58 plan (j : Int)).f0 = 4 ∨ (rd_T58 plan (j : Int)).f0 = 6 → Ev (fun k => spec_l3Width.f k plan (rd_T58 plan (j : Int)).f2) (rd (wsN plan j) (rd_T58 plan (j : Int)).f2) ∧ 1 ≤ rd (wsN plan j) (rd_T58 plan (j : Int)).f2 ∧ rd (wsN plan j) (rd_T58 plan (j : Int)).f2 ≤ 4 := fun h => by
      obtain ⟨a, ea, ha, _⟩ := reads_b h3 h
      rw [← ea, wsN_rd plan ha]
      exact ⟨specWidthN_ev hi hg n a (by omega) (by omega), wOf_in hgj j a ha ha⟩
    have W := wOf_in hg (j + 1) j (by omega) hj
    have e : wOf plan j = widthW (wsN plan j) (rd_T58 plan (j : Int)) := rfl
    rw [e] at W ⊢
    refine Kit.Ev.up ?_
    simp only [spec_l3Width.f]
    refine Kit.Ev.pos (by omega) (Kit.Ev.pos (by omega) ?_)
    generalize rd_T58 plan (j : Int) = x at *
    rcases op_cases h1 with h | h | h | h | h | h | h | h | h | h | h | h <;> simp only [widthW, h, Int.reduceEq, Int.reduceLE, if_true, if_false, false_or, or_false, true_or, or_true, and_self, and_false, false_and, and_true, true_and, not_false_eq_true, forall_const] at A B W ⊢
    · exact Kit.Ev.const rfl
    · exact Kit.Ev.then A.1 (Kit.Ev.const rfl)
    · exact Kit.Ev.const rfl
    · exact Kit.Ev.then A.1 (Kit.Ev.const rfl)
    · exact Kit.Ev.then A.1 (Kit.Ev.const rfl)
    · refine Kit.Ev.then A.1 (Kit.Ev.then B.1 (Kit.Ev.const ?_))
      rw [Kit.w64 (x := _ + _) (by omega) (by omega), Kit.w64 (by omega) (by omega)]
    · exact Kit.Ev.const (by rw [Kit.w64 (by omega) (by omega)])
    · exact Kit.Ev.const (by rw [Kit.w64 (by omega) (by omega)])
    · exact Kit.Ev.const (by rw [Kit.w64 (by omega) (by omega)])
    · exact Kit.Ev.const (by rw [Kit.w64 (by omega) (by omega)])
    · exact Kit.Ev.then A.1 (Kit.Ev.const rfl)
    · exact Kit.Ev.then A.1 (Kit.Ev.const rfl)
theorem specReads_eq {x : S58} : spec_l3Reads.f x.f0 = some ((readsL x).length : Int) := by
  unfold spec_l3Reads.f readsL
  by_cases h1 : x.f0 = 1
  · rw [if_pos h1, if_pos h1]; rfl
  · by_cases h4 : x.f0 = 4
    · rw [if_neg h1, if_neg h1, if_pos h4, if_pos (Or.inl h4)]; rfl
    · by_cases h6 : x.f0 = 6
      · rw [if_neg h1, if_neg h1, if_neg h4, if_pos h6, if_pos (Or.inr h6)]; rfl
      · rw [if_neg h1, if_neg h1, if_neg h4, if_neg h6, if_neg (by omega)]; rfl
set_option maxHeartbeats 8000000 in
theorem specNamed_ev (a0 a1 a2 a3 a4 a5 : Int) (l6 : List Int) (h0 : 1 ≤ a0 ∧ a0 ≤ 12) : Ev (fun k => spec_l3Named.f k a0 a1 a2 a3 a4 a5 l6) (namedB a0 a1 a2 a3 a4 a5 l6) := by
  refine Kit.Ev.up (Kit.Ev.up (Kit.Ev.all (fun k => ?_)))
  have h6 : decide ((l6.length : Int) > 0) = !decide (l6 = []) := by cases l6 <;> simp <;> omega
  rcases op_cases h0 with rfl | rfl | rfl | rfl | rfl | rfl | rfl | rfl | rfl | rfl | rfl | rfl <;>
  simp only [spec_l3Named.f, spec_l3Named.j0, spec_l3Named.j1, spec_l3Reads.f, namedB, h6, Int.reduceEq, Int.reduceLT, if_true, if_false, Option.bind_some, Bool.false_eq_true, not_true_eq_false, not_false_eq_true, forall_const, false_or, or_false, true_or, or_true, and_self, and_false, false_and, and_true, true_and, false_implies] <;>
  by_cases c1 : a1 = 0 <;> by_cases c2 : a2 = 0 <;> by_cases c3 : a3 = 0 <;> by_cases c4 : a4 = 0 <;> by_cases c5 : a5 = 0 <;> by_cases c6 : l6 = [] <;> simp [c1, c2, c3, c4, c5, c6]
theorem specCells_l1 (w a0 a1 a2 a3 a4 a5 : Int) (l6 : List Int) (hw : -1000 ≤ w ∧ w ≤ 1000) (hn : l6.length ≤ 1048576) : ∀ (d i : Nat), i + d = l6.length → Ev (fun k => spec_l3Node.l1 k w (i : Int) a0 a1 a2 a3 a4 a5 l6) (if (l6.drop i).all (cellOk w) = true then 0 else 3) := by
  intro d
  induction d with
  | zero =>
    intro i hd
    refine Kit.Ev.up ?_
    simp only [spec_l3Node.l1]
    refine Kit.Ev.neg (by omega) (Kit.Ev.const ?_)
    rw [List.drop_eq_nil_of_le (by omega)]; simp
  | succ d ih =>
    intro i hd
    refine Kit.Ev.up ?_
    simp only [spec_l3Node.l1]
    refine Kit.Ev.pos (by omega) (Kit.Ev.pos (by omega) ?_)
    rw [rd_drop (xs := l6) (i := i) (by omega), w64n (n := l6.length) (by omega) (by omega), specIn_eq, Kit.w64 (x := w - 1) (by omega) (by omega)]
    simp only [Option.bind_some]
    refine Kit.Ev.ite (fun h => ?_) (fun h => Kit.Ev.const ?_)
    · exact (ih (i + 1) (by omega)).eq (by have h' : cellOk w (rd l6 (i : Int)) = true := h; simp [h'])
    · have h' : ¬ cellOk w (rd l6 (i : Int)) = true := h
      simp [h']
theorem specNode_tail {plan : List S58} {i : Nat} (hi : i < plan.length) (hg : GoodN plan i) {x : S58} (h1 : 1 ≤ x.f0 ∧ x.f0 ≤ 12) (h3 : (readsL x).all (readOk plan i) = true) (hl : x.f6.length ≤ 1048576) :
    Ev (fun k => spec_l3Node.l0 k plan (i : Int) ((readsL x).length : Int) x.f0 x.f1 x.f2 x.f3 x.f4 x.f5 x.f6) (faultW (wsN plan i) x) := by
  have A : ¬ x.f0 = 1 → Ev (fun k => spec_l3Width.f k plan x.f1) (rd (wsN plan i) x.f1) ∧ 1 ≤ rd (wsN plan i) x.f1 ∧ rd (wsN plan i) x.f1 ≤ 4 := fun h => by
    obtain ⟨a, ea, ha, _⟩ := reads_a h3 h
    rw [← ea, wsN_rd plan ha]
    exact ⟨specWidthN_ev (by omega) hg i a ha ha, wOf_in hg i a ha ha⟩
  have B : x.f0 = 4 ∨ x.f0 = 6 → Ev (fun k => spec_l3Width.f k plan x.f2) (rd (wsN plan i) x.f2) ∧ 1 ≤ rd (wsN plan i) x.f2 ∧ rd (wsN plan i) x.f2 ≤ 4 := fun h => by
    obtain ⟨a, ea, ha, _⟩ := reads_b h3 h
    rw [← ea, wsN_rd plan ha]
    exact ⟨specWidthN_ev (by omega) hg i a ha ha, wOf_in hg i a ha ha⟩
  refine Kit.Ev.up ?_
  simp only [spec_l3Node.l0]
  refine Kit.Ev.call specReads_eq (Kit.Ev.neg (by omega) ?_)
  have mnE : ∀ a b : Int, spec_l1Min.f a b = some (min a b) := fun a b => by
    unfold spec_l1Min.f
    by_cases c : a < b
    · rw [if_pos c]; congr 1; omega
    · rw [if_neg c]; congr 1; omega
  rcases op_cases h1 with h | h | h | h | h | h | h | h | h | h | h | h <;> simp only [faultW, h, Int.reduceEq, Int.reduceLE, if_true, if_false, false_or, or_false, true_or, or_true, and_self, and_false, false_and, and_true, true_and, not_false_eq_true, forall_const] at A B ⊢
  · exact Kit.Ev.call (specIn_eq _ _ _) (evDec (fun _ => Kit.Ev.const rfl) (fun _ => Kit.Ev.const rfl))
  · refine Kit.Ev.then A.1 (Kit.Ev.call (specIn_eq _ _ _) ?_)
    rw [Kit.w64 (by omega) (by omega)]
    refine evDec (fun _ => Kit.Ev.call (specIn_eq _ _ _) (evDec (fun _ => Kit.Ev.call (specIn_eq _ _ _) (evDec (fun _ => Kit.Ev.const rfl) (fun _ => Kit.Ev.const rfl))) (fun _ => Kit.Ev.const rfl))) (fun _ => Kit.Ev.const rfl)
  · refine Kit.Ev.then A.1 ?_
    by_cases c : 1 ≤ (x.f6.length : Int) ∧ (x.f6.length : Int) ≤ 4
    · rw [if_pos c]
      refine Kit.Ev.neg (by omega) (Kit.Ev.up ?_)
      simp only [spec_l3Node.j1]
      refine Kit.Ev.neg (by simp; omega) ?_
      exact (specCells_l1 _ _ _ _ _ _ _ _ (by omega) hl x.f6.length 0 (by omega)).eq (by simp)
    · rw [if_neg c]
      refine Kit.Ev.ite (fun _ => Kit.Ev.up ?_) (fun _ => Kit.Ev.up ?_) <;> simp only [spec_l3Node.j1]
      · exact Kit.Ev.pos trivial (Kit.Ev.const rfl)
      · exact Kit.Ev.pos (by simp; omega) (Kit.Ev.const rfl)
  · exact Kit.Ev.then A.1 (Kit.Ev.then B.1 (Kit.Ev.ite2 (fun _ => Kit.Ev.const rfl) (fun _ => Kit.Ev.const rfl)))
  · refine Kit.Ev.then A.1 (Kit.Ev.up ?_)
    simp only [spec_l3Node.j3]
    exact Kit.Ev.neg (by decide) (Kit.Ev.const rfl)
  · refine Kit.Ev.then A.1 (Kit.Ev.then B.1 (Kit.Ev.call (mnE _ _) (Kit.Ev.call (specIn_eq _ _ _) ?_)))
    refine evDec (fun c => ?_) (fun _ => Kit.Ev.const rfl)
    rw [Kit.w64 (x := rd (wsN plan i) x.f1 + rd (wsN plan i) x.f2) (by omega) (by omega), Kit.w64 (by omega) (by omega)]
    exact Kit.Ev.ite2 (fun _ => Kit.Ev.const rfl) (fun _ => Kit.Ev.const rfl)
  · refine Kit.Ev.then A.1 (Kit.Ev.call (mnE _ _) (Kit.Ev.call (specIn_eq _ _ _) ?_))
    exact evDec (fun _ => Kit.Ev.const rfl) (fun _ => Kit.Ev.const rfl)
  · refine Kit.Ev.then A.1 (Kit.Ev.up ?_)
    simp only [spec_l3Node.j3]
    refine Kit.Ev.pos (by decide) (Kit.Ev.call (specIn_eq _ _ _) ?_)
    rw [Kit.w64 (by omega) (by omega)]
    exact evDec (fun _ => Kit.Ev.const rfl) (fun _ => Kit.Ev.const rfl)
  · refine Kit.Ev.then A.1 (Kit.Ev.up ?_)
    simp only [spec_l3Node.j3]
    refine Kit.Ev.pos (by decide) (Kit.Ev.call (specIn_eq _ _ _) ?_)
    rw [Kit.w64 (by omega) (by omega)]
    exact evDec (fun _ => Kit.Ev.const rfl) (fun _ => Kit.Ev.const rfl)
  · refine Kit.Ev.then A.1 (Kit.Ev.up ?_)
    simp only [spec_l3Node.j3]
    refine Kit.Ev.pos (by decide) (Kit.Ev.call (specIn_eq _ _ _) ?_)
    rw [Kit.w64 (by omega) (by omega)]
    exact evDec (fun _ => Kit.Ev.const rfl) (fun _ => Kit.Ev.const rfl)
  · refine Kit.Ev.then A.1 (Kit.Ev.up ?_)
    simp only [spec_l3Node.j3]
    exact Kit.Ev.neg (by decide) (Kit.Ev.const rfl)
  · refine Kit.Ev.then A.1 (Kit.Ev.up ?_)
    simp only [spec_l3Node.j3]
    exact Kit.Ev.neg (by decide) (Kit.Ev.const rfl)
/-- One thing that a node reads from is looked at. -/
theorem specNode_read {plan : List S58} {i : Nat} (hi : i < plan.length) (hn : plan.length ≤ 1048576) {v r : Int} {f : Nat → Option Int} (hf : readOk plan i v = true → Ev f r) :
    Ev (fun k => (spec_l1In.f v 0 (wrap64 ((i : Int) - 1))).bind fun t => if t = true then (if 0 ≤ v then (if v < (plan.length : Int) then (if (rd_T58 plan v).f0 = 12 then some 3 else f k) else none) else none) else some 3) (if readOk plan i v = true then r else 3) := by
  refine Kit.Ev.call (specIn_eq _ _ _) ?_
  rw [Kit.w64 (by omega) (by omega)]
  by_cases c : 0 ≤ v ∧ v ≤ (i : Int) - 1
  · refine Kit.Ev.pos (decide_eq_true c) (Kit.Ev.pos c.1 (Kit.Ev.pos (by omega) ?_))
    by_cases c2 : (rd_T58 plan v).f0 = 12
    · refine Kit.Ev.pos c2 (Kit.Ev.const ?_)
      rw [if_neg (by simp [readOk, c2])]
    · refine Kit.Ev.neg c2 ?_
      have hr : readOk plan i v = true := by simp [readOk, c2]; omega
      rw [if_pos hr]
      exact hf hr
  · refine Kit.Ev.neg (by simpa using c) (Kit.Ev.const ?_)
    rw [if_neg (by simp only [readOk, Bool.and_eq_true, decide_eq_true_eq]; intro h; exact c h.1)]
theorem specNode_ev {plan : List S58} (hx : FineN plan) {i : Nat} (hi : i < plan.length) (hg : GoodN plan i) : Ev (fun k => spec_l3Node.f k plan (i : Int)) (codeN plan i) := by
  have hl := hx.2 _ (rdN_mem (xs := plan) (i := i) hi)
  have hn := hx.1
  unfold spec_l3Node.f codeN
  refine Kit.Ev.pos (by omega) (Kit.Ev.pos (by omega) (Kit.Ev.call (specIn_eq _ _ _) ?_))
  generalize rd_T58 plan (i : Int) = x at *
  refine evDec (fun h1 => ?_) (fun _ => Kit.Ev.const rfl)
  refine Kit.Ev.then (specNamed_ev _ _ _ _ _ _ _ h1) ?_
  refine Kit.Ev.ite2 (fun _ => ?_) (fun _ => Kit.Ev.const rfl)
  have T : (readsL x).all (readOk plan i) = true → _ := fun h3 => specNode_tail hi hg h1 h3 hl
  unfold readsL at T ⊢
  by_cases c1 : x.f0 = 1
  · simp only [if_pos c1, List.all_nil, if_true, List.length_nil] at T ⊢
    exact T trivial
  · by_cases c2 : x.f0 = 4 ∨ x.f0 = 6
    · simp only [if_neg c1, if_pos c2, List.all_cons, List.all_nil, Bool.and_true, List.length_cons, List.length_nil] at T ⊢
      refine Kit.Ev.up ?_
      simp only [spec_l3Node.l0]
      refine Kit.Ev.call specReads_eq ?_
      have rl : ((readsL x).length : Int) = 2 := by unfold readsL; rw [if_neg c1, if_pos c2]; rfl
      rw [rl]
      refine Kit.Ev.pos (by omega) (Kit.Ev.neg (by omega) ?_)
      have e : (if (readOk plan i x.f1 && readOk plan i x.f2) = true then faultW (wsN plan i) x else 3) = (if readOk plan i x.f1 = true then (if readOk plan i x.f2 = true then faultW (wsN plan i) x else 3) else 3) := by
        by_cases d1 : readOk plan i x.f1 = true <;> by_cases d2 : readOk plan i x.f2 = true <;> simp [d1, d2]
      rw [e]
      refine specNode_read hi hn (fun r1 => ?_)
      rw [show wrap64 (0 + 1) = 1 from by rw [Kit.w64 (by omega) (by omega)]; rfl]
      refine Kit.Ev.up ?_
      simp only [spec_l3Node.l0]
      refine Kit.Ev.call specReads_eq ?_
      rw [rl]
      refine Kit.Ev.pos (by omega) (Kit.Ev.pos trivial ?_)
      refine specNode_read hi hn (fun r2 => ?_)
      rw [show wrap64 (1 + 1) = 2 from by rw [Kit.w64 (by omega) (by omega)]; rfl]
      exact T (by rw [r1, r2]; rfl)
    · simp only [if_neg c1, if_neg c2, List.all_cons, List.all_nil, Bool.and_true, List.length_cons, List.length_nil] at T ⊢
      refine Kit.Ev.up ?_
      simp only [spec_l3Node.l0]
      refine Kit.Ev.call specReads_eq ?_
      have rl : ((readsL x).length : Int) = 1 := by unfold readsL; rw [if_neg c1, if_neg c2]; rfl
      rw [rl]
      refine Kit.Ev.pos (by omega) (Kit.Ev.neg (by omega) ?_)
      refine specNode_read hi hn (fun r1 => ?_)
      rw [show wrap64 (0 + 1) = 1 from by rw [Kit.w64 (by omega) (by omega)]; rfl]
      exact T r1
theorem specPlan_l0 {plan : List S58} (hx : FineN plan) : ∀ (d i : Nat), i + d = plan.length → GoodN plan i → Ev (fun k => spec_PlanFault.l0 k plan (i : Int)) (planC plan d i)
  | 0, i, hd, hg => by
    refine Kit.Ev.up ?_
    simp only [spec_PlanFault.l0, planC]
    exact Kit.Ev.neg (by omega) (Kit.Ev.const rfl)
  | d + 1, i, hd, hg => by
    refine Kit.Ev.up ?_
    simp only [spec_PlanFault.l0, planC]
    refine Kit.Ev.pos (by omega) (Kit.Ev.then (specNode_ev hx (by omega) hg) (Kit.Ev.ite2 (fun h => ?_) (fun _ => Kit.Ev.const rfl)))
    rw [w64n (n := plan.length) (by omega) hx.n]
    refine specPlan_l0 hx d (i + 1) (by omega) (fun j hj => ?_)
    by_cases e : j = i
    · rw [e]; exact h
    · exact hg j (by omega)
theorem specPlan_ev {plan : List S58} (hx : FineN plan) : Ev (fun k => spec_PlanFault.f k plan) (planF plan) := by
  unfold spec_PlanFault.f planF
  by_cases c : 1 ≤ plan.length ∧ plan.length ≤ 8
  · rw [if_pos c]
    refine Kit.Ev.neg (by omega) (Kit.Ev.up ?_)
    simp only [spec_PlanFault.j0]
    exact Kit.Ev.neg (by simp; omega) (specPlan_l0 hx plan.length 0 (by omega) (fun j hj => by omega))
  · rw [if_neg c]
    refine Kit.Ev.ite (fun _ => Kit.Ev.up ?_) (fun _ => Kit.Ev.up ?_) <;> simp only [spec_PlanFault.j0]
    · exact Kit.Ev.pos trivial (Kit.Ev.const rfl)
    · exact Kit.Ev.pos (by simp; omega) (Kit.Ev.const rfl)
def plainT (a0 a1 a2 a3 a4 a5 : Int) (l6 : List Int) : Int × Int × Int × Int × Int × Int × List Int :=
  (a0, if a0 = 1 then 0 else a1, if a0 = 4 ∨ a0 = 6 then a2 else 0, if a0 = 3 ∨ a0 = 4 ∨ a0 = 5 ∨ a0 = 11 ∨ a0 = 12 then 0 else a3, if a0 = 2 then a4 else 0, if a0 = 2 then a5 else 0, if a0 = 3 then l6 else [])
theorem plain_ev (a0 a1 a2 a3 a4 a5 : Int) (l6 : List Int) (h0 : 1 ≤ a0 ∧ a0 ≤ 12) : Ev (fun k => impl_Node_plain.f k a0 a1 a2 a3 a4 a5 l6) (plainT a0 a1 a2 a3 a4 a5 l6) := by
  refine Kit.Ev.up (Kit.Ev.up (Kit.Ev.up (Kit.Ev.all (fun k => ?_))))
  rcases op_cases h0 with rfl | rfl | rfl | rfl | rfl | rfl | rfl | rfl | rfl | rfl | rfl | rfl <;>
  simp [impl_Node_plain.f, impl_Node_plain.j0, impl_Node_plain.j1, impl_Node_plain.j2, impl_twoSided.f, plainT]
theorem same_plain (a0 a1 a2 a3 a4 a5 : Int) (l6 : List Int) (hl : l6.length ≤ 1048576) :
    Ev (fun k => impl_sameNode.f k a0 a1 a2 a3 a4 a5 l6 (plainT a0 a1 a2 a3 a4 a5 l6).1 (plainT a0 a1 a2 a3 a4 a5 l6).2.1 (plainT a0 a1 a2 a3 a4 a5 l6).2.2.1 (plainT a0 a1 a2 a3 a4 a5 l6).2.2.2.1 (plainT a0 a1 a2 a3 a4 a5 l6).2.2.2.2.1 (plainT a0 a1 a2 a3 a4 a5 l6).2.2.2.2.2.1 (plainT a0 a1 a2 a3 a4 a5 l6).2.2.2.2.2.2) (namedB a0 a1 a2 a3 a4 a5 l6) := by
  unfold impl_sameNode.f
  simp only [plainT]
  have key : namedB a0 a1 a2 a3 a4 a5 l6 = (if a1 = (if a0 = 1 then 0 else a1) then (if a2 = (if a0 = 4 ∨ a0 = 6 then a2 else 0) then (if a3 = (if a0 = 3 ∨ a0 = 4 ∨ a0 = 5 ∨ a0 = 11 ∨ a0 = 12 then 0 else a3) then (if a4 = (if a0 = 2 then a4 else 0) then (if a5 = (if a0 = 2 then a5 else 0) then decide (l6 = (if a0 = 3 then l6 else [])) else false) else false) else false) else false) else false) := by
    have i1 : (a1 = (if a0 = 1 then 0 else a1)) ↔ (a0 = 1 → a1 = 0) := by by_cases h : a0 = 1 <;> simp [h]
    have i2 : (a2 = (if a0 = 4 ∨ a0 = 6 then a2 else 0)) ↔ (¬ (a0 = 4 ∨ a0 = 6) → a2 = 0) := by by_cases h : a0 = 4 ∨ a0 = 6 <;> simp [h]
    have i3 : (a3 = (if a0 = 3 ∨ a0 = 4 ∨ a0 = 5 ∨ a0 = 11 ∨ a0 = 12 then 0 else a3)) ↔ ((a0 = 3 ∨ a0 = 4 ∨ a0 = 5 ∨ a0 = 11 ∨ a0 = 12) → a3 = 0) := by by_cases h : a0 = 3 ∨ a0 = 4 ∨ a0 = 5 ∨ a0 = 11 ∨ a0 = 12 <;> simp [h]
    have i4 : (a4 = (if a0 = 2 then a4 else 0)) ↔ (¬ a0 = 2 → a4 = 0) := by by_cases h : a0 = 2 <;> simp [h]
    have i5 : (a5 = (if a0 = 2 then a5 else 0)) ↔ (¬ a0 = 2 → a5 = 0) := by by_cases h : a0 = 2 <;> simp [h]
    have i6 : (l6 = (if a0 = 3 then l6 else [])) ↔ (¬ a0 = 3 → l6 = []) := by by_cases h : a0 = 3 <;> simp [h]
    unfold namedB
    rw [Bool.eq_iff_iff]
    simp only [Bool.if_false_right, Bool.and_eq_true, decide_eq_true_eq]
    rw [i1, i2, i3, i4, i5, i6]
    constructor
    · rintro ⟨p1, p2, p45, p6, p3⟩; exact ⟨p1, p2, p3, fun h => (p45 h).1, fun h => (p45 h).2, p6⟩
    · rintro ⟨p1, p2, p3, p4, p5, p6⟩; exact ⟨p1, p2, fun h => ⟨p4 h, p5 h⟩, p6, p3⟩
  rw [key]
  refine Kit.Ev.pos trivial (Kit.Ev.ite2 (fun _ => Kit.Ev.ite2 (fun _ => Kit.Ev.ite2 (fun _ => Kit.Ev.ite2 (fun _ => Kit.Ev.ite2 (fun _ => ?_) (fun _ => Kit.Ev.const rfl)) (fun _ => Kit.Ev.const rfl)) (fun _ => Kit.Ev.const rfl)) (fun _ => Kit.Ev.const rfl)) (fun _ => Kit.Ev.const rfl))
  exact Kit.Ev.then (slicesEq_ev _ _ (by omega)) (Kit.Ev.const rfl)
theorem implWidthN_eq {ws : List Int} {x : S58} (h1 : 1 ≤ x.f0 ∧ x.f0 ≤ 12) (ha : ¬ x.f0 = 1 → 0 ≤ x.f1 ∧ x.f1 < (ws.length : Int) ∧ 1 ≤ rd ws x.f1 ∧ rd ws x.f1 ≤ 4) (hb : x.f0 = 4 ∨ x.f0 = 6 → 0 ≤ x.f2 ∧ x.f2 < (ws.length : Int) ∧ 1 ≤ rd ws x.f2 ∧ rd ws x.f2 ≤ 4) (h3 : ¬ x.f0 = 3 → ¬ x.f0 = 1 → -1000 ≤ x.f3 ∧ x.f3 ≤ 1000) :
    impl_Node_width.f x.f0 x.f1 x.f2 x.f3 x.f4 x.f5 x.f6 ws = some (widthW ws x) := by
  unfold impl_Node_width.f impl_grouped.f
  rw [implIn_eq]
  rcases op_cases h1 with h | h | h | h | h | h | h | h | h | h | h | h <;> simp only [widthW, impl_size_int64.f, h, Int.reduceEq, Int.reduceLE, if_true, if_false, false_or, or_false, true_or, or_true, and_self, and_false, false_and, and_true, true_and, not_false_eq_true, forall_const, Option.bind_some, decide_true, decide_false, Bool.false_eq_true] at ha hb h3 ⊢
  · rw [if_pos ha.1, if_pos ha.2.1]
  · rw [if_pos ha.1, if_pos ha.2.1]
  · rw [if_pos ha.1, if_pos ha.2.1]
  · rw [if_pos ha.1, if_pos ha.2.1, if_pos hb.1, if_pos hb.2.1, Kit.w64 (x := _ + _) (by omega) (by omega), Kit.w64 (by omega) (by omega)]
  · rw [Kit.w64 (by omega) (by omega)]
  · rw [Kit.w64 (by omega) (by omega)]
  · rw [Kit.w64 (by omega) (by omega)]
  · rw [Kit.w64 (by omega) (by omega)]
  · rw [if_pos ha.1, if_pos ha.2.1]
  · rw [if_pos ha.1, if_pos ha.2.1]
theorem implCells_l0 (ws : List Int) (a0 a1 a2 a3 a4 a5 : Int) (l6 l7 : List Int) (ha : 0 ≤ a1 ∧ a1 < (ws.length : Int)) (hw : -1000 ≤ rd ws a1 ∧ rd ws a1 ≤ 1000) (hn : l6.length ≤ 1048576) : ∀ (d i : Nat), i + d = l6.length → Ev (fun k => impl_Node_fault.l0 k ws l6 (l6.length : Int) (i : Int) a0 a1 a2 a3 a4 a5 l7) (if (l6.drop i).all (cellOk (rd ws a1)) = true then 0 else 3) := by
  intro d
  induction d with
  | zero =>
    intro i hd
    refine Kit.Ev.up ?_
    simp only [impl_Node_fault.l0]
    refine Kit.Ev.neg (by omega) (Kit.Ev.const ?_)
    rw [List.drop_eq_nil_of_le (by omega)]; simp
  | succ d ih =>
    intro i hd
    refine Kit.Ev.up ?_
    simp only [impl_Node_fault.l0]
    refine Kit.Ev.pos (by omega) (Kit.Ev.pos (by omega) (Kit.Ev.pos (by omega) (Kit.Ev.pos ha.1 (Kit.Ev.pos ha.2 ?_))))
    rw [rd_drop (xs := l6) (i := i) (by omega), w64n (n := l6.length) (by omega) (by omega), implIn_eq, Kit.w64 (x := rd ws a1 - 1) (by omega) (by omega)]
    simp only [Option.bind_some]
    refine Kit.Ev.ite (fun h => ?_) (fun h => Kit.Ev.const ?_)
    · exact (ih (i + 1) (by omega)).eq (by have h' : cellOk (rd ws a1) (rd l6 (i : Int)) = true := h; simp [h'])
    · have h' : ¬ cellOk (rd ws a1) (rd l6 (i : Int)) = true := h
      simp [h']
theorem implFaultN_ev {ws : List Int} {x : S58} (h1 : 1 ≤ x.f0 ∧ x.f0 ≤ 12) (ha : ¬ x.f0 = 1 → 0 ≤ x.f1 ∧ x.f1 < (ws.length : Int) ∧ 1 ≤ rd ws x.f1 ∧ rd ws x.f1 ≤ 4) (hb : x.f0 = 4 ∨ x.f0 = 6 → 0 ≤ x.f2 ∧ x.f2 < (ws.length : Int) ∧ 1 ≤ rd ws x.f2 ∧ rd ws x.f2 ≤ 4) (hl : x.f6.length ≤ 1048576) :
    Ev (fun k => impl_Node_fault.f k x.f0 x.f1 x.f2 x.f3 x.f4 x.f5 x.f6 ws) (faultW ws x) := by
  have mnE : ∀ a b : Int, mn a b = min a b := fun a b => by unfold mn; split <;> omega
  have WE : ∀ c : ¬ x.f0 = 3 → ¬ x.f0 = 1 → -1000 ≤ x.f3 ∧ x.f3 ≤ 1000, _ := fun c => implWidthN_eq h1 ha hb c
  unfold impl_Node_fault.f
  simp only [mnE]
  rcases op_cases h1 with h | h | h | h | h | h | h | h | h | h | h | h <;> simp only [faultW, impl_size_int64.f, h, Int.reduceEq, Int.reduceLE, if_true, if_false, false_or, or_false, true_or, or_true, and_self, and_false, false_and, and_true, true_and, not_false_eq_true, forall_const, Option.bind_some] at ha hb WE ⊢
  · exact Kit.Ev.call (implIn_eq _ _ _) (evDec (fun _ => Kit.Ev.const rfl) (fun _ => Kit.Ev.const rfl))
  · refine Kit.Ev.pos ha.1 (Kit.Ev.pos ha.2.1 (Kit.Ev.call (implIn_eq _ _ _) ?_))
    rw [Kit.w64 (by omega) (by omega)]
    refine evDec (fun _ => Kit.Ev.call (implIn_eq _ _ _) (evDec (fun _ => Kit.Ev.call (implIn_eq _ _ _) (evDec (fun _ => Kit.Ev.const rfl) (fun _ => Kit.Ev.const rfl))) (fun _ => Kit.Ev.const rfl))) (fun _ => Kit.Ev.const rfl)
  · refine Kit.Ev.call (implIn_eq _ _ _) (evDec (fun _ => ?_) (fun _ => Kit.Ev.const rfl))
    exact (implCells_l0 ws _ x.f1 _ _ _ _ x.f6 x.f6 ⟨ha.1, ha.2.1⟩ (by omega) hl x.f6.length 0 (by omega)).eq (by simp)
  · exact Kit.Ev.pos ha.1 (Kit.Ev.pos ha.2.1 (Kit.Ev.pos hb.1 (Kit.Ev.pos hb.2.1 (Kit.Ev.ite2 (fun _ => Kit.Ev.const rfl) (fun _ => Kit.Ev.const rfl)))))
  · refine Kit.Ev.up ?_
    simp only [impl_Node_fault.j1]
    exact Kit.Ev.neg (by decide) (Kit.Ev.const rfl)
  · refine Kit.Ev.pos ha.1 (Kit.Ev.pos ha.2.1 (Kit.Ev.pos hb.1 (Kit.Ev.pos hb.2.1 (Kit.Ev.call (implIn_eq _ _ _) ?_))))
    refine evDec (fun c => ?_) (fun _ => Kit.Ev.const rfl)
    refine Kit.Ev.call (WE (by omega)) ?_
    have e : widthW ws x = rd ws x.f1 + rd ws x.f2 - x.f3 := by simp [widthW, h]
    rw [e]
    exact Kit.Ev.ite2 (fun _ => Kit.Ev.const rfl) (fun _ => Kit.Ev.const rfl)
  · exact Kit.Ev.pos ha.1 (Kit.Ev.pos ha.2.1 (Kit.Ev.call (implIn_eq _ _ _) (evDec (fun _ => Kit.Ev.const rfl) (fun _ => Kit.Ev.const rfl))))
  · refine Kit.Ev.up ?_
    simp only [impl_Node_fault.j1]
    refine Kit.Ev.pos (by decide) (Kit.Ev.pos ha.1 (Kit.Ev.pos ha.2.1 (Kit.Ev.call (implIn_eq _ _ _) ?_)))
    rw [Kit.w64 (by omega) (by omega)]
    exact evDec (fun _ => Kit.Ev.const rfl) (fun _ => Kit.Ev.const rfl)
  · refine Kit.Ev.up ?_
    simp only [impl_Node_fault.j1]
    refine Kit.Ev.pos (by decide) (Kit.Ev.pos ha.1 (Kit.Ev.pos ha.2.1 (Kit.Ev.call (implIn_eq _ _ _) ?_)))
    rw [Kit.w64 (by omega) (by omega)]
    exact evDec (fun _ => Kit.Ev.const rfl) (fun _ => Kit.Ev.const rfl)
  · refine Kit.Ev.up ?_
    simp only [impl_Node_fault.j1]
    refine Kit.Ev.pos (by decide) (Kit.Ev.pos ha.1 (Kit.Ev.pos ha.2.1 (Kit.Ev.call (implIn_eq _ _ _) ?_)))
    rw [Kit.w64 (by omega) (by omega)]
    exact evDec (fun _ => Kit.Ev.const rfl) (fun _ => Kit.Ev.const rfl)
  · refine Kit.Ev.up ?_
    simp only [impl_Node_fault.j1]
    exact Kit.Ev.neg (by decide) (Kit.Ev.const rfl)
  · refine Kit.Ev.up ?_
    simp only [impl_Node_fault.j1]
    exact Kit.Ev.neg (by decide) (Kit.Ev.const rfl)
def lookR (plan : List S58) (c : Int) : List Int × Int := if c = 0 then (wsN plan plan.length, 0) else ([], c)
def lookF (plan : List S58) : List Int × Int := lookR plan (planF plan)
theorem fault_f3 {ws : List Int} {x : S58} (h1 : 1 ≤ x.f0 ∧ x.f0 ≤ 12) (hm : named x = true) (hf : faultW ws x = 0) (ha : ¬ x.f0 = 1 → 1 ≤ rd ws x.f1 ∧ rd ws x.f1 ≤ 4) : ¬ x.f0 = 3 → ¬ x.f0 = 1 → -1000 ≤ x.f3 ∧ x.f3 ≤ 1000 := by
  intro n3 n1
  have hz := (of_decide_eq_true (show decide _ = true from hm)).2.2.2.2
  rcases op_cases h1 with h | h | h | h | h | h | h | h | h | h | h | h <;> simp only [faultW, h, Int.reduceEq, Int.reduceLE, if_true, if_false, false_or, or_false, true_or, or_true, and_self, and_false, false_and, and_true, true_and, not_false_eq_true, forall_const, not_true_eq_false] at hf ha hz n3 n1
  all_goals (repeat' split at hf)
  all_goals first | omega | (have := hz trivial; omega)
theorem looked_reads {plan ws : List S58} {wl : List Int} {i : Nat} {a0 a1 a2 a3 a4 a5 : Int} {l6 : List Int} {x16 x17 : Int} (hi : i < plan.length) (hn : plan.length ≤ 1048576) (rs : List Int) (hrs : rs.length ≤ 1048576) {r : List Int × Int}
    (hend : rs.all (readOk plan i) = true → Ev (fun k => (impl_Node_fault.f k a0 a1 a2 a3 a4 a5 l6 wl).bind fun t232 => if t232 = 0 then ((impl_Node_width.f a0 a1 a2 a3 a4 a5 l6 wl).bind fun t233 => if wl.length < 17592186044416 then impl_looked.l0 k plan (wl ++ [t233]) ws x16 (wrap64 (x17 + 1)) else none) else some (([] : List Int), t232)) r) :
    ∀ (d q : Nat), q + d = rs.length → (∀ v ∈ rs.take q, readOk plan i v = true) → Ev (fun k => impl_looked.l1 k plan wl (i : Int) ws x16 x17 rs (rs.length : Int) (q : Int) a0 a1 a2 a3 a4 a5 l6) (if (rs.drop q).all (readOk plan i) = true then r else ([], 3)) := by
  intro d
  induction d with
  | zero =>
    intro q hd hp
    refine Kit.Ev.up ?_
    simp only [impl_looked.l1]
    refine Kit.Ev.neg (by omega) ?_
    rw [List.drop_eq_nil_of_le (by omega)]
    rw [List.take_of_length_le (by omega)] at hp
    exact (hend (List.all_eq_true.mpr hp)).eq (by simp)
  | succ d ih =>
    intro q hd hp
    refine Kit.Ev.up ?_
    simp only [impl_looked.l1]
    refine Kit.Ev.pos (by omega) (Kit.Ev.pos (by omega) (Kit.Ev.pos (by omega) (Kit.Ev.call (implIn_eq _ _ _) ?_)))
    rw [rd_drop (xs := rs) (i := q) (by omega), Kit.w64 (x := (i : Int) - 1) (by omega) (by omega), w64n (n := rs.length) (by omega) (by omega)]
    by_cases c : 0 ≤ rd rs (q : Int) ∧ rd rs (q : Int) ≤ (i : Int) - 1
    · refine Kit.Ev.pos (decide_eq_true c) (Kit.Ev.pos c.1 (Kit.Ev.pos (by omega) ?_))
      by_cases c2 : (rd_T58 plan (rd rs (q : Int))).f0 = 12
      · refine Kit.Ev.pos c2 (Kit.Ev.const ?_)
        rw [if_neg (by simp [readOk, c2])]
      · have hr : readOk plan i (rd rs (q : Int)) = true := by simp [readOk, c2]; omega
        refine Kit.Ev.neg c2 ((ih (q + 1) (by omega) (fun v hv => ?_)).eq (by simp [hr]))
        rw [List.take_add_one, List.getElem?_eq_getElem (by omega), ← Kit.rd_at (by omega)] at hv
        rcases List.mem_append.mp hv with h1 | h1
        · exact hp v h1
        · simp at h1; rw [h1]; exact hr
    · refine Kit.Ev.neg (by simpa using c) (Kit.Ev.const ?_)
      rw [if_neg]
      simp only [List.all_cons, Bool.and_eq_true, readOk, decide_eq_true_eq]
      intro h
      exact c h.1.1
theorem implLooked_l0 {plan : List S58} (hx : FineN plan) : ∀ (d i : Nat), i + d = plan.length → GoodN plan i → Ev (fun k => impl_looked.l0 k plan (wsN plan i) plan (plan.length : Int) (i : Int)) (lookR plan (planC plan d i))
  | 0, i, hd, hg => by
    refine Kit.Ev.up ?_
    simp only [impl_looked.l0]
    obtain rfl : i = plan.length := by omega
    exact Kit.Ev.neg (by omega) (Kit.Ev.const rfl)
  | d + 1, i, hd, hg => by
    have hn := hx.1
    have hi : i < plan.length := by omega
    have hl := hx.2 _ (rdN_mem (xs := plan) (i := i) hi)
    have IH : codeN plan i = 0 → _ := fun h => implLooked_l0 hx d (i + 1) (by omega) (fun j hj => by
      by_cases e : j = i
      · rw [e]; exact h
      · exact hg j (by omega))
    have e1 : wsN plan (i + 1) = wsN plan i ++ [widthW (wsN plan i) (rd_T58 plan (i : Int))] := rfl
    rw [e1] at IH
    have hp : planC plan (d + 1) i = if codeN plan i = 0 then planC plan d (i + 1) else codeN plan i := rfl
    rw [hp]
    refine Kit.Ev.up ?_
    simp only [impl_looked.l0]
    refine Kit.Ev.pos (by omega) (Kit.Ev.pos (by omega) (Kit.Ev.pos (by omega) (Kit.Ev.call (implIn_eq _ _ _) ?_)))
    have hc := codeN_eq plan i
    generalize rd_T58 plan (i : Int) = x at *
    by_cases h1 : 1 ≤ x.f0 ∧ x.f0 ≤ 12
    · rw [if_pos h1] at hc
      refine Kit.Ev.pos (decide_eq_true h1) (Kit.Ev.then (plain_ev _ _ _ _ _ _ _ h1) (Kit.Ev.then (same_plain _ _ _ _ _ _ _ hl) ?_))
      by_cases h2 : named x = true
      · rw [if_pos h2] at hc
        refine Kit.Ev.pos h2 (Kit.Ev.call (implReads_eq x) ?_)
        have rl : (readsL x).length ≤ 1048576 := by
          unfold readsL
          split
          · simp
          · split <;> simp
        have L := looked_reads (ws := plan) (wl := wsN plan i) (x16 := (plan.length : Int)) (x17 := (i : Int)) (a0 := x.f0) (a1 := x.f1) (a2 := x.f2) (a3 := x.f3) (a4 := x.f4) (a5 := x.f5) (l6 := x.f6) hi hn (readsL x) rl (r := if faultW (wsN plan i) x = 0 then lookR plan (planC plan d (i + 1)) else ([], faultW (wsN plan i) x)) (fun h3 => by
          have A : ¬ x.f0 = 1 → 0 ≤ x.f1 ∧ x.f1 < ((wsN plan i).length : Int) ∧ 1 ≤ rd (wsN plan i) x.f1 ∧ rd (wsN plan i) x.f1 ≤ 4 := fun h => by
            obtain ⟨a, ea, ha, _⟩ := reads_a h3 h
            rw [wsN_len, ← ea, wsN_rd plan ha]
            have := wOf_in hg i a ha ha
            omega
          have B : x.f0 = 4 ∨ x.f0 = 6 → 0 ≤ x.f2 ∧ x.f2 < ((wsN plan i).length : Int) ∧ 1 ≤ rd (wsN plan i) x.f2 ∧ rd (wsN plan i) x.f2 ≤ 4 := fun h => by
            obtain ⟨a, ea, ha, _⟩ := reads_b h3 h
            rw [wsN_len, ← ea, wsN_rd plan ha]
            have := wOf_in hg i a ha ha
            omega
          refine Kit.Ev.then (implFaultN_ev h1 A B hl) (Kit.Ev.ite2 (fun hf => ?_) (fun _ => Kit.Ev.const rfl))
          refine Kit.Ev.call (implWidthN_eq h1 A B (fault_f3 h1 h2 hf (fun h => (A h).2.2))) (Kit.Ev.pos (by rw [wsN_len]; omega) ?_)
          rw [w64n (n := plan.length) (by omega) hx.n]
          rw [if_pos h3] at hc
          exact IH (by rw [hc]; exact hf)) (readsL x).length 0 (by omega) (by simp)
        refine L.eq ?_
        rw [List.drop_zero]
        by_cases h3 : (readsL x).all (readOk plan i) = true
        · rw [if_pos h3] at hc ⊢
          rw [hc]
          by_cases hf : faultW (wsN plan i) x = 0
          · rw [if_pos hf, if_pos hf]
          · rw [if_neg hf, if_neg hf]; unfold lookR; rw [if_neg hf]
        · rw [if_neg h3] at hc ⊢
          rw [hc]; rfl
      · rw [if_neg h2] at hc
        refine Kit.Ev.neg h2 (Kit.Ev.const ?_)
        rw [hc]; rfl
    · rw [if_neg h1] at hc
      refine Kit.Ev.neg (by simpa using h1) (Kit.Ev.const ?_)
      rw [hc]; rfl
theorem implLooked_ev {plan : List S58} (hx : FineN plan) : Ev (fun k => impl_looked.f k plan) (lookF plan) := by
  unfold impl_looked.f lookF planF
  refine Kit.Ev.call (a := (plan.length : Int)) rfl (Kit.Ev.call (implIn_eq _ _ _) ?_)
  by_cases c : 1 ≤ plan.length ∧ plan.length ≤ 8
  · refine Kit.Ev.pos (by simp; omega) ?_
    rw [if_pos c]
    exact implLooked_l0 hx plan.length 0 (by omega) (fun j hj => by omega)
  · refine Kit.Ev.neg (by simp; omega) (Kit.Ev.const ?_)
    rw [if_neg c]; rfl
theorem implPlan_ev {plan : List S58} (hx : FineN plan) : Ev (fun k => impl_PlanFault.f k plan) (planF plan) := by
  unfold impl_PlanFault.f
  refine Kit.Ev.then (implLooked_ev hx) (Kit.Ev.const ?_)
  unfold lookF lookR
  by_cases h : planF plan = 0
  · rw [if_pos h, h]
  · rw [if_neg h]
def askedF (plan : List S58) (v : Int) : Int := if planF plan = 0 then (if 0 ≤ v ∧ v ≤ (plan.length : Int) - 1 then 0 else 3) else planF plan
theorem asked_in {plan : List S58} {v : Int} (h : askedF plan v = 0) : planF plan = 0 ∧ ∃ j : Nat, (j : Int) = v ∧ j < plan.length := by
  unfold askedF at h
  by_cases h1 : planF plan = 0
  · rw [if_pos h1] at h
    by_cases h2 : 0 ≤ v ∧ v ≤ (plan.length : Int) - 1
    · exact ⟨h1, v.toNat, by omega, by omega⟩
    · rw [if_neg h2] at h; omega
  · rw [if_neg h1] at h; exact absurd h h1
theorem implNodeCode_ev {plan : List S58} (hx : FineN plan) (v : Int) : Ev (fun k => impl_nodeCode.f k plan v) ((lookF plan).1, askedF plan v) := by
  have hn := hx.1
  unfold impl_nodeCode.f
  refine Kit.Ev.then (implLooked_ev hx) ?_
  have e : (lookF plan).2 = planF plan := by
    unfold lookF lookR
    by_cases h : planF plan = 0
    · rw [if_pos h, h]
    · rw [if_neg h]
  rw [e]
  by_cases h : planF plan = 0
  · have r : askedF plan v = if 0 ≤ v ∧ v ≤ (plan.length : Int) - 1 then 0 else 3 := by unfold askedF; rw [if_pos h]
    rw [r]
    refine Kit.Ev.pos h (Kit.Ev.call (a := (plan.length : Int)) rfl (Kit.Ev.call (implIn_eq _ _ _) ?_))
    rw [Kit.w64 (by omega) (by omega)]
    by_cases c : 0 ≤ v ∧ v ≤ (plan.length : Int) - 1
    · rw [if_pos c, h]; exact Kit.Ev.pos (decide_eq_true c) (Kit.Ev.const rfl)
    · rw [if_neg c]; exact Kit.Ev.neg (by simpa using c) (Kit.Ev.const rfl)
  · have r : askedF plan v = planF plan := by unfold askedF; rw [if_neg h]
    rw [r]
    exact Kit.Ev.neg h (Kit.Ev.const rfl)
def nodesL (op : Int) : List S58 → Nat → List Int
  | [], _ => []
  | x :: xs, i => if x.f0 = op then (i : Int) :: nodesL op xs (i + 1) else nodesL op xs (i + 1)
def nodesOfF (op : Int) (plan : List S58) : Int × List Int := if planF plan = 0 then (if 1 ≤ op ∧ op ≤ 12 then (0, nodesL op plan 0) else (5, [])) else (planF plan, [])
theorem nodesL_len (op : Int) : ∀ (xs : List S58) (i : Nat), (nodesL op xs i).length ≤ xs.length
  | [], _ => Nat.le_refl _
  | x :: xs, i => by
    have := nodesL_len op xs (i + 1)
    simp only [nodesL]
    split <;> simp only [List.length_cons] <;> omega
theorem nodesOfF_len (op : Int) (plan : List S58) : (nodesOfF op plan).2.length ≤ plan.length := by
  unfold nodesOfF
  repeat' split
  · exact nodesL_len op plan 0
  all_goals simp
theorem specOf_l0 (op : Int) {xs : List S58} (hx : FineN xs) : ∀ (d i : Nat) (out : List Int), i + d = xs.length → out.length ≤ i → Ev (fun k => spec_l3Of.l0 k xs op out (i : Int)) (out ++ nodesL op (xs.drop i) i) := by
  have hl := hx.1
  intro d
  induction d with
  | zero =>
    intro i out hd _
    refine Kit.Ev.up ?_
    simp only [spec_l3Of.l0]
    refine Kit.Ev.neg (by omega) (Kit.Ev.const ?_)
    rw [List.drop_eq_nil_of_le (by omega)]; simp [nodesL]
  | succ d ih =>
    intro i out hd ho
    refine Kit.Ev.up ?_
    simp only [spec_l3Of.l0]
    rw [rdN_drop (xs := xs) (i := i) (by omega), w64n (n := xs.length) (by omega) hx.n]
    simp only [nodesL]
    refine Kit.Ev.pos (by omega) (Kit.Ev.pos (by omega) (Kit.Ev.ite (fun h => ?_) (fun h => ?_)))
    · rw [if_pos h]
      refine Kit.Ev.pos (by omega) ?_
      exact (ih (i + 1) _ (by omega) (by rw [List.length_append]; simp only [List.length_cons, List.length_nil]; omega)).eq (by simp)
    · rw [if_neg h]
      exact ih (i + 1) out (by omega) (by omega)
theorem specOf_ev (op : Int) {plan : List S58} (hx : FineN plan) : Ev (fun k => spec_l3Of.f k plan op) (nodesL op plan 0) := by
  unfold spec_l3Of.f
  exact (specOf_l0 op hx plan.length 0 [] (by omega) (by simp)).eq (by simp)
theorem specNodesOf_ev {plan : List S58} (hx : FineN plan) (op : Int) : Ev (fun k => spec_NodesOf.f k plan op) (nodesOfF op plan) := by
  unfold spec_NodesOf.f nodesOfF
  refine Kit.Ev.then (specPlan_ev hx) (Kit.Ev.ite2 (fun _ => Kit.Ev.call (specIn_eq _ _ _) (evDec (fun _ => ?_) (fun _ => Kit.Ev.const rfl))) (fun _ => Kit.Ev.const rfl))
  exact Kit.Ev.then (specOf_ev op hx) (Kit.Ev.const rfl)
theorem implOf_l0 (op : Int) {xs : List S58} (hx : FineN xs) : ∀ (d i : Nat) (out : List Int), i + d = xs.length → out.length ≤ i → Ev (fun k => impl_nodesOf.l0 k op out xs (xs.length : Int) (i : Int)) (out ++ nodesL op (xs.drop i) i) := by
  have hl := hx.1
  intro d
  induction d with
  | zero =>
    intro i out hd _
    refine Kit.Ev.up ?_
    simp only [impl_nodesOf.l0]
    refine Kit.Ev.neg (by omega) (Kit.Ev.const ?_)
    rw [List.drop_eq_nil_of_le (by omega)]; simp [nodesL]
  | succ d ih =>
    intro i out hd ho
    refine Kit.Ev.up ?_
    simp only [impl_nodesOf.l0]
    rw [rdN_drop (xs := xs) (i := i) (by omega), w64n (n := xs.length) (by omega) hx.n]
    simp only [nodesL]
    refine Kit.Ev.pos (by omega) (Kit.Ev.pos (by omega) (Kit.Ev.pos (by omega) (Kit.Ev.ite (fun h => ?_) (fun h => ?_))))
    · rw [if_pos h]
      refine Kit.Ev.pos (by omega) ?_
      exact (ih (i + 1) _ (by omega) (by rw [List.length_append]; simp only [List.length_cons, List.length_nil]; omega)).eq (by simp)
    · rw [if_neg h]
      exact ih (i + 1) out (by omega) (by omega)
theorem implOf_ev (op : Int) {plan : List S58} (hx : FineN plan) : Ev (fun k => impl_nodesOf.f k plan op) (nodesL op plan 0) := by
  unfold impl_nodesOf.f
  exact (implOf_l0 op hx plan.length 0 [] (by omega) (by simp)).eq (by simp)
theorem implNodesOf_ev {plan : List S58} (hx : FineN plan) (op : Int) : Ev (fun k => impl_NodesOf.f k plan op) (nodesOfF op plan) := by
  unfold impl_NodesOf.f nodesOfF
  refine Kit.Ev.then (implPlan_ev hx) (Kit.Ev.ite2 (fun _ => Kit.Ev.call (implIn_eq _ _ _) (evDec (fun _ => ?_) (fun _ => Kit.Ev.const rfl))) (fun _ => Kit.Ev.const rfl))
  exact Kit.Ev.then (implOf_ev op hx) (Kit.Ev.const rfl)
def readersL (v : Int) : List S58 → Nat → List Int
  | [], _ => []
  | x :: xs, i => if v ∈ readsL x then (i : Int) :: readersL v xs (i + 1) else readersL v xs (i + 1)
def readersOfF (v : Int) (plan : List S58) : Int × List Int := if askedF plan v = 0 then (0, readersL v plan 0) else (askedF plan v, [])
theorem readersL_len (v : Int) : ∀ (xs : List S58) (i : Nat), (readersL v xs i).length ≤ xs.length
  | [], _ => Nat.le_refl _
  | x :: xs, i => by
    have := readersL_len v xs (i + 1)
    simp only [readersL]
    split <;> simp only [List.length_cons] <;> omega
theorem readersOfF_len (v : Int) (plan : List S58) : (readersOfF v plan).2.length ≤ plan.length := by
  unfold readersOfF
  repeat' split
  · exact readersL_len v plan 0
  all_goals simp
theorem index_l0 (v : Int) (xs : List Int) (hn : xs.length ≤ 1048576) : ∀ (d i : Nat), i + d = xs.length → ∃ r : Int, Ev (fun k => slices_Index_int64_int64.l0 k xs v (xs.length : Int) (i : Int)) r ∧ (0 ≤ r ↔ v ∈ xs.drop i) := by
  intro d
  induction d with
  | zero =>
    intro i hd
    refine ⟨-1, Kit.Ev.up ?_, ?_⟩
    · simp only [slices_Index_int64_int64.l0]
      exact Kit.Ev.neg (by omega) (Kit.Ev.const rfl)
    · rw [List.drop_eq_nil_of_le (by omega)]; simp
  | succ d ih =>
    intro i hd
    have hr := rd_drop (xs := xs) (i := i) (by omega)
    by_cases h : v = rd xs (i : Int)
    · refine ⟨(i : Int), Kit.Ev.up ?_, ?_⟩
      · simp only [slices_Index_int64_int64.l0]
        exact Kit.Ev.pos (by omega) (Kit.Ev.pos (by omega) (Kit.Ev.pos (by omega) (Kit.Ev.pos h (Kit.Ev.const rfl))))
      · rw [hr]
        constructor
        · intro _; rw [← h]; exact List.mem_cons_self
        · intro _; omega
    · obtain ⟨r, e, hiff⟩ := ih (i + 1) (by omega)
      refine ⟨r, Kit.Ev.up ?_, ?_⟩
      · simp only [slices_Index_int64_int64.l0]
        rw [w64n (n := xs.length) (by omega) (by omega)]
        exact Kit.Ev.pos (by omega) (Kit.Ev.pos (by omega) (Kit.Ev.pos (by omega) (Kit.Ev.neg h e)))
      · rw [hr, hiff]
        constructor
        · intro hm; exact List.mem_cons_of_mem _ hm
        · intro hm
          rcases List.mem_cons.mp hm with e | e
          · exact absurd e h
          · exact e
theorem contains_ev (v : Int) (xs : List Int) (hn : xs.length ≤ 1048576) : Ev (fun k => slices_Contains_int64_int64.f k xs v) (decide (v ∈ xs)) := by
  unfold slices_Contains_int64_int64.f slices_Index_int64_int64.f
  obtain ⟨r, e, h⟩ := index_l0 v xs hn xs.length 0 (by omega)
  refine Kit.Ev.then e (Kit.Ev.const ?_)
  rw [List.drop_zero] at h
  by_cases c : v ∈ xs
  · have := h.mpr c; simp [c]; omega
  · have : ¬ 0 ≤ r := fun q => c (h.mp q)
    simp [c]; omega
theorem implReaders_l0 (v : Int) {xs : List S58} (hx : FineN xs) : ∀ (d i : Nat) (out : List Int), i + d = xs.length → out.length ≤ i → Ev (fun k => impl_readersOf.l0 k v out xs (xs.length : Int) (i : Int)) (out ++ readersL v (xs.drop i) i) := by
  have hl := hx.1
  intro d
  induction d with
  | zero =>
    intro i out hd _
    refine Kit.Ev.up ?_
    simp only [impl_readersOf.l0]
    refine Kit.Ev.neg (by omega) (Kit.Ev.const ?_)
    rw [List.drop_eq_nil_of_le (by omega)]; simp [readersL]
  | succ d ih =>
    intro i out hd ho
    refine Kit.Ev.up ?_
    simp only [impl_readersOf.l0]
    rw [rdN_drop (xs := xs) (i := i) (by omega), w64n (n := xs.length) (by omega) hx.n]
    simp only [readersL]
    have rl : (readsL (rd_T58 xs (i : Int))).length ≤ 1048576 := by
      unfold readsL
      split
      · simp
      · split <;> simp
    refine Kit.Ev.pos (by omega) (Kit.Ev.pos (by omega) (Kit.Ev.pos (by omega) (Kit.Ev.call (implReads_eq _) (Kit.Ev.then (contains_ev v _ rl) ?_))))
    by_cases h : v ∈ readsL (rd_T58 xs (i : Int))
    · rw [if_pos h]
      refine Kit.Ev.pos (decide_eq_true h) (Kit.Ev.pos (by omega) ?_)
      exact (ih (i + 1) _ (by omega) (by rw [List.length_append]; simp only [List.length_cons, List.length_nil]; omega)).eq (by simp)
    · rw [if_neg h]
      exact Kit.Ev.neg (by simpa using h) (ih (i + 1) out (by omega) (by omega))
theorem implReadersOf_ev {plan : List S58} (hx : FineN plan) (v : Int) : Ev (fun k => impl_ReadersOf.f k plan v) (readersOfF v plan) := by
  unfold impl_ReadersOf.f readersOfF
  refine Kit.Ev.then (implNodeCode_ev hx v) (Kit.Ev.ite2 (fun _ => ?_) (fun _ => Kit.Ev.const rfl))
  refine Kit.Ev.then (a := readersL v plan 0) ?_ (Kit.Ev.const rfl)
  unfold impl_readersOf.f
  exact (implReaders_l0 v hx plan.length 0 [] (by omega) (by simp)).eq (by simp)
def cellV (a b c d e : Int) : Int := (((a * 256 + b) * 256 + c) * 256 + d) * 256 + e - 549755813888
def cells : Nat → List Int → List Int
  | 0, _ => []
  | n + 1, l => cellV (rd l 0) (rd l 1) (rd l 2) (rd l 3) (rd l 4) :: cells n (l.drop 5)
def rowOk (b : Int) (rest : List Int) : Prop := b ≤ 4 ∧ 5 * b ≤ (rest.length : Int) ∧ rowF (cells b.toNat rest) = 0
instance (b : Int) (rest : List Int) : Decidable (rowOk b rest) := by unfold rowOk; infer_instance
def unG : Nat → Int → List (List Int) → List Int → Int × Int × List (List Int)
  | 0, _, rows, _ => (0, 0, rows)
  | _ + 1, _, rows, [] => (0, 0, rows)
  | n + 1, at_, rows, b :: rest =>
    if rowOk b rest ∧ rows.length ≠ 60 then unG n (at_ + 1 + 5 * b) (rows ++ [cells b.toNat rest]) (rest.drop (5 * b.toNat)) else (5, at_, [])
def unV (data : List Int) : Int × Int × List (List Int) := unG (data.length + 1) 0 [] data
theorem cells_length : ∀ (n : Nat) (l : List Int), (cells n l).length = n
  | 0, _ => rfl
  | n + 1, l => by simp only [cells, List.length_cons, cells_length n]
theorem cells_snoc : ∀ (n : Nat) (l : List Int), cells (n + 1) l = cells n l ++ [cellV (rd (l.drop (5 * n)) 0) (rd (l.drop (5 * n)) 1) (rd (l.drop (5 * n)) 2) (rd (l.drop (5 * n)) 3) (rd (l.drop (5 * n)) 4)]
  | 0, l => by simp [cells]
  | n + 1, l => by
    rw [cells, cells_snoc n (l.drop 5), cells, List.cons_append, List.drop_drop]
    rw [show 5 + 5 * n = 5 * (n + 1) by omega]
theorem rd_dropi (l : List Int) (m i : Nat) : rd (l.drop m) (i : Int) = rd l ((m + i : Nat) : Int) := by
  rw [Kit.rd_nat, Kit.rd_nat, List.getD_eq_getElem?_getD, List.getD_eq_getElem?_getD, List.getElem?_drop]
theorem chance_some {c : List Int} (hc : BytesOk c) {t : Int} (h0 : 0 ≤ t) (h1 : t ≤ 1000000000000) (n : Int) : ∃ b, spec_l1Chance.f c t n = some (b, t + 1) := by
  unfold spec_l1Chance.f
  obtain ⟨v, e, _⟩ := next_some hc h0 h1 n
  exact ⟨_, by rw [e]; rfl⟩
/-- A plan as it is drawn: right, no longer than n, no more than three cells in a node. -/
structure PlanD (n : Nat) (l : List S58) : Prop where
  good : GoodN l l.length
  pos : 1 ≤ l.length
  len : l.length ≤ n
  few : ∀ x ∈ l, x.f6.length ≤ 3
theorem codeN_input {l : List S58} {i : Nat} {c : Int} (h : rd_T58 l (i : Int) = ⟨1, 0, 0, c, 0, 0, []⟩) (hc : 1 ≤ c ∧ c ≤ 3) : codeN l i = 0 := by
  rw [codeN_eq, h]
  simp [named, namedB, readsL, faultW, hc.1, hc.2]
theorem wrap_up {v : Int} (h : 0 ≤ v ∧ v < 2) : 1 ≤ wrap64 (1 + v) ∧ wrap64 (1 + v) ≤ 3 := by
  rw [Kit.w64 (by omega) (by omega)]; omega
theorem plan_one {c : Int} (hc : 1 ≤ c ∧ c ≤ 3) : PlanD 7 [(⟨1, 0, 0, c, 0, 0, []⟩ : S58)] := by
  refine ⟨fun j hj => ?_, by simp, by simp, fun x hx => ?_⟩
  · have e : j = 0 := by simp only [List.length_cons, List.length_nil] at hj; omega
    subst e
    exact codeN_input (c := c) (by simp [rd_T58]) hc
  · rw [List.mem_singleton.mp hx]; simp
theorem plan_two {c d : Int} (hc : 1 ≤ c ∧ c ≤ 3) (hd : 1 ≤ d ∧ d ≤ 3) : PlanD 7 ([(⟨1, 0, 0, c, 0, 0, []⟩ : S58)] ++ [(⟨1, 0, 0, d, 0, 0, []⟩ : S58)]) := by
  refine ⟨fun j hj => ?_, by simp, by simp, fun x hx => ?_⟩
  · have e : j = 0 ∨ j = 1 := by simp only [List.length_append, List.length_cons, List.length_nil] at hj; omega
    rcases e with e | e <;> subst e
    · exact codeN_input (c := c) (by simp [rd_T58]) hc
    · exact codeN_input (c := d) (by simp [rd_T58]) hd
  · simp only [List.mem_append, List.mem_singleton] at hx
    rcases hx with h | h <;> rw [h] <;> simp
theorem growCells_ev {c : List Int} (hc : BytesOk c) (w a0 a1 a2 a3 a4 a5 : Int) : ∀ (n : Nat) (t : Int) (acc : List Int), acc.length + n ≤ 100 → 0 ≤ t → t + n ≤ 999999999000 →
    ∃ r : List Int, Ev (fun k => spec_l3Grow.l0 k w (n : Int) c t a0 a1 a2 a3 a4 a5 acc) (a0, a1, a2, a3, a4, a5, r, t + n) ∧ r.length = acc.length + n := by
  intro n
  induction n with
  | zero =>
    intro t acc _ _ _
    refine ⟨acc, Kit.Ev.up ?_, by omega⟩
    simp only [spec_l3Grow.l0]
    exact Kit.Ev.neg (by omega) (Kit.Ev.const (by simp))
  | succ n ih =>
    intro t acc hn h0 h1
    obtain ⟨v, e, _⟩ := next_some hc h0 (by omega) w
    obtain ⟨r, H, hr⟩ := ih (t + 1) (acc ++ [v]) (by rw [List.length_append]; simp only [List.length_cons, List.length_nil]; omega) (by omega) (by omega)
    refine ⟨r, Kit.Ev.up ?_, by rw [hr, List.length_append]; simp only [List.length_cons, List.length_nil]; omega⟩
    simp only [spec_l3Grow.l0]
    refine Kit.Ev.pos (by omega) (Kit.Ev.call e (Kit.Ev.pos (by omega) ?_))
    have e1 : wrap64 (((n + 1 : Nat) : Int) - 1) = (n : Int) := by rw [Kit.w64 (by omega) (by omega)]; omega
    rw [e1]
    exact H.eq (by congr 7; omega)
theorem grow_some {c : List Int} (hc : BytesOk c) {t : Int} (h0 : 0 ≤ t) (h1 : t ≤ 999999000000) {l : List S58} {n : Nat} (hl : PlanD n l) :
    ∃ (x : S58) (t' : Int), Ev (fun k => spec_l3Grow.f k c t l) (x.f0, x.f1, x.f2, x.f3, x.f4, x.f5, x.f6, t') ∧ x.f6.length ≤ 3 ∧ t ≤ t' ∧ t' ≤ t + 10 := by
  unfold spec_l3Grow.f
  have hp := hl.pos
  obtain ⟨v, e1, _⟩ := next_some hc h0 (by omega) 11
  obtain ⟨a, e2, ha, _⟩ := next_some hc (t := t + 1) (by omega) (by omega) (l.length : Int)
  obtain ⟨a0, a1⟩ := ha (by omega)
  obtain ⟨j, rfl⟩ := Int.eq_ofNat_of_zero_le a0
  have ew := specWidthN_ev (Nat.le_refl _) hl.good (j + 1) j (by omega) (by omega)
  generalize wOf l j = w at ew
  by_cases c2 : (wrap64 (2 + v)) = 2
  · obtain ⟨x3, e3, _⟩ := next_some hc (t := t + 1 + 1) (by omega) (by omega) w
    obtain ⟨x4, e4, _⟩ := next_some hc (t := t + 1 + 1 + 1) (by omega) (by omega) 3
    obtain ⟨x5, e5, _⟩ := next_some hc (t := t + 1 + 1 + 1 + 1) (by omega) (by omega) 4
    exact ⟨⟨(wrap64 (2 + v)), (j : Int), 0, x3, x4, x5, []⟩, _, Kit.Ev.call e1 (Kit.Ev.call e2 (Kit.Ev.then ew (Kit.Ev.pos c2 (Kit.Ev.call e3 (Kit.Ev.call e4 (Kit.Ev.call e5 (Kit.Ev.const rfl))))))), by simp, by omega, by omega⟩
  by_cases c3 : (wrap64 (2 + v)) = 3
  · obtain ⟨x3, e3, hx, _⟩ := next_some hc (t := t + 1 + 1) (by omega) (by omega) 3
    obtain ⟨x0, x1⟩ := hx (by omega)
    obtain ⟨m, rfl⟩ := Int.eq_ofNat_of_zero_le x0
    obtain ⟨r, H, hr⟩ := growCells_ev hc w (wrap64 (2 + v)) (j : Int) 0 0 0 0 (m + 1) (t + 1 + 1 + 1) [] (by simp only [List.length_nil]; omega) (by omega) (by omega)
    have e : ((m + 1 : Nat) : Int) = wrap64 (1 + (m : Int)) := by rw [Kit.w64 (by omega) (by omega)]; omega
    rw [e] at H
    exact ⟨⟨(wrap64 (2 + v)), (j : Int), 0, 0, 0, 0, r⟩, _, Kit.Ev.call e1 (Kit.Ev.call e2 (Kit.Ev.then ew (Kit.Ev.neg c2 (Kit.Ev.pos c3 (Kit.Ev.call e3 H))))), by rw [hr]; simp only [List.length_nil]; omega, by omega, by omega⟩
  by_cases c4 : (wrap64 (2 + v)) = 4
  · obtain ⟨x3, e3, _⟩ := next_some hc (t := t + 1 + 1) (by omega) (by omega) (l.length : Int)
    exact ⟨⟨(wrap64 (2 + v)), (j : Int), x3, 0, 0, 0, []⟩, _, Kit.Ev.call e1 (Kit.Ev.call e2 (Kit.Ev.then ew (Kit.Ev.neg c2 (Kit.Ev.neg c3 (Kit.Ev.pos c4 (Kit.Ev.call e3 (Kit.Ev.const rfl))))))), by simp, by omega, by omega⟩
  by_cases c6 : (wrap64 (2 + v)) = 6
  · obtain ⟨x3, e3, _⟩ := next_some hc (t := t + 1 + 1) (by omega) (by omega) (l.length : Int)
    obtain ⟨x4, e4, _⟩ := next_some hc (t := t + 1 + 1 + 1) (by omega) (by omega) w
    exact ⟨⟨(wrap64 (2 + v)), (j : Int), x3, wrap64 (1 + x4), 0, 0, []⟩, _, Kit.Ev.call e1 (Kit.Ev.call e2 (Kit.Ev.then ew (Kit.Ev.neg c2 (Kit.Ev.neg c3 (Kit.Ev.neg c4 (Kit.Ev.pos c6 (Kit.Ev.call e3 (Kit.Ev.call e4 (Kit.Ev.const rfl))))))))), by simp, by omega, by omega⟩
  by_cases c7 : (wrap64 (2 + v)) = 7
  · obtain ⟨x3, e3, _⟩ := next_some hc (t := t + 1 + 1) (by omega) (by omega) (wrap64 (w + 1))
    exact ⟨⟨(wrap64 (2 + v)), (j : Int), 0, x3, 0, 0, []⟩, _, Kit.Ev.call e1 (Kit.Ev.call e2 (Kit.Ev.then ew (Kit.Ev.neg c2 (Kit.Ev.neg c3 (Kit.Ev.neg c4 (Kit.Ev.neg c6 (Kit.Ev.pos c7 (Kit.Ev.call e3 (Kit.Ev.const rfl))))))))), by simp, by omega, by omega⟩
  obtain ⟨x3, e3, _⟩ := next_some hc (t := t + 1 + 1) (by omega) (by omega) w
  by_cases c8 : (wrap64 (2 + v)) = 8
  · exact ⟨⟨(wrap64 (2 + v)), (j : Int), 0, x3, 0, 0, []⟩, _, Kit.Ev.call e1 (Kit.Ev.call e2 (Kit.Ev.then ew (Kit.Ev.neg c2 (Kit.Ev.neg c3 (Kit.Ev.neg c4 (Kit.Ev.neg c6 (Kit.Ev.neg c7 (Kit.Ev.pos c8 (Kit.Ev.call e3 (Kit.Ev.const rfl)))))))))), by simp, by omega, by omega⟩
  by_cases c9 : (wrap64 (2 + v)) = 9
  · exact ⟨⟨(wrap64 (2 + v)), (j : Int), 0, x3, 0, 0, []⟩, _, Kit.Ev.call e1 (Kit.Ev.call e2 (Kit.Ev.then ew (Kit.Ev.neg c2 (Kit.Ev.neg c3 (Kit.Ev.neg c4 (Kit.Ev.neg c6 (Kit.Ev.neg c7 (Kit.Ev.neg c8 (Kit.Ev.pos c9 (Kit.Ev.call e3 (Kit.Ev.const rfl))))))))))), by simp, by omega, by omega⟩
  by_cases c10 : (wrap64 (2 + v)) = 10
  · exact ⟨⟨(wrap64 (2 + v)), (j : Int), 0, x3, 0, 0, []⟩, _, Kit.Ev.call e1 (Kit.Ev.call e2 (Kit.Ev.then ew (Kit.Ev.neg c2 (Kit.Ev.neg c3 (Kit.Ev.neg c4 (Kit.Ev.neg c6 (Kit.Ev.neg c7 (Kit.Ev.neg c8 (Kit.Ev.neg c9 (Kit.Ev.pos c10 (Kit.Ev.call e3 (Kit.Ev.const rfl)))))))))))), by simp, by omega, by omega⟩
  exact ⟨⟨(wrap64 (2 + v)), (j : Int), 0, 0, 0, 0, []⟩, t + 1 + 1, Kit.Ev.call e1 (Kit.Ev.call e2 (Kit.Ev.then ew (Kit.Ev.neg c2 (Kit.Ev.neg c3 (Kit.Ev.neg c4 (Kit.Ev.neg c6 (Kit.Ev.neg c7 (Kit.Ev.neg c8 (Kit.Ev.neg c9 (Kit.Ev.neg c10 (Kit.Ev.const rfl))))))))))), by simp, by omega, by omega⟩
theorem drawPlan_l0 {c : List Int} (hc : BytesOk c) : ∀ (n : Nat) (t : Int) (l : List S58), PlanD 7 l → 0 ≤ t → t + 10 * n ≤ 999999000000 → n ≤ 100 →
    ∃ (r : List S58) (t' : Int), Ev (fun k => spec_l3Draw.l0 k l (n : Int) c t) (r, t') ∧ (2 ≤ r.length ∧ r.length ≤ 8 ∧ ∀ x ∈ r, x.f6.length ≤ 3) ∧ t ≤ t' ∧ t' ≤ t + 10 * n := by
  have last : ∀ (i t : Int) (l : List S58), PlanD 7 l → ∃ r : List S58, Ev (fun k => spec_l3Draw.j2 k l i false c t) (r, t) ∧ (2 ≤ r.length ∧ r.length ≤ 8 ∧ ∀ x ∈ r, x.f6.length ≤ 3) := by
    intro i t l hl
    have h1 := hl.pos
    have h2 := hl.len
    refine ⟨l ++ [(⟨12, wrap64 ((l.length : Int) - 1), 0, 0, 0, 0, ([] : List Int)⟩ : S58)], Kit.Ev.up ?_, ?_⟩
    · simp only [spec_l3Draw.j2]
      exact Kit.Ev.neg (by simp) (Kit.Ev.pos (by omega) (Kit.Ev.const rfl))
    · refine ⟨by simp; omega, by simp; omega, fun x hx => ?_⟩
      rcases List.mem_append.mp hx with h | h
      · exact hl.few x h
      · rw [List.mem_singleton.mp h]; simp
  intro n
  induction n with
  | zero =>
    intro t l hl _ _ _
    obtain ⟨r, H, hr⟩ := last 0 t l hl
    refine ⟨r, t, Kit.Ev.up ?_, hr, by omega, by omega⟩
    simp only [spec_l3Draw.l0]
    exact Kit.Ev.neg (by omega) H
  | succ n ih =>
    intro t l hl h0 h1 hn
    have p1 := hl.pos
    have p2 := hl.len
    by_cases h7 : (l.length : Int) < 7
    · obtain ⟨x, u, H, hx, u0, u1⟩ := grow_some hc h0 (by omega) hl
      obtain ⟨r, t', Hr, hr, q0, q1⟩ := ih u l hl (by omega) (by omega) (by omega)
      have e1 : wrap64 (((n + 1 : Nat) : Int) - 1) = (n : Int) := by rw [Kit.w64 (by omega) (by omega)]; omega
      have el : (l ++ [(⟨x.f0, x.f1, x.f2, x.f3, x.f4, x.f5, x.f6⟩ : S58)]).length = l.length + 1 := by simp
      have e2 : wrap64 (((l ++ [(⟨x.f0, x.f1, x.f2, x.f3, x.f4, x.f5, x.f6⟩ : S58)]).length : Int) - 1) = (l.length : Int) := by rw [el, Kit.w64 (by omega) (by omega)]; omega
      have fx : FineN (l ++ [(⟨x.f0, x.f1, x.f2, x.f3, x.f4, x.f5, x.f6⟩ : S58)]) := by
        refine ⟨by omega, fun y hy => ?_⟩
        rcases List.mem_append.mp hy with h | h
        · have := hl.few y h; omega
        · rw [List.mem_singleton.mp h]; simp only; omega
      by_cases c12 : (rd_T58 (l ++ [(⟨x.f0, x.f1, x.f2, x.f3, x.f4, x.f5, x.f6⟩ : S58)]) (l.length : Int)).f0 = 12
      · refine ⟨r, t', Kit.Ev.up ?_, hr, by omega, by omega⟩
        simp only [spec_l3Draw.l0]
        refine Kit.Ev.pos (by omega) (Kit.Ev.up ?_)
        simp only [spec_l3Draw.j2, list_copy.f]
        refine Kit.Ev.pos (decide_eq_true h7) (Kit.Ev.call (if_pos (by omega)) (Kit.Ev.then H (Kit.Ev.pos (by omega) (Kit.Ev.call rfl ?_))))
        simp only [e2, e1]
        exact Kit.Ev.pos (by omega) (Kit.Ev.pos (by rw [el]; omega) (Kit.Ev.pos c12 Hr))
      by_cases cp : planF (l ++ [(⟨x.f0, x.f1, x.f2, x.f3, x.f4, x.f5, x.f6⟩ : S58)]) = 0
      · have hl2 : PlanD 7 (l ++ [(⟨x.f0, x.f1, x.f2, x.f3, x.f4, x.f5, x.f6⟩ : S58)]) := by
          refine ⟨(planF_good cp).2, by omega, by omega, fun y hy => ?_⟩
          rcases List.mem_append.mp hy with h | h
          · exact hl.few y h
          · rw [List.mem_singleton.mp h]; exact hx
        obtain ⟨r, t', Hr, hr, q0, q1⟩ := ih u _ hl2 (by omega) (by omega) (by omega)
        refine ⟨r, t', Kit.Ev.up ?_, hr, by omega, by omega⟩
        simp only [spec_l3Draw.l0]
        refine Kit.Ev.pos (by omega) (Kit.Ev.up ?_)
        simp only [spec_l3Draw.j2, list_copy.f]
        refine Kit.Ev.pos (decide_eq_true h7) (Kit.Ev.call (if_pos (by omega)) (Kit.Ev.then H (Kit.Ev.pos (by omega) (Kit.Ev.call rfl ?_))))
        simp only [e2, e1]
        exact Kit.Ev.pos (by omega) (Kit.Ev.pos (by rw [el]; omega) (Kit.Ev.neg c12 (Kit.Ev.then (specPlan_ev fx) (Kit.Ev.pos cp Hr))))
      · refine ⟨r, t', Kit.Ev.up ?_, hr, by omega, by omega⟩
        simp only [spec_l3Draw.l0]
        refine Kit.Ev.pos (by omega) (Kit.Ev.up ?_)
        simp only [spec_l3Draw.j2, list_copy.f]
        refine Kit.Ev.pos (decide_eq_true h7) (Kit.Ev.call (if_pos (by omega)) (Kit.Ev.then H (Kit.Ev.pos (by omega) (Kit.Ev.call rfl ?_))))
        simp only [e2, e1]
        exact Kit.Ev.pos (by omega) (Kit.Ev.pos (by rw [el]; omega) (Kit.Ev.neg c12 (Kit.Ev.then (specPlan_ev fx) (Kit.Ev.neg cp Hr))))
    · obtain ⟨r, H, hr⟩ := last ((n + 1 : Nat) : Int) t l hl
      refine ⟨r, t, Kit.Ev.up ?_, hr, by omega, by omega⟩
      simp only [spec_l3Draw.l0]
      refine Kit.Ev.pos (by omega) ?_
      rw [decide_eq_false h7]
      exact H
theorem drawPlan_some {c : List Int} (hc : BytesOk c) {t : Int} (h0 : 0 ≤ t) (h1 : t ≤ 999990000000) :
    ∃ (r : List S58) (t' : Int), Ev (fun k => spec_l3Draw.f k c t) (r, t') ∧ (2 ≤ r.length ∧ r.length ≤ 8 ∧ ∀ x ∈ r, x.f6.length ≤ 3) ∧ t ≤ t' ∧ t' ≤ t + 100 := by
  have j0 : ∀ (u : Int) (l : List S58), PlanD 7 l → t ≤ u → u ≤ t + 5 → ∃ (r : List S58) (t' : Int), Ev (fun k => spec_l3Draw.j0 k l c u) (r, t') ∧ (2 ≤ r.length ∧ r.length ≤ 8 ∧ ∀ x ∈ r, x.f6.length ≤ 3) ∧ t ≤ t' ∧ t' ≤ t + 100 := by
    intro u l hl hu hu'
    obtain ⟨v, e, hv, _⟩ := next_some hc (t := u) (by omega) (by omega) 6
    obtain ⟨v0, v1⟩ := hv (by omega)
    obtain ⟨m, rfl⟩ := Int.eq_ofNat_of_zero_le v0
    obtain ⟨r, t', H, hr, q0, q1⟩ := drawPlan_l0 hc m (u + 1) l hl (by omega) (by omega) (by omega)
    refine ⟨r, t', Kit.Ev.up ?_, hr, by omega, by omega⟩
    simp only [spec_l3Draw.j0]
    exact Kit.Ev.call e H
  unfold spec_l3Draw.f
  obtain ⟨v, e1, hv, _⟩ := next_some hc h0 (by omega) 2
  have w1 := wrap_up (hv (by omega))
  obtain ⟨b, e2⟩ := chance_some hc (t := t + 1) (by omega) (by omega) 2
  by_cases hb : b = true
  · obtain ⟨v2, e3, hv2, _⟩ := next_some hc (t := t + 1 + 1) (by omega) (by omega) 2
    have w2 := wrap_up (hv2 (by omega))
    obtain ⟨r, t', H, q⟩ := j0 (t + 1 + 1 + 1) _ (plan_two w1 w2) (by omega) (by omega)
    exact ⟨r, t', Kit.Ev.call e1 (Kit.Ev.call rfl (Kit.Ev.call e2 (Kit.Ev.pos hb (Kit.Ev.call e3 (Kit.Ev.pos (by simp) H))))), q⟩
  · obtain ⟨r, t', H, q⟩ := j0 (t + 1 + 1) _ (plan_one w1) (by omega) (by omega)
    exact ⟨r, t', Kit.Ev.call e1 (Kit.Ev.call rfl (Kit.Ev.call e2 (Kit.Ev.neg hb H))), q⟩
def FewP (l : List S58) : Prop := l.length ≤ 9 ∧ ∀ x ∈ l, x.f6.length ≤ 4
theorem FewP.fine {l : List S58} (h : FewP l) : FineN l := ⟨by have := h.1; omega, fun x hx => by have := h.2 x hx; omega⟩
theorem FewP.put {l : List S58} (h : FewP l) (i : Nat) {x : S58} (hx : x.f6.length ≤ 4) : FewP (l.set i x) := by
  refine ⟨by rw [List.length_set]; exact h.1, fun y hy => ?_⟩
  rcases List.mem_or_eq_of_mem_set hy with g | g
  · exact h.2 y g
  · rw [g]; exact hx
theorem bentPlan_some {c : List Int} (hc : BytesOk c) {t : Int} (h0 : 0 ≤ t) (h1 : t ≤ 999980000000) :
    ∃ (r : List S58) (t' : Int), Ev (fun k => spec_l3Bent.f k c t) (r, t') ∧ FewP r ∧ t ≤ t' ∧ t' ≤ t + 200 := by
  unfold spec_l3Bent.f
  obtain ⟨l, t1, H, ⟨l2, l8, lc⟩, p0, p1⟩ := drawPlan_some hc h0 (by omega)
  obtain ⟨i, e1, hi, _⟩ := next_some hc (t := t1) (by omega) (by omega) (l.length : Int)
  obtain ⟨i0, i1⟩ := hi (by omega)
  obtain ⟨op, e2, _⟩ := next_some hc (t := t1 + 1) (by omega) (by omega) 24
  have fl : FewP l := ⟨by omega, fun x hx => by have := lc x hx; omega⟩
  have f3 : (rd_T58 l i).f6.length ≤ 3 := by
    obtain ⟨j, rfl⟩ := Int.eq_ofNat_of_zero_le i0
    exact lc _ (rdN_mem (by omega))
  have f4 : (rd_T58 l i).f6.length ≤ 4 := by omega
  by_cases c0 : op = 0
  · obtain ⟨v, e3, _⟩ := next_some hc (t := t1 + 1 + 1) (by omega) (by omega) 13
    obtain ⟨x, e4, _⟩ := pick_some hc (t := t1 + 1 + 1 + 1) (by omega) (by omega) ([0, 13, v] : List Int) (by simp)
    exact ⟨_, _, Kit.Ev.then H (Kit.Ev.call e1 (Kit.Ev.call e2 (Kit.Ev.pos c0 (Kit.Ev.call e3 (Kit.Ev.call e4 (Kit.Ev.pos i0 (Kit.Ev.pos i1 (Kit.Ev.const rfl)))))))), fl.put _ f4, by omega, by omega⟩
  by_cases c1 : op = 1
  · obtain ⟨x, e4, _⟩ := pick_some hc (t := t1 + 1 + 1) (by omega) (by omega) ([(-1), i, 0, 4611686018427387904] : List Int) (by simp)
    exact ⟨_, _, Kit.Ev.then H (Kit.Ev.call e1 (Kit.Ev.call e2 (Kit.Ev.neg c0 (Kit.Ev.pos c1 (Kit.Ev.call e4 (Kit.Ev.pos i0 (Kit.Ev.pos i1 (Kit.Ev.const rfl)))))))), fl.put _ f4, by omega, by omega⟩
  by_cases c2 : op = 2
  · obtain ⟨x, e4, _⟩ := pick_some hc (t := t1 + 1 + 1) (by omega) (by omega) ([(-1), i, 1] : List Int) (by simp)
    exact ⟨_, _, Kit.Ev.then H (Kit.Ev.call e1 (Kit.Ev.call e2 (Kit.Ev.neg c0 (Kit.Ev.neg c1 (Kit.Ev.pos c2 (Kit.Ev.call e4 (Kit.Ev.pos i0 (Kit.Ev.pos i1 (Kit.Ev.const rfl))))))))), fl.put _ f4, by omega, by omega⟩
  by_cases c3 : op = 3
  · obtain ⟨x, e4, _⟩ := pick_some hc (t := t1 + 1 + 1) (by omega) (by omega) ([(-1), 0, 4, 3, 1] : List Int) (by simp)
    exact ⟨_, _, Kit.Ev.then H (Kit.Ev.call e1 (Kit.Ev.call e2 (Kit.Ev.neg c0 (Kit.Ev.neg c1 (Kit.Ev.neg c2 (Kit.Ev.pos c3 (Kit.Ev.call e4 (Kit.Ev.pos i0 (Kit.Ev.pos i1 (Kit.Ev.const rfl)))))))))), fl.put _ f4, by omega, by omega⟩
  by_cases c4 : op = 4
  · obtain ⟨x, e4, _⟩ := pick_some hc (t := t1 + 1 + 1) (by omega) (by omega) ([0, (-1), 4] : List Int) (by simp)
    have e5 : list_app.f (rd_T58 l i).f6 [x] = some ((rd_T58 l i).f6 ++ [x]) := by
      unfold list_app.f
      rw [if_pos (by simp only [List.length_cons, List.length_nil]; omega)]
    exact ⟨_, _, Kit.Ev.then H (Kit.Ev.call e1 (Kit.Ev.call e2 (Kit.Ev.neg c0 (Kit.Ev.neg c1 (Kit.Ev.neg c2 (Kit.Ev.neg c3 (Kit.Ev.pos c4 (Kit.Ev.pos i0 (Kit.Ev.pos i1 (Kit.Ev.call e4 (Kit.Ev.call e5 (Kit.Ev.const rfl)))))))))))), fl.put _ (by simp only [List.length_append, List.length_cons, List.length_nil]; omega), by omega, by omega⟩
  by_cases c5 : op = 5
  · obtain ⟨x, e4, _⟩ := pick_some hc (t := t1 + 1 + 1) (by omega) (by omega) ([1, 3] : List Int) (by simp)
    exact ⟨_, _, Kit.Ev.then H (Kit.Ev.call e1 (Kit.Ev.call e2 (Kit.Ev.neg c0 (Kit.Ev.neg c1 (Kit.Ev.neg c2 (Kit.Ev.neg c3 (Kit.Ev.neg c4 (Kit.Ev.pos c5 (Kit.Ev.call e4 (Kit.Ev.pos i0 (Kit.Ev.pos i1 (Kit.Ev.const rfl)))))))))))), fl.put _ f4, by omega, by omega⟩
  by_cases c6 : op = 6
  · obtain ⟨x, e4, _⟩ := pick_some hc (t := t1 + 1 + 1) (by omega) (by omega) ([1000000000, 1000000001, (-1)] : List Int) (by simp)
    exact ⟨_, _, Kit.Ev.then H (Kit.Ev.call e1 (Kit.Ev.call e2 (Kit.Ev.neg c0 (Kit.Ev.neg c1 (Kit.Ev.neg c2 (Kit.Ev.neg c3 (Kit.Ev.neg c4 (Kit.Ev.neg c5 (Kit.Ev.pos c6 (Kit.Ev.call e4 (Kit.Ev.pos i0 (Kit.Ev.pos i1 (Kit.Ev.const rfl))))))))))))), fl.put _ f4, by omega, by omega⟩
  by_cases c7 : op = 7
  · refine ⟨_, _, Kit.Ev.then H (Kit.Ev.call e1 (Kit.Ev.call e2 (Kit.Ev.neg c0 (Kit.Ev.neg c1 (Kit.Ev.neg c2 (Kit.Ev.neg c3 (Kit.Ev.neg c4 (Kit.Ev.neg c5 (Kit.Ev.neg c6 (Kit.Ev.pos c7 (Kit.Ev.pos (show l.length < 1954687338268 by omega) (Kit.Ev.const rfl)))))))))))), ⟨by simp; omega, fun x hx => ?_⟩, by omega, by omega⟩
    rcases List.mem_append.mp hx with h | h
    · exact fl.2 x h
    · rw [List.mem_singleton.mp h]; simp
  by_cases c8 : op = 8
  · obtain ⟨x, e4, hx⟩ := pick_some hc (t := t1 + 1 + 1) (by omega) (by omega) ([0, 9] : List Int) (by simp)
    have hx2 : 0 ≤ x ∧ x ≤ 9 := by
      simp only [List.mem_cons, List.not_mem_nil, or_false] at hx
      omega
    refine ⟨_, _, Kit.Ev.then H (Kit.Ev.call e1 (Kit.Ev.call e2 (Kit.Ev.neg c0 (Kit.Ev.neg c1 (Kit.Ev.neg c2 (Kit.Ev.neg c3 (Kit.Ev.neg c4 (Kit.Ev.neg c5 (Kit.Ev.neg c6 (Kit.Ev.neg c7 (Kit.Ev.pos c8 (Kit.Ev.call e4 (Kit.Ev.pos hx2.1 (Kit.Ev.pos (by simp only; omega) (Kit.Ev.const rfl))))))))))))))), ⟨by rw [List.length_replicate]; omega, fun y hy => ?_⟩, by omega, by omega⟩
    rw [List.eq_of_mem_replicate hy]
    simp [z58]
  exact ⟨l, t1 + 1 + 1, Kit.Ev.then H (Kit.Ev.call e1 (Kit.Ev.call e2 (Kit.Ev.neg c0 (Kit.Ev.neg c1 (Kit.Ev.neg c2 (Kit.Ev.neg c3 (Kit.Ev.neg c4 (Kit.Ev.neg c5 (Kit.Ev.neg c6 (Kit.Ev.neg c7 (Kit.Ev.neg c8 (Kit.Ev.const rfl)))))))))))), fl, by omega, by omega⟩
theorem drawFeeds_some {c : List Int} (hc : BytesOk c) : ∃ (l : List S58) (u v : Int), Ev (fun k => spec_DrawFeedsOn.f k c) (l, u, v) ∧ FewP l := by
  unfold spec_DrawFeedsOn.f spec_l1Source.f
  obtain ⟨l, t, H, hl, p0, p1⟩ := bentPlan_some hc (t := 0) (by omega) (by omega)
  obtain ⟨m, em⟩ : ∃ m, spec_l1Max.f 1 (l.length : Int) = some m := by
    unfold spec_l1Max.f
    split <;> exact ⟨_, rfl⟩
  obtain ⟨v1, e1, _⟩ := next_some hc (t := t) (by omega) (by omega) m
  obtain ⟨v2, e2, _⟩ := next_some hc (t := t + 1) (by omega) (by omega) m
  obtain ⟨v3, e3, _⟩ := pick_some hc (t := t + 1 + 1) (by omega) (by omega) ([v1, 0, v2, (-1)] : List Int) (by simp)
  obtain ⟨v4, e4, _⟩ := next_some hc (t := t + 1 + 1 + 1) (by omega) (by omega) m
  obtain ⟨v5, e5, _⟩ := pick_some hc (t := t + 1 + 1 + 1 + 1) (by omega) (by omega) ([wrap64 ((l.length : Int) - 1), v4, (l.length : Int)] : List Int) (by simp)
  exact ⟨l, v3, v5, Kit.Ev.call rfl (Kit.Ev.then H (Kit.Ev.call em (Kit.Ev.call e1 (Kit.Ev.call em (Kit.Ev.call e2 (Kit.Ev.call e3 (Kit.Ev.call em (Kit.Ev.call e4 (Kit.Ev.call e5 (Kit.Ev.const rfl)))))))))), hl⟩
theorem implFeedsOn_no {plan : List S58} (hx : FineN plan) (hp : ¬ planF plan = 0) (u v : Int) : Ev (fun k => impl_FeedsOn.f k plan u v) false := by
  unfold impl_FeedsOn.f
  exact Kit.Ev.then (implPlan_ev hx) (Kit.Ev.neg hp (Kit.Ev.const rfl))
open Classical in
theorem implFeedsOn_ev {plan : List S58} (hx : FineN plan) (hp : planF plan = 0) {a c : Nat} (ha : a < plan.length) (hc : c < plan.length) : Ev (fun k => impl_FeedsOn.f k plan (a : Int) (c : Int)) (decide (Fd plan a c)) := by
  have hn := hx.1
  have w := Kit.w64 (x := (plan.length : Int) - 1) (by omega) (by omega)
  obtain ⟨hg1, hg⟩ := planF_good hp
  obtain ⟨r, e, hr⟩ := implFeeds_ev hg a (c + 1) c (by omega) (by omega)
  have er : r = decide (Fd plan a c) := by
    cases r <;> simp_all
  subst er
  unfold impl_FeedsOn.f
  refine Kit.Ev.then (implPlan_ev hx) (Kit.Ev.pos hp (Kit.Ev.call (a := (plan.length : Int)) rfl (Kit.Ev.call (implIn_eq _ _ _) ?_)))
  rw [w]
  refine Kit.Ev.pos (decide_eq_true (by omega)) (Kit.Ev.call (a := (plan.length : Int)) rfl (Kit.Ev.call (implIn_eq _ _ _) ?_))
  rw [w]
  exact Kit.Ev.pos (decide_eq_true (by omega)) (Kit.Ev.then e (Kit.Ev.const rfl))
theorem readersL_mem (v : Int) : ∀ (xs : List S58) (i : Nat) (u : Int), u ∈ readersL v xs i → ∃ n : Nat, u = ((i + n : Nat) : Int) ∧ n < xs.length ∧ v ∈ readsL (rd_T58 xs (n : Int))
  | [], _, _, h => by simp [readersL] at h
  | x :: xs, i, u, h => by
    have tl : u ∈ readersL v xs (i + 1) → ∃ n : Nat, u = ((i + n : Nat) : Int) ∧ n < (x :: xs).length ∧ v ∈ readsL (rd_T58 (x :: xs) (n : Int)) := by
      intro h
      obtain ⟨n, h1, h2, h3⟩ := readersL_mem v xs (i + 1) u h
      refine ⟨n + 1, by rw [h1]; omega, by simp only [List.length_cons]; omega, ?_⟩
      rw [rdN_at (by simp only [List.length_cons]; omega), List.getElem_cons_succ, ← rdN_at h2]
      exact h3
    simp only [readersL] at h
    by_cases hc : v ∈ readsL x
    · rw [if_pos hc] at h
      rcases List.mem_cons.mp h with h | h
      · refine ⟨0, by omega, by simp, ?_⟩
        rw [rdN_at (by simp)]
        exact hc
      · exact tl h
    · rw [if_neg hc] at h
      exact tl h
theorem Fd.trans {plan : List S58} {a b c : Nat} (h : Fd plan a b) (g : Fd plan b c) : Fd plan a c := by
  induction h with
  | one h => exact .step h g
  | step h _ ih => exact .step h (ih g)
section
open Classical
variable {plan : List S58} (hx : FineN plan) (hp : planF plan = 0)
include hx hp
theorem feeds_l3 (a b : Nat) (hb : b < plan.length) (h : a < plan.length) (hf : Fd plan a b) (next : Ev (fun k => laws_FnFeeds.l2 k plan (plan.length : Int) (a : Int) ((b + 1 : Nat) : Int)) true) :
    ∀ (d c : Nat), c + d = plan.length → Ev (fun k => laws_FnFeeds.l3 k plan (plan.length : Int) (a : Int) (b : Int) (c : Int)) true := by
  have hn := hx.1
  intro d
  induction d with
  | zero =>
    intro c hc
    refine Kit.Ev.up ?_
    simp only [laws_FnFeeds.l3]
    refine Kit.Ev.neg (by omega) ?_
    rw [Kit.w64s (n := plan.length) (by omega) (by omega) (by omega)]
    exact next
  | succ d ih =>
    intro c hc
    have go := ih (c + 1) (by omega)
    refine Kit.Ev.up ?_
    simp only [laws_FnFeeds.l3]
    refine Kit.Ev.pos (by omega) ?_
    rw [Kit.w64s (n := plan.length) (i := (c : Int)) (by omega) (by omega) (by omega)]
    refine Kit.Ev.then (implFeedsOn_ev hx hp hb (c := c) (by omega)) (Kit.Ev.ite (fun h1 => ?_) (fun _ => go))
    exact Kit.Ev.then (implFeedsOn_ev hx hp h (c := c) (by omega)) (Kit.Ev.pos (decide_eq_true (hf.trans (of_decide_eq_true h1))) go)
theorem feeds_l2 (a : Nat) (h : a < plan.length) (next : Ev (fun k => laws_FnFeeds.l0 k plan (plan.length : Int) ((a + 1 : Nat) : Int)) true) :
    ∀ (d b : Nat), b + d = plan.length → Ev (fun k => laws_FnFeeds.l2 k plan (plan.length : Int) (a : Int) (b : Int)) true := by
  have hn := hx.1
  have hg := (planF_good hp).2
  intro d
  induction d with
  | zero =>
    intro b hb
    refine Kit.Ev.up ?_
    simp only [laws_FnFeeds.l2]
    refine Kit.Ev.neg (by omega) ?_
    rw [Kit.w64s (n := plan.length) (by omega) (by omega) (by omega)]
    exact next
  | succ d ih =>
    intro b hb
    have go := ih (b + 1) (by omega)
    refine Kit.Ev.up ?_
    simp only [laws_FnFeeds.l2]
    refine Kit.Ev.pos (by omega) ?_
    refine Kit.Ev.then (implFeedsOn_ev hx hp h (c := b) (by omega)) (Kit.Ev.ite (fun h1 => ?_) (fun _ => ?_))
    · have hf : Fd plan a b := of_decide_eq_true h1
      have hlt := hf.lt hg (by omega)
      exact Kit.Ev.neg (by omega) (feeds_l3 hx hp a b (by omega) h hf go plan.length 0 (by omega))
    · rw [Kit.w64s (n := plan.length) (by omega) (by omega) (by omega)]
      exact go
theorem feeds_l1 (a : Nat) (h : a < plan.length) (z : Int) (next : Ev (fun k => laws_FnFeeds.l2 k plan (plan.length : Int) (a : Int) 0) true) :
    ∀ (d i : Nat), i + d = (readersL (a : Int) plan 0).length → Ev (fun k => laws_FnFeeds.l1 k plan (plan.length : Int) (a : Int) (i : Int) z (readersL (a : Int) plan 0)) true := by
  have hn := hx.1
  have hr := readersL_len (a : Int) plan 0
  intro d
  induction d with
  | zero =>
    intro i hi
    refine Kit.Ev.up ?_
    simp only [laws_FnFeeds.l1]
    exact Kit.Ev.neg (by omega) next
  | succ d ih =>
    intro i hi
    have go := ih (i + 1) (by omega)
    have hm : rd (readersL (a : Int) plan 0) (i : Int) ∈ readersL (a : Int) plan 0 := by
      have : rd (readersL (a : Int) plan 0) (i : Int) ∈ (readersL (a : Int) plan 0).drop i := by rw [@rd_drop (readersL (a : Int) plan 0) i (by omega)]; exact List.mem_cons_self
      exact List.mem_of_mem_drop this
    obtain ⟨n, e, n1, n2⟩ := readersL_mem _ _ _ _ hm
    have e' : rd (readersL (a : Int) plan 0) (i : Int) = (n : Int) := by rw [e]; omega
    refine Kit.Ev.up ?_
    simp only [laws_FnFeeds.l1]
    rw [e', Kit.w64s (n := (readersL (a : Int) plan 0).length) (i := (i : Int)) (by omega) (by omega) (by omega)]
    refine Kit.Ev.pos (by omega) (Kit.Ev.pos (by omega) (Kit.Ev.then (implFeedsOn_ev hx hp h n1) (Kit.Ev.pos (decide_eq_true (.one n2)) go)))
theorem feeds_l0 : ∀ (d a : Nat), a + d = plan.length → Ev (fun k => laws_FnFeeds.l0 k plan (plan.length : Int) (a : Int)) true := by
  have hn := hx.1
  intro d
  induction d with
  | zero =>
    intro a ha
    refine Kit.Ev.up ?_
    simp only [laws_FnFeeds.l0]
    refine Kit.Ev.neg (by omega) (Kit.Ev.then (implPlan_ev hx) (Kit.Ev.pos hp (Kit.Ev.then (implNodesOf_ev hx 1) (Kit.Ev.then (specNodesOf_ev hx 1) (Kit.Ev.const ?_)))))
    simp
  | succ d ih =>
    intro a ha
    have hl2 := feeds_l2 hx hp a (by omega) (ih (a + 1) (by omega)) plan.length 0 (by omega)
    have er : readersOfF (a : Int) plan = (0, readersL (a : Int) plan 0) := by
      unfold readersOfF
      rw [if_pos]
      unfold askedF
      rw [if_pos hp, if_pos (by omega)]
    refine Kit.Ev.up ?_
    simp only [laws_FnFeeds.l0]
    exact Kit.Ev.pos (by omega) (Kit.Ev.then ((implReadersOf_ev hx (a : Int)).eq er) (feeds_l1 hx hp a (by omega) 0 hl2 (readersL (a : Int) plan 0).length 0 (by omega)))
end
theorem FnFeeds : laws_FnFeeds.Pure := by
  intro l0 _ _ hb8
  refine Kit.Ev.ex ?_
  unfold laws_FnFeeds.f laws_lwBig.f
  simp only [Option.bind_some]
  refine Kit.Ev.ite (fun _ => Kit.Ev.const rfl) (fun hbig => ?_)
  have hc : BytesOk l0 := bytesOk_of (by simp only [decide_eq_true_eq] at hbig; omega) hb8
  obtain ⟨l, u, v, H, hl⟩ := drawFeeds_some hc
  have hx := hl.fine
  refine Kit.Ev.then H (Kit.Ev.then (specPlan_ev hx) (Kit.Ev.ite (fun hp => ?_) (fun hp => ?_)))
  · exact feeds_l0 hx hp l.length 0 (by omega)
  · refine Kit.Ev.then (implFeedsOn_no hx hp _ _) (Kit.Ev.neg (by simp) (Kit.Ev.then (implPlan_ev hx) (Kit.Ev.const ?_)))
    simp [hp]

end Go.Proofs.Yteibdjkfkcckkaa.Pure
