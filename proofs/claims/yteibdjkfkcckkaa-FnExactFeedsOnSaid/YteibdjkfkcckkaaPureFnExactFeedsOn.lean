/- The law FnExactFeedsOn answers true for every list of nodes and every two numbers. -/
import Derived.Test.YteibdjkfkcckkaaKit
import Derived.Test.YteibdjkfkcckkaaPFnExactFeedsOnx12
namespace Go.Proofs.Yteibdjkfkcckkaa.Pure
open Go.RowKit Go.Proofs.Yteibdjkfkcckkaa.PFnExactFeedsOn Go.Proofs.YteibdjkfkcckkaaW.PrintWords Go.Proofs.YteibdjkfkcckkaaW.PrintLast Go.Proofs.Yteibdjkfkcckkaa Go.Proofs.Yteibdjkfkcckkaa.Kit
set_option linter.unusedSimpArgs false
set_option linter.unusedVariables false

theorem w64n {i n : Nat} (h : i < n) (hn : n ≤ 9223372036854775807) : wrap64 ((i : Int) + 1) = ((i + 1 : Nat) : Int) := by
 rw [w64 (by omega) (by omega)]; rfl
theorem rd_drop {xs : List Int} {i : Nat} (h : i < xs.length) : xs.drop i = rd xs (i : Int) :: xs.drop (i + 1) := by
 rw [rd_at h]; exact List.drop_eq_getElem_cons h
theorem toInt64S_l0 (xs : List Int) (hn : xs.length ≤ 9223372036854775807) : ∀ (d i : Nat) (ys : List Int), i + d = xs.length → ys.length = xs.length → (∀ j, j < i → ys[j]? = xs[j]?) → Ev (fun k => laws_toInt64S.l0 k xs ys (i : Int)) xs := by
 intro d
 induction d with
 | zero =>
  intro i ys hd hl he
  refine Ev.up ?_
  simp only [laws_toInt64S.l0]
  refine Ev.neg (by omega) (Ev.const ?_)
  congr 1
  apply List.ext_getElem?
  intro j
  by_cases hj : j < i
  ·exact he j hj
  ·rw [List.getElem?_eq_none (by omega), List.getElem?_eq_none (by omega)]
 | succ d ih =>
  intro i ys hd hl he
  refine Ev.up ?_
  simp only [laws_toInt64S.l0]
  refine Ev.pos (by omega) (Ev.pos (by omega) (Ev.pos (by omega) ?_))
  rw [w64n (n := xs.length) (by omega) hn, Int.toNat_natCast]
  refine ih (i + 1) _ (by omega) (by simpa using hl) (fun j hj => ?_)
  rw [List.getElem?_set]
  by_cases e : i = j
  ·subst e
   rw [if_pos rfl, if_pos (by omega), rd_at (by omega), List.getElem?_eq_getElem (by omega)]
  ·rw [if_neg e]
   exact he j (by omega)
theorem toInt64S_ev (xs : List Int) (hn : xs.length ≤ 1048576) : Ev (fun k => laws_toInt64S.f k xs) xs := by
 unfold laws_toInt64S.f
 refine Ev.pos (by omega) (Ev.pos (by omega) ?_)
 exact toInt64S_l0 xs (by omega) xs.length 0 _ (by omega) (by simp) (fun j hj => by omega)
theorem eqInt64S_l0 (xs ys : List Int) (hn : xs.length ≤ 9223372036854775807) (hl : xs.length = ys.length) : ∀ (d i : Nat), i + d = xs.length → Ev (fun k => laws_eqInt64S.l0 k xs ys (i : Int)) (decide (xs.drop i = ys.drop i)) := by
 intro d
 induction d with
 | zero =>
  intro i hd
  refine Ev.up ?_
  simp only [laws_eqInt64S.l0]
  refine Ev.neg (by omega) (Ev.const ?_)
  rw [List.drop_eq_nil_of_le (by omega), List.drop_eq_nil_of_le (by omega)]; simp
 | succ d ih =>
  intro i hd
  refine Ev.up ?_
  simp only [laws_eqInt64S.l0]
  refine Ev.pos (by omega) (Ev.pos (by omega) (Ev.pos (by omega) ?_))
  rw [rd_drop (xs := xs) (i := i) (by omega), rd_drop (xs := ys) (i := i) (by omega), w64n (n := xs.length) (by omega) hn]
  refine Ev.ite (fun h => ?_) (fun h => Ev.const ?_)
  ·exact (ih (i + 1) (by omega)).eq (by rw [h]; simp)
  ·simp [h]
theorem eqInt64S_ev (xs ys : List Int) (hn : xs.length ≤ 9223372036854775807) : Ev (fun k => laws_eqInt64S.f k xs ys) (decide (xs = ys)) := by
 unfold laws_eqInt64S.f
 refine Ev.ite (fun h => ?_) (fun h => Ev.const ?_)
 ·exact (eqInt64S_l0 xs ys hn (by omega) xs.length 0 (by omega)).eq (by simp)
 ·have : xs ≠ ys := fun e => h (by rw [e])
  simp [this]
theorem eqInt64S_refl (xs : List Int) (hn : xs.length ≤ 9223372036854775807) : Ev (fun k => laws_eqInt64S.f k xs xs) true := (eqInt64S_ev xs xs hn).eq (by simp)
theorem specIn_eq (a b c : Int) : spec_l1In.f a b c = some (decide (b ≤ a ∧ a ≤ c)) := by
 unfold spec_l1In.f
 by_cases h : a ≥ b
 ·rw [if_pos h]; simp [show b ≤ a from h]
 ·rw [if_neg h]; simp; intro h'; omega
theorem implIn_eq (a b c : Int) : impl_in.f a b c = some (decide (b ≤ a ∧ a ≤ c)) := by
 unfold impl_in.f
 by_cases h : a ≥ b
 ·rw [if_pos h]; simp [show b ≤ a from h]
 ·rw [if_neg h]; simp; intro h'; omega
theorem slicesEq_l0 (xs ys : List Int) (hn : xs.length ≤ 9223372036854775807) (hl : xs.length = ys.length) : ∀ (d i : Nat), i + d = xs.length → Ev (fun k => slices_Equal_int64_int64.l0 k xs ys (xs.length : Int) (i : Int)) (decide (xs.drop i = ys.drop i)) := by
 intro d
 induction d with
 | zero =>
  intro i hd
  refine Ev.up ?_
  simp only [slices_Equal_int64_int64.l0]
  refine Ev.neg (by omega) (Ev.const ?_)
  rw [List.drop_eq_nil_of_le (by omega), List.drop_eq_nil_of_le (by omega)]; simp
 | succ d ih =>
  intro i hd
  refine Ev.up ?_
  simp only [slices_Equal_int64_int64.l0]
  refine Ev.pos (by omega) (Ev.pos (by omega) (Ev.pos (by omega) (Ev.pos (by omega) ?_)))
  rw [rd_drop (xs := xs) (i := i) (by omega), rd_drop (xs := ys) (i := i) (by omega), w64n (n := xs.length) (by omega) hn]
  refine Ev.ite (fun h => ?_) (fun h => Ev.const ?_)
  ·exact (ih (i + 1) (by omega)).eq (by rw [h]; simp)
  ·simp [h]
theorem slicesEq_ev (xs ys : List Int) (hn : xs.length ≤ 9223372036854775807) : Ev (fun k => slices_Equal_int64_int64.f k xs ys) (decide (xs = ys)) := by
 unfold slices_Equal_int64_int64.f
 refine Ev.ite (fun h => ?_) (fun h => Ev.const ?_)
 ·exact (slicesEq_l0 xs ys hn (by omega) xs.length 0 (by omega)).eq (by simp)
 ·have : xs ≠ ys := fun e => h (by rw [e])
  simp [this]
def readsL (x : S58) : List Int := if x.f0 = 1 then [] else if x.f0 = 4 ∨ x.f0 = 6 then [x.f1, x.f2] else [x.f1]
def namedB (a0 a1 a2 a3 a4 a5 : Int) (l6 : List Int) : Bool := decide ((a0 = 1 → a1 = 0) ∧ (¬ (a0 = 4 ∨ a0 = 6) → a2 = 0) ∧ (¬ a0 = 2 → a4 = 0 ∧ a5 = 0) ∧ (¬ a0 = 3 → l6 = []) ∧ ((a0 = 3 ∨ a0 = 4 ∨ a0 = 5 ∨ a0 = 11 ∨ a0 = 12) → a3 = 0))
def named (x : S58) : Bool := namedB x.f0 x.f1 x.f2 x.f3 x.f4 x.f5 x.f6
def widthW (ws : List Int) (x : S58) : Int :=
 if x.f0 = 1 then x.f3 else if x.f0 = 3 then (x.f6.length : Int) else if x.f0 = 6 then rd ws x.f1 + rd ws x.f2 - x.f3 else if 7 ≤ x.f0 ∧ x.f0 ≤ 10 then x.f3 + 1 else rd ws x.f1
def cellOk (w c : Int) : Bool := decide (0 ≤ c ∧ c ≤ w - 1)
def faultW (ws : List Int) (x : S58) : Int :=
 if x.f0 = 1 then (if 1 ≤ x.f3 ∧ x.f3 ≤ 3 then 0 else 3)
 else if x.f0 = 2 then (if 0 ≤ x.f3 ∧ x.f3 ≤ rd ws x.f1 - 1 then (if 0 ≤ x.f4 ∧ x.f4 ≤ 2 then (if -1000000000 ≤ x.f5 ∧ x.f5 ≤ 1000000000 then 0 else 3) else 3) else 3)
 else if x.f0 = 3 then (if 1 ≤ (x.f6.length : Int) ∧ (x.f6.length : Int) ≤ 4 then (if x.f6.all (cellOk (rd ws x.f1)) = true then 0 else 3) else 2)
 else if x.f0 = 4 then (if rd ws x.f1 = rd ws x.f2 then 0 else 1)
 else if x.f0 = 6 then (if 1 ≤ x.f3 ∧ x.f3 ≤ min (rd ws x.f1) (rd ws x.f2) then (if rd ws x.f1 + rd ws x.f2 - x.f3 > 4 then 2 else 0) else 3)
 else if x.f0 = 7 then (if 0 ≤ x.f3 ∧ x.f3 ≤ min (rd ws x.f1) 3 then 0 else 3)
 else if 8 ≤ x.f0 ∧ x.f0 ≤ 10 then (if 0 ≤ x.f3 ∧ x.f3 ≤ rd ws x.f1 - 1 then 0 else 3)
 else 0
def readOk (plan : List S58) (i : Nat) (k : Int) : Bool := decide (0 ≤ k ∧ k ≤ (i : Int) - 1) && !decide ((rd_T58 plan k).f0 = 12)
def wsN (plan : List S58) : Nat → List Int
 | 0 => []
 | i + 1 => wsN plan i ++ [widthW (wsN plan i) (rd_T58 plan (i : Int))]
def codeN (plan : List S58) (i : Nat) : Int :=
 if 1 ≤ (rd_T58 plan (i : Int)).f0 ∧ (rd_T58 plan (i : Int)).f0 ≤ 12 then
  (if named (rd_T58 plan (i : Int)) = true then (if (readsL (rd_T58 plan (i : Int))).all (readOk plan i) = true then faultW (wsN plan i) (rd_T58 plan (i : Int)) else 3) else 1)
 else 5
theorem codeN_eq (plan : List S58) (i : Nat) : codeN plan i = if 1 ≤ (rd_T58 plan (i : Int)).f0 ∧ (rd_T58 plan (i : Int)).f0 ≤ 12 then
  (if named (rd_T58 plan (i : Int)) = true then (if (readsL (rd_T58 plan (i : Int))).all (readOk plan i) = true then faultW (wsN plan i) (rd_T58 plan (i : Int)) else 3) else 1)
 else 5 := rfl
def GoodN (plan : List S58) (i : Nat) : Prop := ∀ j, j < i → codeN plan j = 0
def planC (plan : List S58) : Nat → Nat → Int
 | 0, _ => 0
 | d + 1, i => if codeN plan i = 0 then planC plan d (i + 1) else codeN plan i
def planF (plan : List S58) : Int := if 1 ≤ plan.length ∧ plan.length ≤ 8 then planC plan plan.length 0 else 2
def wOf (plan : List S58) (i : Nat) : Int := widthW (wsN plan i) (rd_T58 plan (i : Int))
theorem wsN_len (plan : List S58) : ∀ i, (wsN plan i).length = i
 | 0 => rfl
 | i + 1 => by simp [wsN, wsN_len plan i]
theorem wsN_rd (plan : List S58) : ∀ {i j : Nat}, j < i → rd (wsN plan i) (j : Int) = wOf plan j
 | 0, _, h => by omega
 | i + 1, j, h => by
  rw [rd_nat, wsN, List.getD_eq_getElem?_getD]
  by_cases e : j = i
  ·subst e
   rw [List.getElem?_append_right (by rw [wsN_len]; omega), wsN_len]
   simp [wOf]
  ·rw [List.getElem?_append_left (by rw [wsN_len]; omega), ← List.getD_eq_getElem?_getD, ← rd_nat]
   exact wsN_rd plan (by omega)
theorem planC_zero (plan : List S58) : ∀ (d i : Nat), planC plan d i = 0 ↔ ∀ j, i ≤ j → j < i + d → codeN plan j = 0
 | 0, i => ⟨fun _ j h1 h2 => by omega, fun _ => rfl⟩
 | d + 1, i => by
  simp only [planC]
  by_cases h : codeN plan i = 0
  ·rw [if_pos h, planC_zero plan d (i + 1)]
   constructor
   ·intro g j h1 h2
    by_cases e : j = i
    ·rw [e]; exact h
    ·exact g j (by omega) (by omega)
   ·intro g j h1 h2
    exact g j (by omega) (by omega)
  ·rw [if_neg h]
   constructor
   ·intro g; exact absurd g h
   ·intro g; exact absurd (g i (by omega) (by omega)) h
theorem planF_good {plan : List S58} (h : planF plan = 0) : (1 ≤ plan.length ∧ plan.length ≤ 8) ∧ GoodN plan plan.length := by
 unfold planF at h
 by_cases h1 : 1 ≤ plan.length ∧ plan.length ≤ 8
 ·rw [if_pos h1] at h
  exact ⟨h1, fun j hj => (planC_zero plan _ _).mp h j (by omega) (by omega)⟩
 ·rw [if_neg h1] at h; omega
theorem op_cases {a : Int} (h : 1 ≤ a ∧ a ≤ 12) : a = 1 ∨ a = 2 ∨ a = 3 ∨ a = 4 ∨ a = 5 ∨ a = 6 ∨ a = 7 ∨ a = 8 ∨ a = 9 ∨ a = 10 ∨ a = 11 ∨ a = 12 := by omega
theorem codeN_parts {plan : List S58} {i : Nat} (h : codeN plan i = 0) : (1 ≤ (rd_T58 plan (i : Int)).f0 ∧ (rd_T58 plan (i : Int)).f0 ≤ 12) ∧ named (rd_T58 plan (i : Int)) = true ∧ (readsL (rd_T58 plan (i : Int))).all (readOk plan i) = true ∧ faultW (wsN plan i) (rd_T58 plan (i : Int)) = 0 := by
 unfold codeN at h
 by_cases h1 : 1 ≤ (rd_T58 plan (i : Int)).f0 ∧ (rd_T58 plan (i : Int)).f0 ≤ 12
 ·rw [if_pos h1] at h
  by_cases h2 : named (rd_T58 plan (i : Int)) = true
  ·rw [if_pos h2] at h
   by_cases h3 : (readsL (rd_T58 plan (i : Int))).all (readOk plan i) = true
   ·rw [if_pos h3] at h
    exact ⟨h1, h2, h3, h⟩
   ·rw [if_neg h3] at h; omega
  ·rw [if_neg h2] at h; omega
 ·rw [if_neg h1] at h; omega
theorem readOk_in {plan : List S58} {i : Nat} {k : Int} (h : readOk plan i k = true) : ∃ a : Nat, (a : Int) = k ∧ a < i ∧ ¬ (rd_T58 plan k).f0 = 12 := by
 simp only [readOk, Bool.and_eq_true, decide_eq_true_eq, Bool.not_eq_true', decide_eq_false_iff_not] at h
 exact ⟨k.toNat, by omega, by omega, h.2⟩
/-- The first that a node reads from. -/
theorem reads_a {plan : List S58} {i : Nat} {x : S58} (h : (readsL x).all (readOk plan i) = true) (h1 : ¬ x.f0 = 1) : ∃ a : Nat, (a : Int) = x.f1 ∧ a < i ∧ ¬ (rd_T58 plan x.f1).f0 = 12 := by
 refine readOk_in (List.all_eq_true.mp h _ ?_)
 unfold readsL
 rw [if_neg h1]
 split <;> simp
theorem reads_b {plan : List S58} {i : Nat} {x : S58} (h : (readsL x).all (readOk plan i) = true) (h2 : x.f0 = 4 ∨ x.f0 = 6) : ∃ b : Nat, (b : Int) = x.f2 ∧ b < i ∧ ¬ (rd_T58 plan x.f2).f0 = 12 := by
 refine readOk_in (List.all_eq_true.mp h _ ?_)
 unfold readsL
 rw [if_neg (by omega), if_pos h2]
 simp
theorem width_in {ws : List Int} {x : S58} (h0 : 1 ≤ x.f0 ∧ x.f0 ≤ 12) (hf : faultW ws x = 0) (ha : ¬ x.f0 = 1 → 1 ≤ rd ws x.f1 ∧ rd ws x.f1 ≤ 4) (hb : x.f0 = 4 ∨ x.f0 = 6 → 1 ≤ rd ws x.f2 ∧ rd ws x.f2 ≤ 4) : 1 ≤ widthW ws x ∧ widthW ws x ≤ 4 := by
 rcases op_cases h0 with h | h | h | h | h | h | h | h | h | h | h | h <;> simp only [faultW, widthW, h, Int.reduceEq, Int.reduceLE, if_true, if_false, false_or, or_false, true_or, or_true, and_self, and_false, false_and, and_true, true_and] at hf ha hb ⊢
 all_goals (repeat' split at hf)
 all_goals first | omega | (have := ha (by simp); omega) | (have := ha (by simp); have := hb (by simp); omega)
theorem wOf_in {plan : List S58} {i : Nat} (hg : GoodN plan i) : ∀ (n j : Nat), j < n → j < i → 1 ≤ wOf plan j ∧ wOf plan j ≤ 4
 | 0, _, h, _ => by omega
 | n + 1, j, hn, hj => by
  obtain ⟨h1, h2, h3, h4⟩ := codeN_parts (hg j hj)
  refine width_in h1 h4 (fun h => ?_) (fun h => ?_)
  ·obtain ⟨a, ea, ha, _⟩ := reads_a h3 h
   rw [← ea, wsN_rd plan ha]
   exact wOf_in hg n a (by omega) (by omega)
  ·obtain ⟨b, eb, hb, _⟩ := reads_b h3 h
   rw [← eb, wsN_rd plan hb]
   exact wOf_in hg n b (by omega) (by omega)
theorem rd_in {plan : List S58} {i : Nat} (hg : GoodN plan i) {a : Nat} (ha : a < i) : rd (wsN plan i) (a : Int) = wOf plan a ∧ 1 ≤ wOf plan a ∧ wOf plan a ≤ 4 := ⟨wsN_rd plan ha, wOf_in hg i a ha ha⟩
/-- A node feeds on another, by as many steps as it takes. -/
inductive Fd (plan : List S58) : Nat → Nat → Prop
 | one {a c : Nat} (h : (a : Int) ∈ readsL (rd_T58 plan (c : Int))) : Fd plan a c
 | step {a b c : Nat} (h : (a : Int) ∈ readsL (rd_T58 plan (b : Int))) (g : Fd plan b c) : Fd plan a c
theorem Fd.left {plan : List S58} {a c : Nat} : Fd plan a c ↔ ∃ b : Nat, (a : Int) ∈ readsL (rd_T58 plan (b : Int)) ∧ (b = c ∨ Fd plan b c) := by
 constructor
 ·intro h
  cases h with
  | one h => exact ⟨c, h, .inl rfl⟩
  | step h g => exact ⟨_, h, .inr g⟩
 ·rintro ⟨b, h, rfl | g⟩
  ·exact .one h
  ·exact .step h g
theorem Fd.snoc {plan : List S58} {a b c : Nat} (g : Fd plan a b) : (b : Int) ∈ readsL (rd_T58 plan (c : Int)) → Fd plan a c := by
 induction g with
 | one h => exact fun h2 => .step h (.one h2)
 | step h _ ih => exact fun h2 => .step h (ih h2)
theorem Fd.right {plan : List S58} {a c : Nat} : Fd plan a c ↔ ∃ b : Nat, (b : Int) ∈ readsL (rd_T58 plan (c : Int)) ∧ (b = a ∨ Fd plan a b) := by
 constructor
 ·intro h
  induction h with
  | one h => exact ⟨_, h, .inl rfl⟩
  | step h g ih =>
   obtain ⟨b', h', e | e⟩ := ih
   ·subst e; exact ⟨_, h', .inr (.one h)⟩
   ·exact ⟨_, h', .inr (.step h e)⟩
 ·rintro ⟨b, h, rfl | g⟩
  ·exact .one h
  ·exact g.snoc h
theorem reads_lt {plan : List S58} (hg : GoodN plan plan.length) {c : Nat} (hc : c < plan.length) {x : Int} (h : x ∈ readsL (rd_T58 plan (c : Int))) : ∃ b : Nat, (b : Int) = x ∧ b < c := by
 obtain ⟨b, h1, h2, _⟩ := readOk_in (List.all_eq_true.mp (codeN_parts (hg c hc)).2.2.1 _ h)
 exact ⟨b, h1, h2⟩
theorem Fd.lt {plan : List S58} (hg : GoodN plan plan.length) {a c : Nat} (h : Fd plan a c) : c < plan.length → a < c := by
 induction h with
 | one h => intro hc; obtain ⟨b, h1, h2⟩ := reads_lt hg hc h; omega
 | @step a b c h _ ih =>
  intro hc
  have := ih hc
  obtain ⟨b', h1, h2⟩ := reads_lt hg (c := b) (by omega) h
  omega
theorem readsL_len (x : S58) : (readsL x).length ≤ 1048576 := by
 unfold readsL
 split
 ·simp
 ·split <;> simp
theorem specReads_eq {x : S58} : spec_l3Reads.f x.f0 = some ((readsL x).length : Int) := by
 unfold spec_l3Reads.f readsL
 by_cases h1 : x.f0 = 1
 ·rw [if_pos h1, if_pos h1]; rfl
 ·by_cases h4 : x.f0 = 4
  ·rw [if_neg h1, if_neg h1, if_pos h4, if_pos (Or.inl h4)]; rfl
  ·by_cases h6 : x.f0 = 6
   ·rw [if_neg h1, if_neg h1, if_neg h4, if_pos h6, if_pos (Or.inr h6)]; rfl
   ·rw [if_neg h1, if_neg h1, if_neg h4, if_neg h6, if_neg (by omega)]; rfl
set_option maxHeartbeats 8000000 in
theorem specNamed_ev (a0 a1 a2 a3 a4 a5 : Int) (l6 : List Int) (h0 : 1 ≤ a0 ∧ a0 ≤ 12) : Ev (fun k => spec_l3Named.f k a0 a1 a2 a3 a4 a5 l6) (namedB a0 a1 a2 a3 a4 a5 l6) := by
 refine Ev.up (Ev.up (Ev.all (fun k => ?_)))
 have h6 : decide ((l6.length : Int) > 0) = !decide (l6 = []) := by cases l6 <;> simp <;> omega
 rcases op_cases h0 with rfl | rfl | rfl | rfl | rfl | rfl | rfl | rfl | rfl | rfl | rfl | rfl <;>
 simp only [spec_l3Named.f, spec_l3Named.j0, spec_l3Named.j1, spec_l3Reads.f, namedB, h6, Int.reduceEq, Int.reduceLT, if_true, if_false, Option.bind_some, Bool.false_eq_true, not_true_eq_false, not_false_eq_true, forall_const, false_or, or_false, true_or, or_true, and_self, and_false, false_and, and_true, true_and, false_implies] <;>
 by_cases c1 : a1 = 0 <;> by_cases c2 : a2 = 0 <;> by_cases c3 : a3 = 0 <;> by_cases c4 : a4 = 0 <;> by_cases c5 : a5 = 0 <;> by_cases c6 : l6 = [] <;> simp [c1, c2, c3, c4, c5, c6]
theorem specFrom_eqF (x : S58) (v : Int) : spec_l3From.f x.f0 x.f1 x.f2 x.f3 x.f4 x.f5 x.f6 v = some (decide (v ∈ readsL x)) := by
 unfold spec_l3From.f
 rw [specReads_eq]
 simp only [Option.bind_some]
 unfold readsL
 by_cases h1 : x.f0 = 1
 ·simp [h1]
 ·by_cases h2 : x.f0 = 4 ∨ x.f0 = 6
  ·simp only [if_neg h1, if_pos h2, List.length_cons, List.length_nil]
   by_cases h3 : x.f1 = v
   ·simp [h3]
   ·have h3' : ¬ v = x.f1 := fun e => h3 e.symm
    by_cases h4 : x.f2 = v
    ·simp [h3, h4]
    ·have h4' : ¬ v = x.f2 := fun e => h4 e.symm
     simp [h3, h4, h3', h4']
  ·simp only [if_neg h1, if_neg h2, List.length_cons, List.length_nil]
   by_cases h3 : x.f1 = v
   ·simp [h3]
   ·have h3' : ¬ v = x.f1 := fun e => h3 e.symm
    simp [h3, h3']
/-- The rows are no longer than any machine's. -/
def FineN (l : List S58) : Prop := l.length ≤ 1048576 ∧ ∀ x ∈ l, x.f6.length ≤ 1048576
theorem FineN.n {l : List S58} (h : FineN l) : l.length ≤ 9223372036854775807 := by have := h.1; omega
theorem FineN.r {l : List S58} (h : FineN l) : ∀ x ∈ l, x.f6.length ≤ 9223372036854775807 := fun x hx => by have := h.2 x hx; omega
theorem specFeeds_l0 {plan : List S58} (hx : FineN plan) (a c : Nat) (hc : c < plan.length) (ih : ∀ b : Nat, a < b → b < c → ∃ r : Bool, Ev (fun k => spec_l3Feeds.f k plan (b : Int) (c : Int)) r ∧ (r = true ↔ Fd plan b c)) :
  ∀ (d i : Nat), a < i → i + d = c + 1 → ∃ r : Bool, Ev (fun k => spec_l3Feeds.l0 k plan (a : Int) (c : Int) (i : Int)) r ∧ (r = true ↔ ∃ b : Nat, i ≤ b ∧ b ≤ c ∧ (a : Int) ∈ readsL (rd_T58 plan (b : Int)) ∧ (b = c ∨ Fd plan b c)) := by
 have hn := hx.1
 intro d
 induction d with
 | zero =>
  intro i _ hd
  refine ⟨false, Ev.up ?_, ?_⟩
  ·simp only [spec_l3Feeds.l0]
   exact Ev.neg (by omega) (Ev.const rfl)
  ·constructor
   ·intro h; exact absurd h (by decide)
   ·rintro ⟨b, h1, h2, _⟩; omega
 | succ d ihd =>
  intro i hi hd
  obtain ⟨r, e, hr⟩ := ihd (i + 1) (by omega) (by omega)
  have hw : wrap64 ((i : Int) + 1) = ((i + 1 : Nat) : Int) := by rw [w64 (by omega) (by omega)]; omega
  by_cases h1 : (a : Int) ∈ readsL (rd_T58 plan (i : Int))
  ·by_cases h2 : i = c
   ·refine ⟨true, Ev.up ?_, ?_⟩
    ·simp only [spec_l3Feeds.l0]
     exact Ev.pos (by omega) (Ev.pos (by omega) (Ev.pos (by omega) (Ev.call (specFrom_eqF _ _) (Ev.pos (decide_eq_true h1) (Ev.pos (by omega) (Ev.const rfl))))))
    ·exact ⟨fun _ => ⟨i, Nat.le_refl _, by omega, h1, .inl h2⟩, fun _ => rfl⟩
   ·obtain ⟨r1, e1, hr1⟩ := ih i hi (by omega)
    cases r1 with
    | true =>
     refine ⟨true, Ev.up ?_, ?_⟩
     ·simp only [spec_l3Feeds.l0]
      exact Ev.pos (by omega) (Ev.pos (by omega) (Ev.pos (by omega) (Ev.call (specFrom_eqF _ _) (Ev.pos (decide_eq_true h1) (Ev.neg (by omega) (Ev.then e1 (Ev.pos rfl (Ev.const rfl))))))))
     ·exact ⟨fun _ => ⟨i, Nat.le_refl _, by omega, h1, .inr (hr1.mp rfl)⟩, fun _ => rfl⟩
    | false =>
     refine ⟨r, Ev.up ?_, ?_⟩
     ·simp only [spec_l3Feeds.l0, hw]
      exact Ev.pos (by omega) (Ev.pos (by omega) (Ev.pos (by omega) (Ev.call (specFrom_eqF _ _) (Ev.pos (decide_eq_true h1) (Ev.neg (by omega) (Ev.then e1 (Ev.neg (by decide) e)))))))
     ·rw [hr]
      constructor
      ·rintro ⟨b, q1, q2, q3⟩; exact ⟨b, by omega, q2, q3⟩
      ·rintro ⟨b, q1, q2, q3, q4⟩
       by_cases q : b = i
       ·subst q
        rcases q4 with q4 | q4
        ·exact absurd q4 h2
        ·exact absurd (hr1.mpr q4) (by decide)
       ·exact ⟨b, by omega, q2, q3, q4⟩
  ·refine ⟨r, Ev.up ?_, ?_⟩
   ·simp only [spec_l3Feeds.l0, hw]
    exact Ev.pos (by omega) (Ev.pos (by omega) (Ev.pos (by omega) (Ev.call (specFrom_eqF _ _) (Ev.neg (by simpa using h1) e))))
   ·rw [hr]
    constructor
    ·rintro ⟨b, q1, q2, q3⟩; exact ⟨b, by omega, q2, q3⟩
    ·rintro ⟨b, q1, q2, q3, q4⟩
     by_cases q : b = i
     ·subst q; exact absurd q3 h1
     ·exact ⟨b, by omega, q2, q3, q4⟩
theorem specFeeds_ev {plan : List S58} (hx : FineN plan) (hg : GoodN plan plan.length) (c : Nat) (hc : c < plan.length) : ∀ (d a : Nat), a < plan.length → c ≤ a + d → ∃ r : Bool, Ev (fun k => spec_l3Feeds.f k plan (a : Int) (c : Int)) r ∧ (r = true ↔ Fd plan a c) := by
 have hn := hx.1
 have fin : ∀ (a : Nat) (r : Bool), (r = true ↔ ∃ b : Nat, a + 1 ≤ b ∧ b ≤ c ∧ (a : Int) ∈ readsL (rd_T58 plan (b : Int)) ∧ (b = c ∨ Fd plan b c)) → (r = true ↔ Fd plan a c) := by
  intro a r h
  rw [h, Fd.left]
  constructor
  ·rintro ⟨b, _, _, h3⟩; exact ⟨b, h3⟩
  ·rintro ⟨b, h3, h4⟩
   have hb : b ≤ c := by
    rcases h4 with h4 | h4
    ·omega
    ·have := h4.lt hg hc; omega
   obtain ⟨b', h5, h6⟩ := reads_lt hg (c := b) (by omega) h3
   exact ⟨b, by omega, hb, h3, h4⟩
 have hw : ∀ a : Nat, a < plan.length → wrap64 ((a : Int) + 1) = ((a + 1 : Nat) : Int) := fun a h => by rw [w64 (by omega) (by omega)]; omega
 intro d
 induction d with
 | zero =>
  intro a ha hd
  refine ⟨false, Ev.up ?_, fin a _ ?_⟩
  ·simp only [spec_l3Feeds.f, hw a ha]
   refine Ev.up ?_
   simp only [spec_l3Feeds.l0]
   exact Ev.neg (by omega) (Ev.const rfl)
  ·constructor
   ·intro h; exact absurd h (by decide)
   ·rintro ⟨b, h1, h2, _⟩; omega
 | succ d ih =>
  intro a ha hd
  by_cases hac : a < c
  ·obtain ⟨r, e, hr⟩ := specFeeds_l0 hx a c hc (fun b h1 h2 => ih b (by omega) (by omega)) (c - a) (a + 1) (by omega) (by omega)
   refine ⟨r, Ev.up ?_, fin a r hr⟩
   simp only [spec_l3Feeds.f, hw a ha]
   exact e
  ·exact ih a ha (by omega)
theorem implReads_eq (x : S58) : impl_Node_reads.f x.f0 x.f1 x.f2 x.f3 x.f4 x.f5 x.f6 = some (readsL x) := by
 unfold impl_Node_reads.f readsL impl_twoSided.f
 by_cases h1 : x.f0 = 1
 ·rw [if_pos h1, if_pos h1]
 ·by_cases h4 : x.f0 = 4
  ·rw [if_neg h1, if_neg h1, if_pos h4, if_pos (Or.inl h4)]; rfl
  ·by_cases h6 : x.f0 = 6
   ·rw [if_neg h1, if_neg h1, if_neg h4, if_pos (Or.inr h6)]; simp [h6]
   ·rw [if_neg h1, if_neg h1, if_neg h4, if_neg (by omega)]; simp [h6]
theorem indexI_ev (B : Int → Bool) (xs : List Int) (hn : xs.length ≤ 1048576) : ∀ (d i : Nat) (q : Nat → Int → Option Bool), (∀ x ∈ xs, Ev (fun k => q k x) (B x)) → i + d = xs.length → ∃ r : Int, Ev (fun k => indexI.l0 (q k) k xs (xs.length : Int) (i : Int)) r ∧ (0 ≤ r ↔ ∃ x ∈ xs.drop i, B x = true) := by
 intro d
 induction d with
 | zero =>
  intro i q _ hd
  refine ⟨-1, Ev.up ?_, ?_⟩
  ·simp only [indexI.l0]
   exact Ev.neg (by omega) (Ev.const rfl)
  ·rw [List.drop_eq_nil_of_le (by omega)]; simp
 | succ d ih =>
  intro i q hq hd
  have hr := rd_drop (xs := xs) (i := i) (by omega)
  have hm : rd xs (i : Int) ∈ xs := by
   have : rd xs (i : Int) ∈ xs.drop i := by rw [hr]; exact List.mem_cons_self
   exact List.mem_of_mem_drop this
  have hq1 := Ev.shift (hq _ hm)
  by_cases h : B (rd xs (i : Int)) = true
  ·refine ⟨(i : Int), Ev.up ?_, ?_⟩
   ·simp only [indexI.l0]
    rw [h] at hq1
    exact Ev.pos (by omega) (Ev.pos (by omega) (Ev.pos (by omega) (Ev.then hq1 (Ev.pos rfl (Ev.const rfl)))))
   ·rw [hr]
    exact ⟨fun _ => ⟨_, List.mem_cons_self, h⟩, fun _ => by omega⟩
  ·have h' : B (rd xs (i : Int)) = false := by simpa using h
   rw [h'] at hq1
   obtain ⟨r, e, hiff⟩ := ih (i + 1) (fun k => q (k + 1)) (fun x hx => Ev.shift (hq x hx)) (by omega)
   refine ⟨r, Ev.up ?_, ?_⟩
   ·simp only [indexI.l0]
    rw [w64n (n := xs.length) (by omega) (by omega)]
    exact Ev.pos (by omega) (Ev.pos (by omega) (Ev.pos (by omega) (Ev.then hq1 (Ev.neg (by decide) e))))
   ·rw [hr, hiff]
    constructor
    ·rintro ⟨x, h1, h2⟩; exact ⟨x, List.mem_cons_of_mem _ h1, h2⟩
    ·rintro ⟨x, h1, h2⟩
     rcases List.mem_cons.mp h1 with e | e
     ·subst e; exact absurd h2 h
     ·exact ⟨x, e, h2⟩
theorem implFeeds_ev {plan : List S58} (hg : GoodN plan plan.length) (a : Nat) : ∀ (d c : Nat), c < plan.length → c < d → ∃ r : Bool, Ev (fun k => impl_feeds.f k plan (a : Int) (c : Int)) r ∧ (r = true ↔ Fd plan a c) := by
 intro d
 induction d with
 | zero => intro c _ h; omega
 | succ d ih =>
  intro c hc hd
  have hB : ∀ x : Int, ∃ b : Bool, x ∈ readsL (rd_T58 plan (c : Int)) → Ev (fun k => if x = (a : Int) then some true else impl_feeds.f k plan (a : Int) x) b ∧ (b = true ↔ ∃ n : Nat, (n : Int) = x ∧ (n = a ∨ Fd plan a n)) := by
   intro x
   by_cases hx : x ∈ readsL (rd_T58 plan (c : Int))
   ·obtain ⟨n, h1, h2⟩ := reads_lt hg hc hx
    subst h1
    obtain ⟨r, e, hr⟩ := ih n (by omega) (by omega)
    by_cases hna : n = a
    ·refine ⟨true, fun _ => ⟨Ev.pos (by omega) (Ev.const rfl), ⟨fun _ => ⟨n, rfl, .inl hna⟩, fun _ => rfl⟩⟩⟩
    ·refine ⟨r, fun _ => ⟨Ev.neg (by omega) e, ?_⟩⟩
     rw [hr]
     constructor
     ·intro h; exact ⟨n, rfl, .inr h⟩
     ·rintro ⟨m, h1, h3⟩
      have : m = n := by omega
      subst this
      rcases h3 with h3 | h3
      ·exact absurd h3 hna
      ·exact h3
   ·exact ⟨true, fun h => absurd h hx⟩
  obtain ⟨B, hB⟩ := Classical.axiomOfChoice hB
  obtain ⟨r, e, hr⟩ := indexI_ev B (readsL (rd_T58 plan (c : Int))) (readsL_len _) _ 0 (fun k x => if x = (a : Int) then some true else impl_feeds.f k plan (a : Int) x) (fun x hx => (hB x hx).1) (Nat.zero_add _)
  refine ⟨decide (r ≥ 0), Ev.up ?_, ?_⟩
  ·simp only [impl_feeds.f]
   refine Ev.pos (by omega) (Ev.pos (by omega) (Ev.call (implReads_eq _) ?_))
   unfold containsI.f indexI.f
   exact Ev.then e (Ev.const rfl)
  ·rw [decide_eq_true_iff, ge_iff_le, hr, Fd.right, List.drop_zero]
   constructor
   ·rintro ⟨x, h1, h2⟩
    obtain ⟨n, h3, h4⟩ := (hB x h1).2.mp h2
    exact ⟨n, by rw [h3]; exact h1, h4⟩
   ·rintro ⟨n, h1, h2⟩
    exact ⟨_, h1, (hB _ h1).2.mpr ⟨n, rfl, h2⟩⟩
theorem rdN_at {xs : List S58} {i : Nat} (h : i < xs.length) : rd_T58 xs (i : Int) = xs[i] := by simp [rd_T58, h]
theorem rdN_drop {xs : List S58} {i : Nat} (h : i < xs.length) : xs.drop i = rd_T58 xs (i : Int) :: xs.drop (i + 1) := by
 rw [rdN_at h]; exact List.drop_eq_getElem_cons h
theorem rdN_mem {xs : List S58} {i : Nat} (h : i < xs.length) : rd_T58 xs (i : Int) ∈ xs := by
 rw [rdN_at h]; exact List.getElem_mem h
def plainT (a0 a1 a2 a3 a4 a5 : Int) (l6 : List Int) : Int × Int × Int × Int × Int × Int × List Int :=
 (a0, if a0 = 1 then 0 else a1, if a0 = 4 ∨ a0 = 6 then a2 else 0, if a0 = 3 ∨ a0 = 4 ∨ a0 = 5 ∨ a0 = 11 ∨ a0 = 12 then 0 else a3, if a0 = 2 then a4 else 0, if a0 = 2 then a5 else 0, if a0 = 3 then l6 else [])
theorem plain_ev (a0 a1 a2 a3 a4 a5 : Int) (l6 : List Int) (h0 : 1 ≤ a0 ∧ a0 ≤ 12) : Ev (fun k => impl_Node_plain.f k a0 a1 a2 a3 a4 a5 l6) (plainT a0 a1 a2 a3 a4 a5 l6) := by
 refine Ev.up (Ev.up (Ev.up (Ev.all (fun k => ?_))))
 rcases op_cases h0 with rfl | rfl | rfl | rfl | rfl | rfl | rfl | rfl | rfl | rfl | rfl | rfl <;>
 simp [impl_Node_plain.f, impl_Node_plain.j0, impl_Node_plain.j1, impl_Node_plain.j2, impl_twoSided.f, plainT]
theorem same_plain (a0 a1 a2 a3 a4 a5 : Int) (l6 : List Int) (hl : l6.length ≤ 1048576) :
  Ev (fun k => impl_sameNode.f k a0 a1 a2 a3 a4 a5 l6 (plainT a0 a1 a2 a3 a4 a5 l6).1 (plainT a0 a1 a2 a3 a4 a5 l6).2.1 (plainT a0 a1 a2 a3 a4 a5 l6).2.2.1 (plainT a0 a1 a2 a3 a4 a5 l6).2.2.2.1 (plainT a0 a1 a2 a3 a4 a5 l6).2.2.2.2.1 (plainT a0 a1 a2 a3 a4 a5 l6).2.2.2.2.2.1 (plainT a0 a1 a2 a3 a4 a5 l6).2.2.2.2.2.2) (namedB a0 a1 a2 a3 a4 a5 l6) := by
 unfold impl_sameNode.f
 simp only [plainT]
 have key : namedB a0 a1 a2 a3 a4 a5 l6 = (if a1 = (if a0 = 1 then 0 else a1) then (if a2 = (if a0 = 4 ∨ a0 = 6 then a2 else 0) then (if a3 = (if a0 = 3 ∨ a0 = 4 ∨ a0 = 5 ∨ a0 = 11 ∨ a0 = 12 then 0 else a3) then (if a4 = (if a0 = 2 then a4 else 0) then (if a5 = (if a0 = 2 then a5 else 0) then decide (l6 = (if a0 = 3 then l6 else [])) else false) else false) else false) else false) else false) := by
  have i1 : (a1 = (if a0 = 1 then 0 else a1)) ↔ (a0 = 1 → a1 = 0) := by by_cases h : a0 = 1 <;> simp [h]
  have i2 : (a2 = (if a0 = 4 ∨ a0 = 6 then a2 else 0)) ↔ (¬ (a0 = 4 ∨ a0 = 6) → a2 = 0) := by by_cases h : a0 = 4 ∨ a0 = 6 <;> simp [h]
  have i3 : (a3 = (if a0 = 3 ∨ a0 = 4 ∨ a0 = 5 ∨ a0 = 11 ∨ a0 = 12 then 0 else a3)) ↔ ((a0 = 3 ∨ a0 = 4 ∨ a0 = 5 ∨ a0 = 11 ∨ a0 = 12) → a3 = 0) := by by_cases h : a0 = 3 ∨ a0 = 4 ∨ a0 = 5 ∨ a0 = 11 ∨ a0 = 12 <;> simp [h]
  have i4 : (a4 = (if a0 = 2 then a4 else 0)) ↔ (¬ a0 = 2 → a4 = 0) := by by_cases h : a0 = 2 <;> simp [h]
  have i5 : (a5 = (if a0 = 2 then a5 else 0)) ↔ (¬ a0 = 2 → a5 = 0) := by by_cases h : a0 = 2 <;> simp [h]
  have i6 : (l6 = (if a0 = 3 then l6 else [])) ↔ (¬ a0 = 3 → l6 = []) := by by_cases h : a0 = 3 <;> simp [h]
  unfold namedB
  rw [Bool.eq_iff_iff]
  simp only [Bool.if_false_right, Bool.and_eq_true, decide_eq_true_eq]
  rw [i1, i2, i3, i4, i5, i6]
  constructor
  ·rintro ⟨p1, p2, p45, p6, p3⟩; exact ⟨p1, p2, p3, fun h => (p45 h).1, fun h => (p45 h).2, p6⟩
  ·rintro ⟨p1, p2, p3, p4, p5, p6⟩; exact ⟨p1, p2, fun h => ⟨p4 h, p5 h⟩, p6, p3⟩
 rw [key]
 refine Ev.pos trivial (Ev.ite2 (fun _ => Ev.ite2 (fun _ => Ev.ite2 (fun _ => Ev.ite2 (fun _ => Ev.ite2 (fun _ => ?_) (fun _ => Ev.const rfl)) (fun _ => Ev.const rfl)) (fun _ => Ev.const rfl)) (fun _ => Ev.const rfl)) (fun _ => Ev.const rfl))
 exact Ev.then (slicesEq_ev _ _ (by omega)) (Ev.const rfl)
theorem implWidthN_eq {ws : List Int} {x : S58} (h1 : 1 ≤ x.f0 ∧ x.f0 ≤ 12) (ha : ¬ x.f0 = 1 → 0 ≤ x.f1 ∧ x.f1 < (ws.length : Int) ∧ 1 ≤ rd ws x.f1 ∧ rd ws x.f1 ≤ 4) (hb : x.f0 = 4 ∨ x.f0 = 6 → 0 ≤ x.f2 ∧ x.f2 < (ws.length : Int) ∧ 1 ≤ rd ws x.f2 ∧ rd ws x.f2 ≤ 4) (h3 : ¬ x.f0 = 3 → ¬ x.f0 = 1 → -1000 ≤ x.f3 ∧ x.f3 ≤ 1000) :
  impl_Node_width.f x.f0 x.f1 x.f2 x.f3 x.f4 x.f5 x.f6 ws = some (widthW ws x) := by
 unfold impl_Node_width.f impl_grouped.f
 rw [implIn_eq]
 rcases op_cases h1 with h | h | h | h | h | h | h | h | h | h | h | h <;> simp only [widthW, impl_size_int64.f, h, Int.reduceEq, Int.reduceLE, if_true, if_false, false_or, or_false, true_or, or_true, and_self, and_false, false_and, and_true, true_and, not_false_eq_true, forall_const, Option.bind_some, decide_true, decide_false, Bool.false_eq_true] at ha hb h3 ⊢
 ·rw [if_pos ha.1, if_pos ha.2.1]
 ·rw [if_pos ha.1, if_pos ha.2.1]
 ·rw [if_pos ha.1, if_pos ha.2.1]
 ·rw [if_pos ha.1, if_pos ha.2.1, if_pos hb.1, if_pos hb.2.1, w64 (x := _ + _) (by omega) (by omega), w64 (by omega) (by omega)]
 ·rw [w64 (by omega) (by omega)]
 ·rw [w64 (by omega) (by omega)]
 ·rw [w64 (by omega) (by omega)]
 ·rw [w64 (by omega) (by omega)]
 ·rw [if_pos ha.1, if_pos ha.2.1]
 ·rw [if_pos ha.1, if_pos ha.2.1]
theorem evDec {α : Type} {c : Prop} [Decidable c] {g h : Nat → Option α} {r s : α} (hg : c → Ev g r) (hh : ¬ c → Ev h s) : Ev (fun k => if decide c = true then g k else h k) (if c then r else s) := by
 by_cases hc : c
 ·rw [if_pos hc]; exact Ev.pos (decide_eq_true hc) (hg hc)
 ·rw [if_neg hc]; exact Ev.neg (by simpa using hc) (hh hc)
theorem implCells_l0 (ws : List Int) (a0 a1 a2 a3 a4 a5 : Int) (l6 l7 : List Int) (ha : 0 ≤ a1 ∧ a1 < (ws.length : Int)) (hw : -1000 ≤ rd ws a1 ∧ rd ws a1 ≤ 1000) (hn : l6.length ≤ 1048576) : ∀ (d i : Nat), i + d = l6.length → Ev (fun k => impl_Node_fault.l0 k ws l6 (l6.length : Int) (i : Int) a0 a1 a2 a3 a4 a5 l7) (if (l6.drop i).all (cellOk (rd ws a1)) = true then 0 else 3) := by
 intro d
 induction d with
 | zero =>
  intro i hd
  refine Ev.up ?_
  simp only [impl_Node_fault.l0]
  refine Ev.neg (by omega) (Ev.const ?_)
  rw [List.drop_eq_nil_of_le (by omega)]; simp
 | succ d ih =>
  intro i hd
  refine Ev.up ?_
  simp only [impl_Node_fault.l0]
  refine Ev.pos (by omega) (Ev.pos (by omega) (Ev.pos (by omega) (Ev.pos ha.1 (Ev.pos ha.2 ?_))))
  rw [rd_drop (xs := l6) (i := i) (by omega), w64n (n := l6.length) (by omega) (by omega), implIn_eq, w64 (x := rd ws a1 - 1) (by omega) (by omega)]
  simp only [Option.bind_some]
  refine Ev.ite (fun h => ?_) (fun h => Ev.const ?_)
  ·exact (ih (i + 1) (by omega)).eq (by have h' : cellOk (rd ws a1) (rd l6 (i : Int)) = true := h; simp [h'])
  ·have h' : ¬ cellOk (rd ws a1) (rd l6 (i : Int)) = true := h
   simp [h']
theorem implFaultN_ev {ws : List Int} {x : S58} (h1 : 1 ≤ x.f0 ∧ x.f0 ≤ 12) (ha : ¬ x.f0 = 1 → 0 ≤ x.f1 ∧ x.f1 < (ws.length : Int) ∧ 1 ≤ rd ws x.f1 ∧ rd ws x.f1 ≤ 4) (hb : x.f0 = 4 ∨ x.f0 = 6 → 0 ≤ x.f2 ∧ x.f2 < (ws.length : Int) ∧ 1 ≤ rd ws x.f2 ∧ rd ws x.f2 ≤ 4) (hl : x.f6.length ≤ 1048576) :
  Ev (fun k => impl_Node_fault.f k x.f0 x.f1 x.f2 x.f3 x.f4 x.f5 x.f6 ws) (faultW ws x) := by
 have mnE : ∀ a b : Int, mn a b = min a b := fun a b => by unfold mn; split <;> omega
 have WE : ∀ c : ¬ x.f0 = 3 → ¬ x.f0 = 1 → -1000 ≤ x.f3 ∧ x.f3 ≤ 1000, _ := fun c => implWidthN_eq h1 ha hb c
 unfold impl_Node_fault.f
 simp only [mnE]
 rcases op_cases h1 with h | h | h | h | h | h | h | h | h | h | h | h <;> simp only [faultW, impl_size_int64.f, h, Int.reduceEq, Int.reduceLE, if_true, if_false, false_or, or_false, true_or, or_true, and_self, and_false, false_and, and_true, true_and, not_false_eq_true, forall_const, Option.bind_some] at ha hb WE ⊢
 ·exact Ev.call (implIn_eq _ _ _) (evDec (fun _ => Ev.const rfl) (fun _ => Ev.const rfl))
 ·refine Ev.pos ha.1 (Ev.pos ha.2.1 (Ev.call (implIn_eq _ _ _) ?_))
  rw [w64 (by omega) (by omega)]
  refine evDec (fun _ => Ev.call (implIn_eq _ _ _) (evDec (fun _ => Ev.call (implIn_eq _ _ _) (evDec (fun _ => Ev.const rfl) (fun _ => Ev.const rfl))) (fun _ => Ev.const rfl))) (fun _ => Ev.const rfl)
 ·refine Ev.call (implIn_eq _ _ _) (evDec (fun _ => ?_) (fun _ => Ev.const rfl))
  exact (implCells_l0 ws _ x.f1 _ _ _ _ x.f6 x.f6 ⟨ha.1, ha.2.1⟩ (by omega) hl x.f6.length 0 (by omega)).eq (by simp)
 ·exact Ev.pos ha.1 (Ev.pos ha.2.1 (Ev.pos hb.1 (Ev.pos hb.2.1 (Ev.ite2 (fun _ => Ev.const rfl) (fun _ => Ev.const rfl)))))
 ·refine Ev.up ?_
  simp only [impl_Node_fault.j1]
  exact Ev.neg (by decide) (Ev.const rfl)
 ·refine Ev.pos ha.1 (Ev.pos ha.2.1 (Ev.pos hb.1 (Ev.pos hb.2.1 (Ev.call (implIn_eq _ _ _) ?_))))
  refine evDec (fun c => ?_) (fun _ => Ev.const rfl)
  refine Ev.call (WE (by omega)) ?_
  have e : widthW ws x = rd ws x.f1 + rd ws x.f2 - x.f3 := by simp [widthW, h]
  rw [e]
  exact Ev.ite2 (fun _ => Ev.const rfl) (fun _ => Ev.const rfl)
 ·exact Ev.pos ha.1 (Ev.pos ha.2.1 (Ev.call (implIn_eq _ _ _) (evDec (fun _ => Ev.const rfl) (fun _ => Ev.const rfl))))
 ·refine Ev.up ?_
  simp only [impl_Node_fault.j1]
  refine Ev.pos (by decide) (Ev.pos ha.1 (Ev.pos ha.2.1 (Ev.call (implIn_eq _ _ _) ?_)))
  rw [w64 (by omega) (by omega)]
  exact evDec (fun _ => Ev.const rfl) (fun _ => Ev.const rfl)
 ·refine Ev.up ?_
  simp only [impl_Node_fault.j1]
  refine Ev.pos (by decide) (Ev.pos ha.1 (Ev.pos ha.2.1 (Ev.call (implIn_eq _ _ _) ?_)))
  rw [w64 (by omega) (by omega)]
  exact evDec (fun _ => Ev.const rfl) (fun _ => Ev.const rfl)
 ·refine Ev.up ?_
  simp only [impl_Node_fault.j1]
  refine Ev.pos (by decide) (Ev.pos ha.1 (Ev.pos ha.2.1 (Ev.call (implIn_eq _ _ _) ?_)))
  rw [w64 (by omega) (by omega)]
  exact evDec (fun _ => Ev.const rfl) (fun _ => Ev.const rfl)
 ·refine Ev.up ?_
  simp only [impl_Node_fault.j1]
  exact Ev.neg (by decide) (Ev.const rfl)
 ·refine Ev.up ?_
  simp only [impl_Node_fault.j1]
  exact Ev.neg (by decide) (Ev.const rfl)
def lookR (plan : List S58) (c : Int) : List Int × Int := if c = 0 then (wsN plan plan.length, 0) else ([], c)
def lookF (plan : List S58) : List Int × Int := lookR plan (planF plan)
theorem fault_f3 {ws : List Int} {x : S58} (h1 : 1 ≤ x.f0 ∧ x.f0 ≤ 12) (hm : named x = true) (hf : faultW ws x = 0) (ha : ¬ x.f0 = 1 → 1 ≤ rd ws x.f1 ∧ rd ws x.f1 ≤ 4) : ¬ x.f0 = 3 → ¬ x.f0 = 1 → -1000 ≤ x.f3 ∧ x.f3 ≤ 1000 := by
 intro n3 n1
 have hz := (of_decide_eq_true (show decide _ = true from hm)).2.2.2.2
 rcases op_cases h1 with h | h | h | h | h | h | h | h | h | h | h | h <;> simp only [faultW, h, Int.reduceEq, Int.reduceLE, if_true, if_false, false_or, or_false, true_or, or_true, and_self, and_false, false_and, and_true, true_and, not_false_eq_true, forall_const, not_true_eq_false] at hf ha hz n3 n1
 all_goals (repeat' split at hf)
 all_goals first | omega | (have := hz trivial; omega)
theorem looked_reads {plan ws : List S58} {wl : List Int} {i : Nat} {a0 a1 a2 a3 a4 a5 : Int} {l6 : List Int} {x16 x17 : Int} (hi : i < plan.length) (hn : plan.length ≤ 1048576) (rs : List Int) (hrs : rs.length ≤ 1048576) {r : List Int × Int}
  (hend : rs.all (readOk plan i) = true → Ev (fun k => (impl_Node_fault.f k a0 a1 a2 a3 a4 a5 l6 wl).bind fun t232 => if t232 = 0 then ((impl_Node_width.f a0 a1 a2 a3 a4 a5 l6 wl).bind fun t233 => if wl.length < 17592186044416 then impl_looked.l0 k plan (wl ++ [t233]) ws x16 (wrap64 (x17 + 1)) else none) else some (([] : List Int), t232)) r) :
  ∀ (d q : Nat), q + d = rs.length → (∀ v ∈ rs.take q, readOk plan i v = true) → Ev (fun k => impl_looked.l1 k plan wl (i : Int) ws x16 x17 rs (rs.length : Int) (q : Int) a0 a1 a2 a3 a4 a5 l6) (if (rs.drop q).all (readOk plan i) = true then r else ([], 3)) := by
 intro d
 induction d with
 | zero =>
  intro q hd hp
  refine Ev.up ?_
  simp only [impl_looked.l1]
  refine Ev.neg (by omega) ?_
  rw [List.drop_eq_nil_of_le (by omega)]
  rw [List.take_of_length_le (by omega)] at hp
  exact (hend (List.all_eq_true.mpr hp)).eq (by simp)
 | succ d ih =>
  intro q hd hp
  refine Ev.up ?_
  simp only [impl_looked.l1]
  refine Ev.pos (by omega) (Ev.pos (by omega) (Ev.pos (by omega) (Ev.call (implIn_eq _ _ _) ?_)))
  rw [rd_drop (xs := rs) (i := q) (by omega), w64 (x := (i : Int) - 1) (by omega) (by omega), w64n (n := rs.length) (by omega) (by omega)]
  by_cases c : 0 ≤ rd rs (q : Int) ∧ rd rs (q : Int) ≤ (i : Int) - 1
  ·refine Ev.pos (decide_eq_true c) (Ev.pos c.1 (Ev.pos (by omega) ?_))
   by_cases c2 : (rd_T58 plan (rd rs (q : Int))).f0 = 12
   ·refine Ev.pos c2 (Ev.const ?_)
    rw [if_neg (by simp [readOk, c2])]
   ·have hr : readOk plan i (rd rs (q : Int)) = true := by simp [readOk, c2]; omega
    refine Ev.neg c2 ((ih (q + 1) (by omega) (fun v hv => ?_)).eq (by simp [hr]))
    rw [List.take_add_one, List.getElem?_eq_getElem (by omega), ← rd_at (by omega)] at hv
    rcases List.mem_append.mp hv with h1 | h1
    ·exact hp v h1
    ·simp at h1; rw [h1]; exact hr
  ·refine Ev.neg (by simpa using c) (Ev.const ?_)
   rw [if_neg]
   simp only [List.all_cons, Bool.and_eq_true, readOk, decide_eq_true_eq]
   intro h
   exact c h.1.1
theorem implLooked_l0 {plan : List S58} (hx : FineN plan) : ∀ (d i : Nat), i + d = plan.length → GoodN plan i → Ev (fun k => impl_looked.l0 k plan (wsN plan i) plan (plan.length : Int) (i : Int)) (lookR plan (planC plan d i))
 | 0, i, hd, hg => by
  refine Ev.up ?_
  simp only [impl_looked.l0]
  obtain rfl : i = plan.length := by omega
  exact Ev.neg (by omega) (Ev.const rfl)
 | d + 1, i, hd, hg => by
  have hn := hx.1
  have hi : i < plan.length := by omega
  have hl := hx.2 _ (rdN_mem (xs := plan) (i := i) hi)
  have IH : codeN plan i = 0 → _ := fun h => implLooked_l0 hx d (i + 1) (by omega) (fun j hj => by
   by_cases e : j = i
   ·rw [e]; exact h
   ·exact hg j (by omega))
  have e1 : wsN plan (i + 1) = wsN plan i ++ [widthW (wsN plan i) (rd_T58 plan (i : Int))] := rfl
  rw [e1] at IH
  have hp : planC plan (d + 1) i = if codeN plan i = 0 then planC plan d (i + 1) else codeN plan i := rfl
  rw [hp]
  refine Ev.up ?_
  simp only [impl_looked.l0]
  refine Ev.pos (by omega) (Ev.pos (by omega) (Ev.pos (by omega) (Ev.call (implIn_eq _ _ _) ?_)))
  have hc := codeN_eq plan i
  generalize rd_T58 plan (i : Int) = x at *
  by_cases h1 : 1 ≤ x.f0 ∧ x.f0 ≤ 12
  ·rw [if_pos h1] at hc
   refine Ev.pos (decide_eq_true h1) (Ev.then (plain_ev _ _ _ _ _ _ _ h1) (Ev.then (same_plain _ _ _ _ _ _ _ hl) ?_))
   by_cases h2 : named x = true
   ·rw [if_pos h2] at hc
    refine Ev.pos h2 (Ev.call (implReads_eq x) ?_)
    have rl : (readsL x).length ≤ 1048576 := by
     unfold readsL
     split
     ·simp
     ·split <;> simp
    have L := looked_reads (ws := plan) (wl := wsN plan i) (x16 := (plan.length : Int)) (x17 := (i : Int)) (a0 := x.f0) (a1 := x.f1) (a2 := x.f2) (a3 := x.f3) (a4 := x.f4) (a5 := x.f5) (l6 := x.f6) hi hn (readsL x) rl (r := if faultW (wsN plan i) x = 0 then lookR plan (planC plan d (i + 1)) else ([], faultW (wsN plan i) x)) (fun h3 => by
     have A : ¬ x.f0 = 1 → 0 ≤ x.f1 ∧ x.f1 < ((wsN plan i).length : Int) ∧ 1 ≤ rd (wsN plan i) x.f1 ∧ rd (wsN plan i) x.f1 ≤ 4 := fun h => by
      obtain ⟨a, ea, ha, _⟩ := reads_a h3 h
      rw [wsN_len, ← ea, wsN_rd plan ha]
      have := wOf_in hg i a ha ha
      omega
     have B : x.f0 = 4 ∨ x.f0 = 6 → 0 ≤ x.f2 ∧ x.f2 < ((wsN plan i).length : Int) ∧ 1 ≤ rd (wsN plan i) x.f2 ∧ rd (wsN plan i) x.f2 ≤ 4 := fun h => by
      obtain ⟨a, ea, ha, _⟩ := reads_b h3 h
      rw [wsN_len, ← ea, wsN_rd plan ha]
      have := wOf_in hg i a ha ha
      omega
     refine Ev.then (implFaultN_ev h1 A B hl) (Ev.ite2 (fun hf => ?_) (fun _ => Ev.const rfl))
     refine Ev.call (implWidthN_eq h1 A B (fault_f3 h1 h2 hf (fun h => (A h).2.2))) (Ev.pos (by rw [wsN_len]; omega) ?_)
     rw [w64n (n := plan.length) (by omega) hx.n]
     rw [if_pos h3] at hc
     exact IH (by rw [hc]; exact hf)) (readsL x).length 0 (by omega) (by simp)
    refine L.eq ?_
    rw [List.drop_zero]
    by_cases h3 : (readsL x).all (readOk plan i) = true
    ·rw [if_pos h3] at hc ⊢
     rw [hc]
     by_cases hf : faultW (wsN plan i) x = 0
     ·rw [if_pos hf, if_pos hf]
     ·rw [if_neg hf, if_neg hf]; unfold lookR; rw [if_neg hf]
    ·rw [if_neg h3] at hc ⊢
     rw [hc]; rfl
   ·rw [if_neg h2] at hc
    refine Ev.neg h2 (Ev.const ?_)
    rw [hc]; rfl
  ·rw [if_neg h1] at hc
   refine Ev.neg (by simpa using h1) (Ev.const ?_)
   rw [hc]; rfl
theorem implLooked_ev {plan : List S58} (hx : FineN plan) : Ev (fun k => impl_looked.f k plan) (lookF plan) := by
 unfold impl_looked.f lookF planF
 refine Ev.call (a := (plan.length : Int)) rfl (Ev.call (implIn_eq _ _ _) ?_)
 by_cases c : 1 ≤ plan.length ∧ plan.length ≤ 8
 ·refine Ev.pos (by simp; omega) ?_
  rw [if_pos c]
  exact implLooked_l0 hx plan.length 0 (by omega) (fun j hj => by omega)
 ·refine Ev.neg (by simp; omega) (Ev.const ?_)
  rw [if_neg c]; rfl
theorem implPlan_ev {plan : List S58} (hx : FineN plan) : Ev (fun k => impl_PlanFault.f k plan) (planF plan) := by
 unfold impl_PlanFault.f
 refine Ev.then (implLooked_ev hx) (Ev.const ?_)
 unfold lookF lookR
 by_cases h : planF plan = 0
 ·rw [if_pos h, h]
 ·rw [if_neg h]
def askedF (plan : List S58) (v : Int) : Int := if planF plan = 0 then (if 0 ≤ v ∧ v ≤ (plan.length : Int) - 1 then 0 else 3) else planF plan
theorem asked_in {plan : List S58} {v : Int} (h : askedF plan v = 0) : planF plan = 0 ∧ ∃ j : Nat, (j : Int) = v ∧ j < plan.length := by
 unfold askedF at h
 by_cases h1 : planF plan = 0
 ·rw [if_pos h1] at h
  by_cases h2 : 0 ≤ v ∧ v ≤ (plan.length : Int) - 1
  ·exact ⟨h1, v.toNat, by omega, by omega⟩
  ·rw [if_neg h2] at h; omega
 ·rw [if_neg h1] at h; exact absurd h h1
theorem specWidthN_ev {plan : List S58} {i : Nat} (hi : i ≤ plan.length) (hg : GoodN plan i) : ∀ (n j : Nat), j < n → j < i → Ev (fun k => spec_l3Width.f k plan (j : Int)) (wOf plan j)
 | 0, _, h, _ => by omega
 | n + 1, j, hn, hj => by
  obtain ⟨h1, h2, h3, h4⟩ := codeN_parts (hg j hj)
  have hgj : GoodN plan j := fun q hq => hg q (by omega)
  have A : ¬ (rd_T58 plan (j : Int)).f0 = 1 → Ev (fun k => spec_l3Width.f k plan (rd_T58 plan (j : Int)).f1) (rd (wsN plan j) (rd_T58 plan (j : Int)).f1) ∧ 1 ≤ rd (wsN plan j) (rd_T58 plan (j : Int)).f1 ∧ rd (wsN plan j) (rd_T58 plan (j : Int)).f1 ≤ 4 := fun h => by
   obtain ⟨a, ea, ha, _⟩ := reads_a h3 h
   rw [← ea, wsN_rd plan ha]
   exact ⟨specWidthN_ev hi hg n a (by omega) (by omega), wOf_in hgj j a ha ha⟩
  have B : (rd_T58 plan (j : Int)).f0 = 4 ∨ (rd_T58 plan (j : Int)).f0 = 6 → Ev (fun k => spec_l3Width.f k plan (rd_T58 plan (j : Int)).f2) (rd (wsN plan j) (rd_T58 plan (j : Int)).f2) ∧ 1 ≤ rd (wsN plan j) (rd_T58 plan (j : Int)).f2 ∧ rd (wsN plan j) (rd_T58 plan (j : Int)).f2 ≤ 4 := fun h => by
   obtain ⟨a, ea, ha, _⟩ := reads_b h3 h
   rw [← ea, wsN_rd plan ha]
   exact ⟨specWidthN_ev hi hg n a (by omega) (by omega), wOf_in hgj j a ha ha⟩
  have W := wOf_in hg (j + 1) j (by omega) hj
  have e : wOf plan j = widthW (wsN plan j) (rd_T58 plan (j : Int)) := rfl
  rw [e] at W ⊢
  refine Ev.up ?_
  simp only [spec_l3Width.f]
  refine Ev.pos (by omega) (Ev.pos (by omega) ?_)
  generalize rd_T58 plan (j : Int) = x at *
  rcases op_cases h1 with h | h | h | h | h | h | h | h | h | h | h | h <;> simp only [widthW, h, Int.reduceEq, Int.reduceLE, if_true, if_false, false_or, or_false, true_or, or_true, and_self, and_false, false_and, and_true, true_and, not_false_eq_true, forall_const] at A B W ⊢
  ·exact Ev.const rfl
  ·exact Ev.then A.1 (Ev.const rfl)
  ·exact Ev.const rfl
  ·exact Ev.then A.1 (Ev.const rfl)
  ·exact Ev.then A.1 (Ev.const rfl)
  ·refine Ev.then A.1 (Ev.then B.1 (Ev.const ?_))
   rw [w64 (x := _ + _) (by omega) (by omega), w64 (by omega) (by omega)]
  ·exact Ev.const (by rw [w64 (by omega) (by omega)])
  ·exact Ev.const (by rw [w64 (by omega) (by omega)])
  ·exact Ev.const (by rw [w64 (by omega) (by omega)])
  ·exact Ev.const (by rw [w64 (by omega) (by omega)])
  ·exact Ev.then A.1 (Ev.const rfl)
  ·exact Ev.then A.1 (Ev.const rfl)
theorem specCells_l1 (w a0 a1 a2 a3 a4 a5 : Int) (l6 : List Int) (hw : -1000 ≤ w ∧ w ≤ 1000) (hn : l6.length ≤ 1048576) : ∀ (d i : Nat), i + d = l6.length → Ev (fun k => spec_l3Node.l1 k w (i : Int) a0 a1 a2 a3 a4 a5 l6) (if (l6.drop i).all (cellOk w) = true then 0 else 3) := by
 intro d
 induction d with
 | zero =>
  intro i hd
  refine Ev.up ?_
  simp only [spec_l3Node.l1]
  refine Ev.neg (by omega) (Ev.const ?_)
  rw [List.drop_eq_nil_of_le (by omega)]; simp
 | succ d ih =>
  intro i hd
  refine Ev.up ?_
  simp only [spec_l3Node.l1]
  refine Ev.pos (by omega) (Ev.pos (by omega) ?_)
  rw [rd_drop (xs := l6) (i := i) (by omega), w64n (n := l6.length) (by omega) (by omega), specIn_eq, w64 (x := w - 1) (by omega) (by omega)]
  simp only [Option.bind_some]
  refine Ev.ite (fun h => ?_) (fun h => Ev.const ?_)
  ·exact (ih (i + 1) (by omega)).eq (by have h' : cellOk w (rd l6 (i : Int)) = true := h; simp [h'])
  ·have h' : ¬ cellOk w (rd l6 (i : Int)) = true := h
   simp [h']
theorem specNode_tail {plan : List S58} {i : Nat} (hi : i < plan.length) (hg : GoodN plan i) {x : S58} (h1 : 1 ≤ x.f0 ∧ x.f0 ≤ 12) (h3 : (readsL x).all (readOk plan i) = true) (hl : x.f6.length ≤ 1048576) :
  Ev (fun k => spec_l3Node.l0 k plan (i : Int) ((readsL x).length : Int) x.f0 x.f1 x.f2 x.f3 x.f4 x.f5 x.f6) (faultW (wsN plan i) x) := by
 have A : ¬ x.f0 = 1 → Ev (fun k => spec_l3Width.f k plan x.f1) (rd (wsN plan i) x.f1) ∧ 1 ≤ rd (wsN plan i) x.f1 ∧ rd (wsN plan i) x.f1 ≤ 4 := fun h => by
  obtain ⟨a, ea, ha, _⟩ := reads_a h3 h
  rw [← ea, wsN_rd plan ha]
  exact ⟨specWidthN_ev (by omega) hg i a ha ha, wOf_in hg i a ha ha⟩
 have B : x.f0 = 4 ∨ x.f0 = 6 → Ev (fun k => spec_l3Width.f k plan x.f2) (rd (wsN plan i) x.f2) ∧ 1 ≤ rd (wsN plan i) x.f2 ∧ rd (wsN plan i) x.f2 ≤ 4 := fun h => by
  obtain ⟨a, ea, ha, _⟩ := reads_b h3 h
  rw [← ea, wsN_rd plan ha]
  exact ⟨specWidthN_ev (by omega) hg i a ha ha, wOf_in hg i a ha ha⟩
 refine Ev.up ?_
 simp only [spec_l3Node.l0]
 refine Ev.call specReads_eq (Ev.neg (by omega) ?_)
 have mnE : ∀ a b : Int, spec_l1Min.f a b = some (min a b) := fun a b => by
  unfold spec_l1Min.f
  by_cases c : a < b
  ·rw [if_pos c]; congr 1; omega
  ·rw [if_neg c]; congr 1; omega
 rcases op_cases h1 with h | h | h | h | h | h | h | h | h | h | h | h <;> simp only [faultW, h, Int.reduceEq, Int.reduceLE, if_true, if_false, false_or, or_false, true_or, or_true, and_self, and_false, false_and, and_true, true_and, not_false_eq_true, forall_const] at A B ⊢
 ·exact Ev.call (specIn_eq _ _ _) (evDec (fun _ => Ev.const rfl) (fun _ => Ev.const rfl))
 ·refine Ev.then A.1 (Ev.call (specIn_eq _ _ _) ?_)
  rw [w64 (by omega) (by omega)]
  refine evDec (fun _ => Ev.call (specIn_eq _ _ _) (evDec (fun _ => Ev.call (specIn_eq _ _ _) (evDec (fun _ => Ev.const rfl) (fun _ => Ev.const rfl))) (fun _ => Ev.const rfl))) (fun _ => Ev.const rfl)
 ·refine Ev.then A.1 ?_
  by_cases c : 1 ≤ (x.f6.length : Int) ∧ (x.f6.length : Int) ≤ 4
  ·rw [if_pos c]
   refine Ev.neg (by omega) (Ev.up ?_)
   simp only [spec_l3Node.j1]
   refine Ev.neg (by simp; omega) ?_
   exact (specCells_l1 _ _ _ _ _ _ _ _ (by omega) hl x.f6.length 0 (by omega)).eq (by simp)
  ·rw [if_neg c]
   refine Ev.ite (fun _ => Ev.up ?_) (fun _ => Ev.up ?_) <;> simp only [spec_l3Node.j1]
   ·exact Ev.pos trivial (Ev.const rfl)
   ·exact Ev.pos (by simp; omega) (Ev.const rfl)
 ·exact Ev.then A.1 (Ev.then B.1 (Ev.ite2 (fun _ => Ev.const rfl) (fun _ => Ev.const rfl)))
 ·refine Ev.then A.1 (Ev.up ?_)
  simp only [spec_l3Node.j3]
  exact Ev.neg (by decide) (Ev.const rfl)
 ·refine Ev.then A.1 (Ev.then B.1 (Ev.call (mnE _ _) (Ev.call (specIn_eq _ _ _) ?_)))
  refine evDec (fun c => ?_) (fun _ => Ev.const rfl)
  rw [w64 (x := rd (wsN plan i) x.f1 + rd (wsN plan i) x.f2) (by omega) (by omega), w64 (by omega) (by omega)]
  exact Ev.ite2 (fun _ => Ev.const rfl) (fun _ => Ev.const rfl)
 ·refine Ev.then A.1 (Ev.call (mnE _ _) (Ev.call (specIn_eq _ _ _) ?_))
  exact evDec (fun _ => Ev.const rfl) (fun _ => Ev.const rfl)
 ·refine Ev.then A.1 (Ev.up ?_)
  simp only [spec_l3Node.j3]
  refine Ev.pos (by decide) (Ev.call (specIn_eq _ _ _) ?_)
  rw [w64 (by omega) (by omega)]
  exact evDec (fun _ => Ev.const rfl) (fun _ => Ev.const rfl)
 ·refine Ev.then A.1 (Ev.up ?_)
  simp only [spec_l3Node.j3]
  refine Ev.pos (by decide) (Ev.call (specIn_eq _ _ _) ?_)
  rw [w64 (by omega) (by omega)]
  exact evDec (fun _ => Ev.const rfl) (fun _ => Ev.const rfl)
 ·refine Ev.then A.1 (Ev.up ?_)
  simp only [spec_l3Node.j3]
  refine Ev.pos (by decide) (Ev.call (specIn_eq _ _ _) ?_)
  rw [w64 (by omega) (by omega)]
  exact evDec (fun _ => Ev.const rfl) (fun _ => Ev.const rfl)
 ·refine Ev.then A.1 (Ev.up ?_)
  simp only [spec_l3Node.j3]
  exact Ev.neg (by decide) (Ev.const rfl)
 ·refine Ev.then A.1 (Ev.up ?_)
  simp only [spec_l3Node.j3]
  exact Ev.neg (by decide) (Ev.const rfl)
/-- One thing that a node reads from is looked at. -/
theorem specNode_read {plan : List S58} {i : Nat} (hi : i < plan.length) (hn : plan.length ≤ 1048576) {v r : Int} {f : Nat → Option Int} (hf : readOk plan i v = true → Ev f r) :
  Ev (fun k => (spec_l1In.f v 0 (wrap64 ((i : Int) - 1))).bind fun t => if t = true then (if 0 ≤ v then (if v < (plan.length : Int) then (if (rd_T58 plan v).f0 = 12 then some 3 else f k) else none) else none) else some 3) (if readOk plan i v = true then r else 3) := by
 refine Ev.call (specIn_eq _ _ _) ?_
 rw [w64 (by omega) (by omega)]
 by_cases c : 0 ≤ v ∧ v ≤ (i : Int) - 1
 ·refine Ev.pos (decide_eq_true c) (Ev.pos c.1 (Ev.pos (by omega) ?_))
  by_cases c2 : (rd_T58 plan v).f0 = 12
  ·refine Ev.pos c2 (Ev.const ?_)
   rw [if_neg (by simp [readOk, c2])]
  ·refine Ev.neg c2 ?_
   have hr : readOk plan i v = true := by simp [readOk, c2]; omega
   rw [if_pos hr]
   exact hf hr
 ·refine Ev.neg (by simpa using c) (Ev.const ?_)
  rw [if_neg (by simp only [readOk, Bool.and_eq_true, decide_eq_true_eq]; intro h; exact c h.1)]
theorem specNode_ev {plan : List S58} (hx : FineN plan) {i : Nat} (hi : i < plan.length) (hg : GoodN plan i) : Ev (fun k => spec_l3Node.f k plan (i : Int)) (codeN plan i) := by
 have hl := hx.2 _ (rdN_mem (xs := plan) (i := i) hi)
 have hn := hx.1
 unfold spec_l3Node.f codeN
 refine Ev.pos (by omega) (Ev.pos (by omega) (Ev.call (specIn_eq _ _ _) ?_))
 generalize rd_T58 plan (i : Int) = x at *
 refine evDec (fun h1 => ?_) (fun _ => Ev.const rfl)
 refine Ev.then (specNamed_ev _ _ _ _ _ _ _ h1) ?_
 refine Ev.ite2 (fun _ => ?_) (fun _ => Ev.const rfl)
 have T : (readsL x).all (readOk plan i) = true → _ := fun h3 => specNode_tail hi hg h1 h3 hl
 unfold readsL at T ⊢
 by_cases c1 : x.f0 = 1
 ·simp only [if_pos c1, List.all_nil, if_true, List.length_nil] at T ⊢
  exact T trivial
 ·by_cases c2 : x.f0 = 4 ∨ x.f0 = 6
  ·simp only [if_neg c1, if_pos c2, List.all_cons, List.all_nil, Bool.and_true, List.length_cons, List.length_nil] at T ⊢
   refine Ev.up ?_
   simp only [spec_l3Node.l0]
   refine Ev.call specReads_eq ?_
   have rl : ((readsL x).length : Int) = 2 := by unfold readsL; rw [if_neg c1, if_pos c2]; rfl
   rw [rl]
   refine Ev.pos (by omega) (Ev.neg (by omega) ?_)
   have e : (if (readOk plan i x.f1 && readOk plan i x.f2) = true then faultW (wsN plan i) x else 3) = (if readOk plan i x.f1 = true then (if readOk plan i x.f2 = true then faultW (wsN plan i) x else 3) else 3) := by
    by_cases d1 : readOk plan i x.f1 = true <;> by_cases d2 : readOk plan i x.f2 = true <;> simp [d1, d2]
   rw [e]
   refine specNode_read hi hn (fun r1 => ?_)
   rw [show wrap64 (0 + 1) = 1 from by rw [w64 (by omega) (by omega)]; rfl]
   refine Ev.up ?_
   simp only [spec_l3Node.l0]
   refine Ev.call specReads_eq ?_
   rw [rl]
   refine Ev.pos (by omega) (Ev.pos trivial ?_)
   refine specNode_read hi hn (fun r2 => ?_)
   rw [show wrap64 (1 + 1) = 2 from by rw [w64 (by omega) (by omega)]; rfl]
   exact T (by rw [r1, r2]; rfl)
  ·simp only [if_neg c1, if_neg c2, List.all_cons, List.all_nil, Bool.and_true, List.length_cons, List.length_nil] at T ⊢
   refine Ev.up ?_
   simp only [spec_l3Node.l0]
   refine Ev.call specReads_eq ?_
   have rl : ((readsL x).length : Int) = 1 := by unfold readsL; rw [if_neg c1, if_neg c2]; rfl
   rw [rl]
   refine Ev.pos (by omega) (Ev.neg (by omega) ?_)
   refine specNode_read hi hn (fun r1 => ?_)
   rw [show wrap64 (0 + 1) = 1 from by rw [w64 (by omega) (by omega)]; rfl]
   exact T r1
theorem specPlan_l0 {plan : List S58} (hx : FineN plan) : ∀ (d i : Nat), i + d = plan.length → GoodN plan i → Ev (fun k => spec_PlanFault.l0 k plan (i : Int)) (planC plan d i)
 | 0, i, hd, hg => by
  refine Ev.up ?_
  simp only [spec_PlanFault.l0, planC]
  exact Ev.neg (by omega) (Ev.const rfl)
 | d + 1, i, hd, hg => by
  refine Ev.up ?_
  simp only [spec_PlanFault.l0, planC]
  refine Ev.pos (by omega) (Ev.then (specNode_ev hx (by omega) hg) (Ev.ite2 (fun h => ?_) (fun _ => Ev.const rfl)))
  rw [w64n (n := plan.length) (by omega) hx.n]
  refine specPlan_l0 hx d (i + 1) (by omega) (fun j hj => ?_)
  by_cases e : j = i
  ·rw [e]; exact h
  ·exact hg j (by omega)
theorem specPlan_ev {plan : List S58} (hx : FineN plan) : Ev (fun k => spec_PlanFault.f k plan) (planF plan) := by
 unfold spec_PlanFault.f planF
 by_cases c : 1 ≤ plan.length ∧ plan.length ≤ 8
 ·rw [if_pos c]
  refine Ev.neg (by omega) (Ev.up ?_)
  simp only [spec_PlanFault.j0]
  exact Ev.neg (by simp; omega) (specPlan_l0 hx plan.length 0 (by omega) (fun j hj => by omega))
 ·rw [if_neg c]
  refine Ev.ite (fun _ => Ev.up ?_) (fun _ => Ev.up ?_) <;> simp only [spec_PlanFault.j0]
  ·exact Ev.pos trivial (Ev.const rfl)
  ·exact Ev.pos (by simp; omega) (Ev.const rfl)
theorem specAsked_ev {plan : List S58} (hx : FineN plan) (v : Int) : Ev (fun k => spec_l3Asked.f k plan v) (askedF plan v) := by
 have hn := hx.1
 unfold spec_l3Asked.f askedF
 refine Ev.then (specPlan_ev hx) (Ev.ite2 (fun _ => ?_) (fun _ => Ev.const rfl))
 refine Ev.call (specIn_eq _ _ _) ?_
 rw [w64 (by omega) (by omega)]
 exact evDec (fun _ => Ev.const rfl) (fun _ => Ev.const rfl)
theorem feedsOn_ev {plan : List S58} (hx : FineN plan) (u v : Int) : ∃ r : Bool, Ev (fun k => spec_FeedsOn.f k plan u v) r ∧ Ev (fun k => impl_FeedsOn.f k plan u v) r := by
 have hn := hx.1
 unfold spec_FeedsOn.f impl_FeedsOn.f
 by_cases hp : planF plan = 0
 ·have hu : ∀ y : Int, askedF plan y = if 0 ≤ y ∧ y ≤ (plan.length : Int) - 1 then 0 else 3 := fun y => by unfold askedF; rw [if_pos hp]
  have w := w64 (x := (plan.length : Int) - 1) (by omega) (by omega)
  by_cases c1 : 0 ≤ u ∧ u ≤ (plan.length : Int) - 1
  ·by_cases c2 : 0 ≤ v ∧ v ≤ (plan.length : Int) - 1
   ·obtain ⟨a, ha⟩ := Int.eq_ofNat_of_zero_le c1.1
    obtain ⟨c, hc⟩ := Int.eq_ofNat_of_zero_le c2.1
    subst ha hc
    obtain ⟨hg1, hg⟩ := planF_good hp
    obtain ⟨r, e, hr⟩ := specFeeds_ev hx hg c (by omega) c a (by omega) (by omega)
    obtain ⟨r', e', hr'⟩ := implFeeds_ev hg a (c + 1) c (by omega) (by omega)
    have er : r' = r := by
     cases r <;> cases r' <;> simp_all
    subst er
    refine ⟨r', ?_, ?_⟩
    ·refine Ev.then ((specAsked_ev hx _).eq (by rw [hu, if_pos c1])) (Ev.pos rfl (Ev.then ((specAsked_ev hx _).eq (by rw [hu, if_pos c2])) (Ev.pos rfl (Ev.then e (Ev.const rfl)))))
    ·refine Ev.then (implPlan_ev hx) (Ev.pos hp (Ev.call (a := (plan.length : Int)) rfl (Ev.call (implIn_eq _ _ _) ?_)))
     rw [w]
     refine Ev.pos (decide_eq_true c1) (Ev.call (a := (plan.length : Int)) rfl (Ev.call (implIn_eq _ _ _) ?_))
     rw [w]
     exact Ev.pos (decide_eq_true c2) (Ev.then e' (Ev.const rfl))
   ·refine ⟨false, ?_, ?_⟩
    ·exact Ev.then ((specAsked_ev hx _).eq (by rw [hu, if_pos c1])) (Ev.pos rfl (Ev.then ((specAsked_ev hx _).eq (by rw [hu, if_neg c2])) (Ev.neg (by decide) (Ev.const rfl))))
    ·refine Ev.then (implPlan_ev hx) (Ev.pos hp (Ev.call (a := (plan.length : Int)) rfl (Ev.call (implIn_eq _ _ _) ?_)))
     rw [w]
     refine Ev.pos (decide_eq_true c1) (Ev.call (a := (plan.length : Int)) rfl (Ev.call (implIn_eq _ _ _) ?_))
     rw [w]
     exact Ev.neg (by simpa using c2) (Ev.const rfl)
  ·refine ⟨false, ?_, ?_⟩
   ·exact Ev.then ((specAsked_ev hx _).eq (by rw [hu, if_neg c1])) (Ev.neg (by decide) (Ev.const rfl))
   ·refine Ev.then (implPlan_ev hx) (Ev.pos hp (Ev.call (a := (plan.length : Int)) rfl (Ev.call (implIn_eq _ _ _) ?_)))
    rw [w]
    exact Ev.neg (by simpa using c1) (Ev.const rfl)
 ·have hu : ∀ y : Int, askedF plan y = planF plan := fun y => by unfold askedF; rw [if_neg hp]
  refine ⟨false, ?_, ?_⟩
  ·exact Ev.then ((specAsked_ev hx _).eq (hu _)) (Ev.neg hp (Ev.const rfl))
  ·exact Ev.then (implPlan_ev hx) (Ev.neg hp (Ev.const rfl))
theorem rdLN_at {xs : List S56} {i : Nat} (h : i < xs.length) : rd_T56 xs (i : Int) = xs[i] := by simp [rd_T56, h]
theorem rdLN_drop {xs : List S56} {i : Nat} (h : i < xs.length) : xs.drop i = rd_T56 xs (i : Int) :: xs.drop (i + 1) := by
 rw [rdLN_at h]; exact List.drop_eq_getElem_cons h
theorem rdLN_mem {xs : List S56} {i : Nat} (h : i < xs.length) : rd_T56 xs (i : Int) ∈ xs := by
 rw [rdLN_at h]; exact List.getElem_mem h
def convN (x : S56) : S58 := ⟨x.f0, x.f1, x.f2, x.f3, x.f4, x.f5, x.f6⟩
def szGoN : Int → List S56 → Int
 | t, [] => t
 | t, x :: xs => if t - (x.f6.length : Int) < 0 then -1 else szGoN (t - (x.f6.length : Int)) xs
def szN (t : Int) (l : List S56) : Int := if t - (l.length : Int) < 0 then -1 else szGoN (t - (l.length : Int)) l
theorem szGoN_le : ∀ (l : List S56) (t : Int), 0 ≤ szGoN t l → szGoN t l ≤ t ∧ ∀ x ∈ l, (x.f6.length : Int) ≤ t
 | [], t, h => ⟨Int.le_refl _, by simp⟩
 | x :: xs, t, h => by
  unfold szGoN at h ⊢
  by_cases hc : t - (x.f6.length : Int) < 0
  ·rw [if_pos hc] at h; omega
  ·rw [if_neg hc] at h ⊢
   have ih := szGoN_le xs _ h
   refine ⟨by omega, fun y hy => ?_⟩
   rcases List.mem_cons.1 hy with rfl | hy
   ·omega
   ·have := ih.2 y hy; omega
theorem szN_le {t : Int} {l : List S56} (h : 0 ≤ szN t l) : (l.length : Int) ≤ t ∧ szN t l ≤ t ∧ ∀ x ∈ l, (x.f6.length : Int) ≤ t := by
 unfold szN at h ⊢
 by_cases hc : t - (l.length : Int) < 0
 ·rw [if_pos hc] at h; omega
 ·rw [if_neg hc] at h ⊢
  have := szGoN_le l _ h
  refine ⟨by omega, by omega, fun x hx => ?_⟩
  have := this.2 x hx
  omega
theorem szInt_eqN {n : Nat} {l : List Int} {t : Int} (h0 : 0 ≤ t) (h1 : t ≤ 1048576) (hn : l.length = n) (hl : n ≤ 9223372036854775807) : laws_szInt64S.f l t = some (if t - (n : Int) < 0 then -1 else t - (n : Int)) := by
 unfold laws_szInt64S.f
 rw [hn, w64 (by omega) (by omega)]
 by_cases h : t - (n : Int) < 0
 ·rw [if_pos h, if_pos h]
 ·rw [if_neg h, if_neg h]
theorem szNode_eq {l : List Int} {a0 a1 a2 a3 a4 a5 t : Int} (h0 : 0 ≤ t) (h1 : t ≤ 1048576) (hl : l.length ≤ 9223372036854775807) : laws_szNode.f a0 a1 a2 a3 a4 a5 l t = some (if t - (l.length : Int) < 0 then -1 else t - (l.length : Int)) := by
 unfold laws_szNode.f
 rw [szInt_eqN h0 h1 rfl hl]
 simp only [Option.bind_some]
 by_cases h : t - (l.length : Int) < 0
 ·rw [if_pos h, if_pos (by omega)]
 ·rw [if_neg h, if_neg h]
theorem szNodeS_l0 (xs : List S56) (hn : xs.length ≤ 9223372036854775807) (hr : ∀ x ∈ xs, x.f6.length ≤ 9223372036854775807) : ∀ (d i : Nat) (t : Int), i + d = xs.length → 0 ≤ t → t ≤ 1048576 → Ev (fun k => laws_szNodeS.l0 k xs t (i : Int)) (szGoN t (xs.drop i)) := by
 intro d
 induction d with
 | zero =>
  intro i t hd h0 h1
  refine Ev.up ?_
  simp only [laws_szNodeS.l0]
  refine Ev.neg (by omega) (Ev.const ?_)
  rw [List.drop_eq_nil_of_le (by omega)]; rfl
 | succ d ih =>
  intro i t hd h0 h1
  refine Ev.up ?_
  simp only [laws_szNodeS.l0]
  refine Ev.pos (by omega) (Ev.pos (by omega) ?_)
  rw [rdLN_drop (xs := xs) (i := i) (by omega), w64n (n := xs.length) (by omega) hn, szNode_eq h0 h1 (hr _ (rdLN_mem (by omega)))]
  simp only [Option.bind_some, szGoN]
  by_cases h : t - ((rd_T56 xs (i : Int)).f6.length : Int) < 0
  ·rw [if_pos h]; exact Ev.pos (by omega) (Ev.const (by rw [if_pos h]))
  ·rw [if_neg h, if_neg h]
   exact Ev.neg h (ih (i + 1) _ (by omega) (by omega) (by omega))
theorem szNodeS_ev (xs : List S56) (hn : xs.length ≤ 9223372036854775807) (hr : ∀ x ∈ xs, x.f6.length ≤ 9223372036854775807) {t : Int} (h0 : 0 ≤ t) (h1 : t ≤ 1048576) : Ev (fun k => laws_szNodeS.f k xs t) (szN t xs) := by
 unfold laws_szNodeS.f szN
 rw [w64 (by omega) (by omega)]
 by_cases h : t - (xs.length : Int) < 0
 ·rw [if_pos h]; exact Ev.pos h (Ev.const rfl)
 ·rw [if_neg h]; exact Ev.neg h (szNodeS_l0 xs hn hr xs.length 0 _ (by omega) (by omega) (by omega))
theorem toNodeS_l0 (xs : List S56) (hn : xs.length ≤ 9223372036854775807) (hr : ∀ x ∈ xs, x.f6.length ≤ 1048576) : ∀ (d i : Nat) (ys : List S58), i + d = xs.length → ys.length = xs.length → (∀ j, j < i → ys[j]? = (xs.map convN)[j]?) → Ev (fun k => laws_toNodeS.l0 k xs ys (i : Int)) (xs.map convN) := by
 intro d
 induction d with
 | zero =>
  intro i ys hd hl he
  refine Ev.up ?_
  simp only [laws_toNodeS.l0]
  refine Ev.neg (by omega) (Ev.const ?_)
  congr 1
  apply List.ext_getElem?
  intro j
  by_cases hj : j < i
  ·exact he j hj
  ·rw [List.getElem?_eq_none (by omega), List.getElem?_eq_none (by rw [List.length_map]; omega)]
 | succ d ih =>
  intro i ys hd hl he
  refine Ev.up ?_
  simp only [laws_toNodeS.l0, laws_toNode.f]
  refine Ev.pos (by omega) (Ev.pos (by omega) ?_)
  have hm := rdLN_mem (xs := xs) (i := i) (by omega)
  refine Ev.then (a := ((rd_T56 xs (i : Int)).f0, (rd_T56 xs (i : Int)).f1, (rd_T56 xs (i : Int)).f2, (rd_T56 xs (i : Int)).f3, (rd_T56 xs (i : Int)).f4, (rd_T56 xs (i : Int)).f5, (rd_T56 xs (i : Int)).f6)) (Ev.then (toInt64S_ev _ (hr _ hm)) (Ev.const rfl)) ?_
  refine Ev.pos (by omega) ?_
  rw [w64n (n := xs.length) (by omega) hn, Int.toNat_natCast]
  refine ih (i + 1) _ (by omega) (by simpa using hl) (fun j hj => ?_)
  rw [List.getElem?_set]
  by_cases e : i = j
  ·subst e
   rw [if_pos rfl, if_pos (by omega), List.getElem?_map, List.getElem?_eq_getElem (by omega), rdLN_at (by omega)]
   rfl
  ·rw [if_neg e]
   exact he j (by omega)
theorem toNodeS_ev (xs : List S56) (hn : xs.length ≤ 1048576) (hr : ∀ x ∈ xs, x.f6.length ≤ 1048576) : Ev (fun k => laws_toNodeS.f k xs) (xs.map convN) := by
 unfold laws_toNodeS.f
 refine Ev.pos (by omega) (Ev.pos (by omega) ?_)
 exact toNodeS_l0 xs (by omega) hr xs.length 0 _ (by omega) (by simp) (fun j hj => by omega)
theorem eqNodeS_l0 (xs : List S58) (hn : xs.length ≤ 9223372036854775807) (hr : ∀ x ∈ xs, x.f6.length ≤ 9223372036854775807) : ∀ (d i : Nat), i + d = xs.length → Ev (fun k => laws_eqNodeS.l0 k xs xs (i : Int)) true := by
 intro d
 induction d with
 | zero =>
  intro i hd
  refine Ev.up ?_
  simp only [laws_eqNodeS.l0]
  exact Ev.neg (by omega) (Ev.const rfl)
 | succ d ih =>
  intro i hd
  refine Ev.up ?_
  simp only [laws_eqNodeS.l0, laws_eqNode.f]
  refine Ev.pos (by omega) (Ev.pos (by omega) (Ev.pos (by omega) ?_))
  have hm := rdN_mem (xs := xs) (i := i) (by omega)
  refine Ev.then (a := true) (Ev.pos trivial (Ev.pos trivial (Ev.pos trivial (Ev.pos trivial (Ev.pos trivial (Ev.pos trivial (Ev.then (eqInt64S_refl _ (hr _ hm)) (Ev.pos rfl (Ev.const rfl))))))))) ?_
  refine Ev.pos rfl ?_
  rw [w64n (n := xs.length) (by omega) hn]
  exact ih (i + 1) (by omega)
theorem eqNodeS_refl (xs : List S58) (hn : xs.length ≤ 9223372036854775807) (hr : ∀ x ∈ xs, x.f6.length ≤ 9223372036854775807) : Ev (fun k => laws_eqNodeS.f k xs xs) true := by
 unfold laws_eqNodeS.f
 exact Ev.pos rfl (eqNodeS_l0 xs hn hr xs.length 0 (by omega))
/-- What a law over one list of entries begins with: too much, or what is laid is as it came in. -/
theorem inputN_of {l : List S56} (hl : (fun l : List S56 => l.length ≤ maxLen ∧ ∀ y ∈ l, (fun x : S56 => (fun x : Int => (Lit.int .i64 x).wf = true) x.f0 ∧ (fun x : Int => (Lit.int .i64 x).wf = true) x.f1 ∧ (fun x : Int => (Lit.int .i64 x).wf = true) x.f2 ∧ (fun x : Int => (Lit.int .i64 x).wf = true) x.f3 ∧ (fun x : Int => (Lit.int .i64 x).wf = true) x.f4 ∧ (fun x : Int => (Lit.int .i64 x).wf = true) x.f5 ∧ (fun l : List Int => l.length ≤ maxLen ∧ ∀ y ∈ l, (fun x : Int => (Lit.int .i64 x).wf = true) y) x.f6) y) l) {t : Int} (h0 : 0 ≤ t) (h1 : t ≤ 1048576) :
  Ev (fun k => laws_szNodeS.f k l t) (szN t l) ∧ (¬ szN t l < 0 → szN t l ≤ 1048576 ∧ 0 ≤ szN t l ∧ FineN (l.map convN) ∧ Ev (fun k => laws_toNodeS.f k l) (l.map convN)) := by
 have hm : ∀ n : Nat, n ≤ maxLen → n ≤ 9223372036854775807 := fun n h => by simp only [maxLen] at h; omega
 refine ⟨szNodeS_ev l (hm _ hl.1) (fun x hx => hm _ (hl.2 x hx).2.2.2.2.2.2.1) h0 h1, fun h => ?_⟩
 have hb := szN_le (t := t) (l := l) (by omega)
 have hr : ∀ x ∈ l, x.f6.length ≤ 1048576 := fun x hx => by have := hb.2.2 x hx; omega
 refine ⟨by omega, by omega, ⟨by rw [List.length_map]; omega, fun x hx => ?_⟩, toNodeS_ev l (by omega) hr⟩
 obtain ⟨y, hy, rfl⟩ := List.mem_map.1 hx
 exact hr y hy
theorem FnExactFeedsOn : laws_FnExactFeedsOn.Pure := by
 intro l u v hl _ _ _
 refine Ev.ex ?_
 unfold laws_FnExactFeedsOn.f
 obtain ⟨hz, hin⟩ := inputN_of hl (t := 1048576) (by omega) (by omega)
 refine Ev.then hz (Ev.ite (fun _ => Ev.const rfl) (fun h => ?_))
 obtain ⟨_, _, hx, ht⟩ := hin h
 obtain ⟨r, e1, e2⟩ := feedsOn_ev hx u v
 refine Ev.then ht (Ev.then e1 (Ev.then ht (Ev.then e2 (Ev.neg (by simp) (Ev.then ht (Ev.then (eqNodeS_refl _ hx.n hx.r) ?_))))))
 exact Ev.pos rfl (Ev.const rfl)

end Go.Proofs.Yteibdjkfkcckkaa.Pure
