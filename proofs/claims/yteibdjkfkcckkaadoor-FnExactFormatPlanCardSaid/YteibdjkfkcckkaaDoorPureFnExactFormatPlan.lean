/- The law FnExactFormatPlan answers true for every list of nodes. -/
import Derived.Test.YteibdjkfkcckkaaDoorKit
import Derived.Test.YteibdjkfkcckkaaDoorPFnExactFormatPlanx14
namespace Go.Proofs.YteibdjkfkcckkaaDoor.Pure
open Go.RowKit Go.Proofs.YteibdjkfkcckkaaDoor.PFnExactFormatPlan Go.Proofs.YteibdjkfkcckkaaDoorW.PrintWords Go.Proofs.YteibdjkfkcckkaaDoorW.PrintLast Go.Proofs.YteibdjkfkcckkaaDoor Go.Proofs.YteibdjkfkcckkaaDoor.Kit
set_option linter.unusedSimpArgs false
set_option linter.unusedVariables false

theorem w64n {i n : Nat} (h : i < n) (hn : n ≤ 9223372036854775807) : wrap64 ((i : Int) + 1) = ((i + 1 : Nat) : Int) := by
 rw [w64 (by omega) (by omega)]; rfl
theorem rd_drop {xs : List Int} {i : Nat} (h : i < xs.length) : xs.drop i = rd xs (i : Int) :: xs.drop (i + 1) := by
 rw [rd_at h]; exact List.drop_eq_getElem_cons h
theorem toInt64S_l0 (xs : List Int) (hn : xs.length ≤ 9223372036854775807) : ∀ (d i : Nat) (ys : List Int), i + d = xs.length → ys.length = xs.length → (∀ j, j < i → ys[j]? = xs[j]?) → Ev (fun k => laws_toInt64S.l0 k xs ys (i : Int)) xs := by
 intro d
 induction d with
 | zero =>
  intro i ys hd hl he
  refine Ev.up ?_
  simp only [laws_toInt64S.l0]
  refine Ev.neg (by omega) (Ev.const ?_)
  congr 1
  apply List.ext_getElem?
  intro j
  by_cases hj : j < i
  ·exact he j hj
  ·rw [List.getElem?_eq_none (by omega), List.getElem?_eq_none (by omega)]
 | succ d ih =>
  intro i ys hd hl he
  refine Ev.up ?_
  simp only [laws_toInt64S.l0]
  refine Ev.pos (by omega) (Ev.pos (by omega) (Ev.pos (by omega) ?_))
  rw [w64n (n := xs.length) (by omega) hn, Int.toNat_natCast]
  refine ih (i + 1) _ (by omega) (by simpa using hl) (fun j hj => ?_)
  rw [List.getElem?_set]
  by_cases e : i = j
  ·subst e
   rw [if_pos rfl, if_pos (by omega), rd_at (by omega), List.getElem?_eq_getElem (by omega)]
  ·rw [if_neg e]
   exact he j (by omega)
theorem toInt64S_ev (xs : List Int) (hn : xs.length ≤ 1048576) : Ev (fun k => laws_toInt64S.f k xs) xs := by
 unfold laws_toInt64S.f
 refine Ev.pos (by omega) (Ev.pos (by omega) ?_)
 exact toInt64S_l0 xs (by omega) xs.length 0 _ (by omega) (by simp) (fun j hj => by omega)
theorem eqInt64S_l0 (xs ys : List Int) (hn : xs.length ≤ 9223372036854775807) (hl : xs.length = ys.length) : ∀ (d i : Nat), i + d = xs.length → Ev (fun k => laws_eqInt64S.l0 k xs ys (i : Int)) (decide (xs.drop i = ys.drop i)) := by
 intro d
 induction d with
 | zero =>
  intro i hd
  refine Ev.up ?_
  simp only [laws_eqInt64S.l0]
  refine Ev.neg (by omega) (Ev.const ?_)
  rw [List.drop_eq_nil_of_le (by omega), List.drop_eq_nil_of_le (by omega)]; simp
 | succ d ih =>
  intro i hd
  refine Ev.up ?_
  simp only [laws_eqInt64S.l0]
  refine Ev.pos (by omega) (Ev.pos (by omega) (Ev.pos (by omega) ?_))
  rw [rd_drop (xs := xs) (i := i) (by omega), rd_drop (xs := ys) (i := i) (by omega), w64n (n := xs.length) (by omega) hn]
  refine Ev.ite (fun h => ?_) (fun h => Ev.const ?_)
  ·exact (ih (i + 1) (by omega)).eq (by rw [h]; simp)
  ·simp [h]
theorem eqInt64S_ev (xs ys : List Int) (hn : xs.length ≤ 9223372036854775807) : Ev (fun k => laws_eqInt64S.f k xs ys) (decide (xs = ys)) := by
 unfold laws_eqInt64S.f
 refine Ev.ite (fun h => ?_) (fun h => Ev.const ?_)
 ·exact (eqInt64S_l0 xs ys hn (by omega) xs.length 0 (by omega)).eq (by simp)
 ·have : xs ≠ ys := fun e => h (by rw [e])
  simp [this]
theorem eqInt64S_refl (xs : List Int) (hn : xs.length ≤ 9223372036854775807) : Ev (fun k => laws_eqInt64S.f k xs xs) true := (eqInt64S_ev xs xs hn).eq (by simp)
theorem specIn_eq (a b c : Int) : spec_l1In.f a b c = some (decide (b ≤ a ∧ a ≤ c)) := by
 unfold spec_l1In.f
 by_cases h : a ≥ b
 ·rw [if_pos h]; simp [show b ≤ a from h]
 ·rw [if_neg h]; simp; intro h'; omega
theorem implIn_eq (a b c : Int) : impl_in.f a b c = some (decide (b ≤ a ∧ a ≤ c)) := by
 unfold impl_in.f
 by_cases h : a ≥ b
 ·rw [if_pos h]; simp [show b ≤ a from h]
 ·rw [if_neg h]; simp; intro h'; omega
theorem slicesEq_l0 (xs ys : List Int) (hn : xs.length ≤ 9223372036854775807) (hl : xs.length = ys.length) : ∀ (d i : Nat), i + d = xs.length → Ev (fun k => slices_Equal_int64_int64.l0 k xs ys (xs.length : Int) (i : Int)) (decide (xs.drop i = ys.drop i)) := by
 intro d
 induction d with
 | zero =>
  intro i hd
  refine Ev.up ?_
  simp only [slices_Equal_int64_int64.l0]
  refine Ev.neg (by omega) (Ev.const ?_)
  rw [List.drop_eq_nil_of_le (by omega), List.drop_eq_nil_of_le (by omega)]; simp
 | succ d ih =>
  intro i hd
  refine Ev.up ?_
  simp only [slices_Equal_int64_int64.l0]
  refine Ev.pos (by omega) (Ev.pos (by omega) (Ev.pos (by omega) (Ev.pos (by omega) ?_)))
  rw [rd_drop (xs := xs) (i := i) (by omega), rd_drop (xs := ys) (i := i) (by omega), w64n (n := xs.length) (by omega) hn]
  refine Ev.ite (fun h => ?_) (fun h => Ev.const ?_)
  ·exact (ih (i + 1) (by omega)).eq (by rw [h]; simp)
  ·simp [h]
theorem slicesEq_ev (xs ys : List Int) (hn : xs.length ≤ 9223372036854775807) : Ev (fun k => slices_Equal_int64_int64.f k xs ys) (decide (xs = ys)) := by
 unfold slices_Equal_int64_int64.f
 refine Ev.ite (fun h => ?_) (fun h => Ev.const ?_)
 ·exact (slicesEq_l0 xs ys hn (by omega) xs.length 0 (by omega)).eq (by simp)
 ·have : xs ≠ ys := fun e => h (by rw [e])
  simp [this]
theorem rdN_at {xs : List S35} {i : Nat} (h : i < xs.length) : rd_T35 xs (i : Int) = xs[i] := by simp [rd_T35, h]
theorem rdN_drop {xs : List S35} {i : Nat} (h : i < xs.length) : xs.drop i = rd_T35 xs (i : Int) :: xs.drop (i + 1) := by
 rw [rdN_at h]; exact List.drop_eq_getElem_cons h
theorem rdN_mem {xs : List S35} {i : Nat} (h : i < xs.length) : rd_T35 xs (i : Int) ∈ xs := by
 rw [rdN_at h]; exact List.getElem_mem h
theorem rdLN_at {xs : List S32} {i : Nat} (h : i < xs.length) : rd_T32 xs (i : Int) = xs[i] := by simp [rd_T32, h]
theorem rdLN_drop {xs : List S32} {i : Nat} (h : i < xs.length) : xs.drop i = rd_T32 xs (i : Int) :: xs.drop (i + 1) := by
 rw [rdLN_at h]; exact List.drop_eq_getElem_cons h
theorem rdLN_mem {xs : List S32} {i : Nat} (h : i < xs.length) : rd_T32 xs (i : Int) ∈ xs := by
 rw [rdLN_at h]; exact List.getElem_mem h
def convN (x : S32) : S35 := ⟨x.f0, x.f1, x.f2, x.f3, x.f4, x.f5, x.f6⟩
def szGoN : Int → List S32 → Int
 | t, [] => t
 | t, x :: xs => if t - (x.f6.length : Int) < 0 then -1 else szGoN (t - (x.f6.length : Int)) xs
def szN (t : Int) (l : List S32) : Int := if t - (l.length : Int) < 0 then -1 else szGoN (t - (l.length : Int)) l
theorem szGoN_le : ∀ (l : List S32) (t : Int), 0 ≤ szGoN t l → szGoN t l ≤ t ∧ ∀ x ∈ l, (x.f6.length : Int) ≤ t
 | [], t, h => ⟨Int.le_refl _, by simp⟩
 | x :: xs, t, h => by
  unfold szGoN at h ⊢
  by_cases hc : t - (x.f6.length : Int) < 0
  ·rw [if_pos hc] at h; omega
  ·rw [if_neg hc] at h ⊢
   have ih := szGoN_le xs _ h
   refine ⟨by omega, fun y hy => ?_⟩
   rcases List.mem_cons.1 hy with rfl | hy
   ·omega
   ·have := ih.2 y hy; omega
theorem szN_le {t : Int} {l : List S32} (h : 0 ≤ szN t l) : (l.length : Int) ≤ t ∧ szN t l ≤ t ∧ ∀ x ∈ l, (x.f6.length : Int) ≤ t := by
 unfold szN at h ⊢
 by_cases hc : t - (l.length : Int) < 0
 ·rw [if_pos hc] at h; omega
 ·rw [if_neg hc] at h ⊢
  have := szGoN_le l _ h
  refine ⟨by omega, by omega, fun x hx => ?_⟩
  have := this.2 x hx
  omega
theorem szInt_eqN {n : Nat} {l : List Int} {t : Int} (h0 : 0 ≤ t) (h1 : t ≤ 1048576) (hn : l.length = n) (hl : n ≤ 9223372036854775807) : laws_szInt64S.f l t = some (if t - (n : Int) < 0 then -1 else t - (n : Int)) := by
 unfold laws_szInt64S.f
 rw [hn, w64 (by omega) (by omega)]
 by_cases h : t - (n : Int) < 0
 ·rw [if_pos h, if_pos h]
 ·rw [if_neg h, if_neg h]
theorem szNode_eq {l : List Int} {a0 a1 a2 a3 a4 a5 t : Int} (h0 : 0 ≤ t) (h1 : t ≤ 1048576) (hl : l.length ≤ 9223372036854775807) : laws_szNode.f a0 a1 a2 a3 a4 a5 l t = some (if t - (l.length : Int) < 0 then -1 else t - (l.length : Int)) := by
 unfold laws_szNode.f
 rw [szInt_eqN h0 h1 rfl hl]
 simp only [Option.bind_some]
 by_cases h : t - (l.length : Int) < 0
 ·rw [if_pos h, if_pos (by omega)]
 ·rw [if_neg h, if_neg h]
theorem szNodeS_l0 (xs : List S32) (hn : xs.length ≤ 9223372036854775807) (hr : ∀ x ∈ xs, x.f6.length ≤ 9223372036854775807) : ∀ (d i : Nat) (t : Int), i + d = xs.length → 0 ≤ t → t ≤ 1048576 → Ev (fun k => laws_szNodeS.l0 k xs t (i : Int)) (szGoN t (xs.drop i)) := by
 intro d
 induction d with
 | zero =>
  intro i t hd h0 h1
  refine Ev.up ?_
  simp only [laws_szNodeS.l0]
  refine Ev.neg (by omega) (Ev.const ?_)
  rw [List.drop_eq_nil_of_le (by omega)]; rfl
 | succ d ih =>
  intro i t hd h0 h1
  refine Ev.up ?_
  simp only [laws_szNodeS.l0]
  refine Ev.pos (by omega) (Ev.pos (by omega) ?_)
  rw [rdLN_drop (xs := xs) (i := i) (by omega), w64n (n := xs.length) (by omega) hn, szNode_eq h0 h1 (hr _ (rdLN_mem (by omega)))]
  simp only [Option.bind_some, szGoN]
  by_cases h : t - ((rd_T32 xs (i : Int)).f6.length : Int) < 0
  ·rw [if_pos h]; exact Ev.pos (by omega) (Ev.const (by rw [if_pos h]))
  ·rw [if_neg h, if_neg h]
   exact Ev.neg h (ih (i + 1) _ (by omega) (by omega) (by omega))
theorem szNodeS_ev (xs : List S32) (hn : xs.length ≤ 9223372036854775807) (hr : ∀ x ∈ xs, x.f6.length ≤ 9223372036854775807) {t : Int} (h0 : 0 ≤ t) (h1 : t ≤ 1048576) : Ev (fun k => laws_szNodeS.f k xs t) (szN t xs) := by
 unfold laws_szNodeS.f szN
 rw [w64 (by omega) (by omega)]
 by_cases h : t - (xs.length : Int) < 0
 ·rw [if_pos h]; exact Ev.pos h (Ev.const rfl)
 ·rw [if_neg h]; exact Ev.neg h (szNodeS_l0 xs hn hr xs.length 0 _ (by omega) (by omega) (by omega))
theorem toNodeS_l0 (xs : List S32) (hn : xs.length ≤ 9223372036854775807) (hr : ∀ x ∈ xs, x.f6.length ≤ 1048576) : ∀ (d i : Nat) (ys : List S35), i + d = xs.length → ys.length = xs.length → (∀ j, j < i → ys[j]? = (xs.map convN)[j]?) → Ev (fun k => laws_toNodeS.l0 k xs ys (i : Int)) (xs.map convN) := by
 intro d
 induction d with
 | zero =>
  intro i ys hd hl he
  refine Ev.up ?_
  simp only [laws_toNodeS.l0]
  refine Ev.neg (by omega) (Ev.const ?_)
  congr 1
  apply List.ext_getElem?
  intro j
  by_cases hj : j < i
  ·exact he j hj
  ·rw [List.getElem?_eq_none (by omega), List.getElem?_eq_none (by rw [List.length_map]; omega)]
 | succ d ih =>
  intro i ys hd hl he
  refine Ev.up ?_
  simp only [laws_toNodeS.l0, laws_toNode.f]
  refine Ev.pos (by omega) (Ev.pos (by omega) ?_)
  have hm := rdLN_mem (xs := xs) (i := i) (by omega)
  refine Ev.then (a := ((rd_T32 xs (i : Int)).f0, (rd_T32 xs (i : Int)).f1, (rd_T32 xs (i : Int)).f2, (rd_T32 xs (i : Int)).f3, (rd_T32 xs (i : Int)).f4, (rd_T32 xs (i : Int)).f5, (rd_T32 xs (i : Int)).f6)) (Ev.then (toInt64S_ev _ (hr _ hm)) (Ev.const rfl)) ?_
  refine Ev.pos (by omega) ?_
  rw [w64n (n := xs.length) (by omega) hn, Int.toNat_natCast]
  refine ih (i + 1) _ (by omega) (by simpa using hl) (fun j hj => ?_)
  rw [List.getElem?_set]
  by_cases e : i = j
  ·subst e
   rw [if_pos rfl, if_pos (by omega), List.getElem?_map, List.getElem?_eq_getElem (by omega), rdLN_at (by omega)]
   rfl
  ·rw [if_neg e]
   exact he j (by omega)
theorem toNodeS_ev (xs : List S32) (hn : xs.length ≤ 1048576) (hr : ∀ x ∈ xs, x.f6.length ≤ 1048576) : Ev (fun k => laws_toNodeS.f k xs) (xs.map convN) := by
 unfold laws_toNodeS.f
 refine Ev.pos (by omega) (Ev.pos (by omega) ?_)
 exact toNodeS_l0 xs (by omega) hr xs.length 0 _ (by omega) (by simp) (fun j hj => by omega)
theorem eqNodeS_l0 (xs : List S35) (hn : xs.length ≤ 9223372036854775807) (hr : ∀ x ∈ xs, x.f6.length ≤ 9223372036854775807) : ∀ (d i : Nat), i + d = xs.length → Ev (fun k => laws_eqNodeS.l0 k xs xs (i : Int)) true := by
 intro d
 induction d with
 | zero =>
  intro i hd
  refine Ev.up ?_
  simp only [laws_eqNodeS.l0]
  exact Ev.neg (by omega) (Ev.const rfl)
 | succ d ih =>
  intro i hd
  refine Ev.up ?_
  simp only [laws_eqNodeS.l0, laws_eqNode.f]
  refine Ev.pos (by omega) (Ev.pos (by omega) (Ev.pos (by omega) ?_))
  have hm := rdN_mem (xs := xs) (i := i) (by omega)
  refine Ev.then (a := true) (Ev.pos trivial (Ev.pos trivial (Ev.pos trivial (Ev.pos trivial (Ev.pos trivial (Ev.pos trivial (Ev.then (eqInt64S_refl _ (hr _ hm)) (Ev.pos rfl (Ev.const rfl))))))))) ?_
  refine Ev.pos rfl ?_
  rw [w64n (n := xs.length) (by omega) hn]
  exact ih (i + 1) (by omega)
theorem eqNodeS_refl (xs : List S35) (hn : xs.length ≤ 9223372036854775807) (hr : ∀ x ∈ xs, x.f6.length ≤ 9223372036854775807) : Ev (fun k => laws_eqNodeS.f k xs xs) true := by
 unfold laws_eqNodeS.f
 exact Ev.pos rfl (eqNodeS_l0 xs hn hr xs.length 0 (by omega))
/-- The rows are no longer than any machine's. -/
def FineN (l : List S35) : Prop := l.length ≤ 1048576 ∧ ∀ x ∈ l, x.f6.length ≤ 1048576
theorem FineN.n {l : List S35} (h : FineN l) : l.length ≤ 9223372036854775807 := by have := h.1; omega
theorem FineN.r {l : List S35} (h : FineN l) : ∀ x ∈ l, x.f6.length ≤ 9223372036854775807 := fun x hx => by have := h.2 x hx; omega
/-- What a law over one list of entries begins with: too much, or what is laid is as it came in. -/
theorem inputN_of {l : List S32} (hl : (fun l : List S32 => l.length ≤ maxLen ∧ ∀ y ∈ l, (fun x : S32 => (fun x : Int => (Lit.int .i64 x).wf = true) x.f0 ∧ (fun x : Int => (Lit.int .i64 x).wf = true) x.f1 ∧ (fun x : Int => (Lit.int .i64 x).wf = true) x.f2 ∧ (fun x : Int => (Lit.int .i64 x).wf = true) x.f3 ∧ (fun x : Int => (Lit.int .i64 x).wf = true) x.f4 ∧ (fun x : Int => (Lit.int .i64 x).wf = true) x.f5 ∧ (fun l : List Int => l.length ≤ maxLen ∧ ∀ y ∈ l, (fun x : Int => (Lit.int .i64 x).wf = true) y) x.f6) y) l) {t : Int} (h0 : 0 ≤ t) (h1 : t ≤ 1048576) :
  Ev (fun k => laws_szNodeS.f k l t) (szN t l) ∧ (¬ szN t l < 0 → szN t l ≤ 1048576 ∧ 0 ≤ szN t l ∧ FineN (l.map convN) ∧ Ev (fun k => laws_toNodeS.f k l) (l.map convN)) := by
 have hm : ∀ n : Nat, n ≤ maxLen → n ≤ 9223372036854775807 := fun n h => by simp only [maxLen] at h; omega
 refine ⟨szNodeS_ev l (hm _ hl.1) (fun x hx => hm _ (hl.2 x hx).2.2.2.2.2.2.1) h0 h1, fun h => ?_⟩
 have hb := szN_le (t := t) (l := l) (by omega)
 have hr : ∀ x ∈ l, x.f6.length ≤ 1048576 := fun x hx => by have := hb.2.2 x hx; omega
 refine ⟨by omega, by omega, ⟨by rw [List.length_map]; omega, fun x hx => ?_⟩, toNodeS_ev l (by omega) hr⟩
 obtain ⟨y, hy, rfl⟩ := List.mem_map.1 hx
 exact hr y hy
theorem evDec {α : Type} {c : Prop} [Decidable c] {g h : Nat → Option α} {r s : α} (hg : c → Ev g r) (hh : ¬ c → Ev h s) : Ev (fun k => if decide c = true then g k else h k) (if c then r else s) := by
 by_cases hc : c
 ·rw [if_pos hc]; exact Ev.pos (decide_eq_true hc) (hg hc)
 ·rw [if_neg hc]; exact Ev.neg (by simpa using hc) (hh hc)
def readsL (x : S35) : List Int := if x.f0 = 1 then [] else if x.f0 = 4 ∨ x.f0 = 6 then [x.f1, x.f2] else [x.f1]
def namedB (a0 a1 a2 a3 a4 a5 : Int) (l6 : List Int) : Bool := decide ((a0 = 1 → a1 = 0) ∧ (¬ (a0 = 4 ∨ a0 = 6) → a2 = 0) ∧ (¬ a0 = 2 → a4 = 0 ∧ a5 = 0) ∧ (¬ a0 = 3 → l6 = []) ∧ ((a0 = 3 ∨ a0 = 4 ∨ a0 = 5 ∨ a0 = 11 ∨ a0 = 12) → a3 = 0))
def named (x : S35) : Bool := namedB x.f0 x.f1 x.f2 x.f3 x.f4 x.f5 x.f6
def widthW (ws : List Int) (x : S35) : Int :=
 if x.f0 = 1 then x.f3 else if x.f0 = 3 then (x.f6.length : Int) else if x.f0 = 6 then rd ws x.f1 + rd ws x.f2 - x.f3 else if 7 ≤ x.f0 ∧ x.f0 ≤ 10 then x.f3 + 1 else rd ws x.f1
def cellOk (w c : Int) : Bool := decide (0 ≤ c ∧ c ≤ w - 1)
def faultW (ws : List Int) (x : S35) : Int :=
 if x.f0 = 1 then (if 1 ≤ x.f3 ∧ x.f3 ≤ 3 then 0 else 3)
 else if x.f0 = 2 then (if 0 ≤ x.f3 ∧ x.f3 ≤ rd ws x.f1 - 1 then (if 0 ≤ x.f4 ∧ x.f4 ≤ 2 then (if -1000000000 ≤ x.f5 ∧ x.f5 ≤ 1000000000 then 0 else 3) else 3) else 3)
 else if x.f0 = 3 then (if 1 ≤ (x.f6.length : Int) ∧ (x.f6.length : Int) ≤ 4 then (if x.f6.all (cellOk (rd ws x.f1)) = true then 0 else 3) else 2)
 else if x.f0 = 4 then (if rd ws x.f1 = rd ws x.f2 then 0 else 1)
 else if x.f0 = 6 then (if 1 ≤ x.f3 ∧ x.f3 ≤ min (rd ws x.f1) (rd ws x.f2) then (if rd ws x.f1 + rd ws x.f2 - x.f3 > 4 then 2 else 0) else 3)
 else if x.f0 = 7 then (if 0 ≤ x.f3 ∧ x.f3 ≤ min (rd ws x.f1) 3 then 0 else 3)
 else if 8 ≤ x.f0 ∧ x.f0 ≤ 10 then (if 0 ≤ x.f3 ∧ x.f3 ≤ rd ws x.f1 - 1 then 0 else 3)
 else 0
def readOk (plan : List S35) (i : Nat) (k : Int) : Bool := decide (0 ≤ k ∧ k ≤ (i : Int) - 1) && !decide ((rd_T35 plan k).f0 = 12)
def wsN (plan : List S35) : Nat → List Int
 | 0 => []
 | i + 1 => wsN plan i ++ [widthW (wsN plan i) (rd_T35 plan (i : Int))]
def codeN (plan : List S35) (i : Nat) : Int :=
 if 1 ≤ (rd_T35 plan (i : Int)).f0 ∧ (rd_T35 plan (i : Int)).f0 ≤ 12 then
  (if named (rd_T35 plan (i : Int)) = true then (if (readsL (rd_T35 plan (i : Int))).all (readOk plan i) = true then faultW (wsN plan i) (rd_T35 plan (i : Int)) else 3) else 1)
 else 5
theorem codeN_eq (plan : List S35) (i : Nat) : codeN plan i = if 1 ≤ (rd_T35 plan (i : Int)).f0 ∧ (rd_T35 plan (i : Int)).f0 ≤ 12 then
  (if named (rd_T35 plan (i : Int)) = true then (if (readsL (rd_T35 plan (i : Int))).all (readOk plan i) = true then faultW (wsN plan i) (rd_T35 plan (i : Int)) else 3) else 1)
 else 5 := rfl
def GoodN (plan : List S35) (i : Nat) : Prop := ∀ j, j < i → codeN plan j = 0
def planC (plan : List S35) : Nat → Nat → Int
 | 0, _ => 0
 | d + 1, i => if codeN plan i = 0 then planC plan d (i + 1) else codeN plan i
def planF (plan : List S35) : Int := if 1 ≤ plan.length ∧ plan.length ≤ 8 then planC plan plan.length 0 else 2
def wOf (plan : List S35) (i : Nat) : Int := widthW (wsN plan i) (rd_T35 plan (i : Int))
theorem wsN_len (plan : List S35) : ∀ i, (wsN plan i).length = i
 | 0 => rfl
 | i + 1 => by simp [wsN, wsN_len plan i]
theorem wsN_rd (plan : List S35) : ∀ {i j : Nat}, j < i → rd (wsN plan i) (j : Int) = wOf plan j
 | 0, _, h => by omega
 | i + 1, j, h => by
  rw [rd_nat, wsN, List.getD_eq_getElem?_getD]
  by_cases e : j = i
  ·subst e
   rw [List.getElem?_append_right (by rw [wsN_len]; omega), wsN_len]
   simp [wOf]
  ·rw [List.getElem?_append_left (by rw [wsN_len]; omega), ← List.getD_eq_getElem?_getD, ← rd_nat]
   exact wsN_rd plan (by omega)
theorem planC_zero (plan : List S35) : ∀ (d i : Nat), planC plan d i = 0 ↔ ∀ j, i ≤ j → j < i + d → codeN plan j = 0
 | 0, i => ⟨fun _ j h1 h2 => by omega, fun _ => rfl⟩
 | d + 1, i => by
  simp only [planC]
  by_cases h : codeN plan i = 0
  ·rw [if_pos h, planC_zero plan d (i + 1)]
   constructor
   ·intro g j h1 h2
    by_cases e : j = i
    ·rw [e]; exact h
    ·exact g j (by omega) (by omega)
   ·intro g j h1 h2
    exact g j (by omega) (by omega)
  ·rw [if_neg h]
   constructor
   ·intro g; exact absurd g h
   ·intro g; exact absurd (g i (by omega) (by omega)) h
theorem planF_good {plan : List S35} (h : planF plan = 0) : (1 ≤ plan.length ∧ plan.length ≤ 8) ∧ GoodN plan plan.length := by
 unfold planF at h
 by_cases h1 : 1 ≤ plan.length ∧ plan.length ≤ 8
 ·rw [if_pos h1] at h
  exact ⟨h1, fun j hj => (planC_zero plan _ _).mp h j (by omega) (by omega)⟩
 ·rw [if_neg h1] at h; omega
theorem op_cases {a : Int} (h : 1 ≤ a ∧ a ≤ 12) : a = 1 ∨ a = 2 ∨ a = 3 ∨ a = 4 ∨ a = 5 ∨ a = 6 ∨ a = 7 ∨ a = 8 ∨ a = 9 ∨ a = 10 ∨ a = 11 ∨ a = 12 := by omega
theorem codeN_parts {plan : List S35} {i : Nat} (h : codeN plan i = 0) : (1 ≤ (rd_T35 plan (i : Int)).f0 ∧ (rd_T35 plan (i : Int)).f0 ≤ 12) ∧ named (rd_T35 plan (i : Int)) = true ∧ (readsL (rd_T35 plan (i : Int))).all (readOk plan i) = true ∧ faultW (wsN plan i) (rd_T35 plan (i : Int)) = 0 := by
 unfold codeN at h
 by_cases h1 : 1 ≤ (rd_T35 plan (i : Int)).f0 ∧ (rd_T35 plan (i : Int)).f0 ≤ 12
 ·rw [if_pos h1] at h
  by_cases h2 : named (rd_T35 plan (i : Int)) = true
  ·rw [if_pos h2] at h
   by_cases h3 : (readsL (rd_T35 plan (i : Int))).all (readOk plan i) = true
   ·rw [if_pos h3] at h
    exact ⟨h1, h2, h3, h⟩
   ·rw [if_neg h3] at h; omega
  ·rw [if_neg h2] at h; omega
 ·rw [if_neg h1] at h; omega
theorem readOk_in {plan : List S35} {i : Nat} {k : Int} (h : readOk plan i k = true) : ∃ a : Nat, (a : Int) = k ∧ a < i ∧ ¬ (rd_T35 plan k).f0 = 12 := by
 simp only [readOk, Bool.and_eq_true, decide_eq_true_eq, Bool.not_eq_true', decide_eq_false_iff_not] at h
 exact ⟨k.toNat, by omega, by omega, h.2⟩
/-- The first that a node reads from. -/
theorem reads_a {plan : List S35} {i : Nat} {x : S35} (h : (readsL x).all (readOk plan i) = true) (h1 : ¬ x.f0 = 1) : ∃ a : Nat, (a : Int) = x.f1 ∧ a < i ∧ ¬ (rd_T35 plan x.f1).f0 = 12 := by
 refine readOk_in (List.all_eq_true.mp h _ ?_)
 unfold readsL
 rw [if_neg h1]
 split <;> simp
theorem reads_b {plan : List S35} {i : Nat} {x : S35} (h : (readsL x).all (readOk plan i) = true) (h2 : x.f0 = 4 ∨ x.f0 = 6) : ∃ b : Nat, (b : Int) = x.f2 ∧ b < i ∧ ¬ (rd_T35 plan x.f2).f0 = 12 := by
 refine readOk_in (List.all_eq_true.mp h _ ?_)
 unfold readsL
 rw [if_neg (by omega), if_pos h2]
 simp
theorem width_in {ws : List Int} {x : S35} (h0 : 1 ≤ x.f0 ∧ x.f0 ≤ 12) (hf : faultW ws x = 0) (ha : ¬ x.f0 = 1 → 1 ≤ rd ws x.f1 ∧ rd ws x.f1 ≤ 4) (hb : x.f0 = 4 ∨ x.f0 = 6 → 1 ≤ rd ws x.f2 ∧ rd ws x.f2 ≤ 4) : 1 ≤ widthW ws x ∧ widthW ws x ≤ 4 := by
 rcases op_cases h0 with h | h | h | h | h | h | h | h | h | h | h | h <;> simp only [faultW, widthW, h, Int.reduceEq, Int.reduceLE, if_true, if_false, false_or, or_false, true_or, or_true, and_self, and_false, false_and, and_true, true_and] at hf ha hb ⊢
 all_goals (repeat' split at hf)
 all_goals first | omega | (have := ha (by simp); omega) | (have := ha (by simp); have := hb (by simp); omega)
theorem wOf_in {plan : List S35} {i : Nat} (hg : GoodN plan i) : ∀ (n j : Nat), j < n → j < i → 1 ≤ wOf plan j ∧ wOf plan j ≤ 4
 | 0, _, h, _ => by omega
 | n + 1, j, hn, hj => by
  obtain ⟨h1, h2, h3, h4⟩ := codeN_parts (hg j hj)
  refine width_in h1 h4 (fun h => ?_) (fun h => ?_)
  ·obtain ⟨a, ea, ha, _⟩ := reads_a h3 h
   rw [← ea, wsN_rd plan ha]
   exact wOf_in hg n a (by omega) (by omega)
  ·obtain ⟨b, eb, hb, _⟩ := reads_b h3 h
   rw [← eb, wsN_rd plan hb]
   exact wOf_in hg n b (by omega) (by omega)
theorem rd_in {plan : List S35} {i : Nat} (hg : GoodN plan i) {a : Nat} (ha : a < i) : rd (wsN plan i) (a : Int) = wOf plan a ∧ 1 ≤ wOf plan a ∧ wOf plan a ≤ 4 := ⟨wsN_rd plan ha, wOf_in hg i a ha ha⟩
theorem specWidthN_ev {plan : List S35} {i : Nat} (hi : i ≤ plan.length) (hg : GoodN plan i) : ∀ (n j : Nat), j < n → j < i → Ev (fun k => spec_l3Width.f k plan (j : Int)) (wOf plan j)
 | 0, _, h, _ => by omega
 | n + 1, j, hn, hj => by
  obtain ⟨h1, h2, h3, h4⟩ := codeN_parts (hg j hj)
  have hgj : GoodN plan j := fun q hq => hg q (by omega)
  have A : ¬ (rd_T35 plan (j : Int)).f0 = 1 → Ev (fun k => spec_l3Width.f k plan (rd_T35 plan (j : Int)).f1) (rd (wsN plan j) (rd_T35 plan (j : Int)).f1) ∧ 1 ≤ rd (wsN plan j) (rd_T35 plan (j : Int)).f1 ∧ rd (wsN plan j) (rd_T35 plan (j : Int)).f1 ≤ 4 := fun h => by
   obtain ⟨a, ea, ha, _⟩ := reads_a h3 h
   rw [← ea, wsN_rd plan ha]
   exact ⟨specWidthN_ev hi hg n a (by omega) (by omega), wOf_in hgj j a ha ha⟩
  have B : (rd_T35 plan (j : Int)).f0 = 4 ∨ (rd_T35 plan (j : Int)).f0 = 6 → Ev (fun k => spec_l3Width.f k plan (rd_T35 plan (j : Int)).f2) (rd (wsN plan j) (rd_T35 plan (j : Int)).f2) ∧ 1 ≤ rd (wsN plan j) (rd_T35 plan (j : Int)).f2 ∧ rd (wsN plan j) (rd_T35 plan (j : Int)).f2 ≤ 4 := fun h => by
   obtain ⟨a, ea, ha, _⟩ := reads_b h3 h
   rw [← ea, wsN_rd plan ha]
   exact ⟨specWidthN_ev hi hg n a (by omega) (by omega), wOf_in hgj j a ha ha⟩
  have W := wOf_in hg (j + 1) j (by omega) hj
  have e : wOf plan j = widthW (wsN plan j) (rd_T35 plan (j : Int)) := rfl
  rw [e] at W ⊢
  refine Ev.up ?_
  simp only [spec_l3Width.f]
  refine Ev.pos (by omega) (Ev.pos (by omega) ?_)
  generalize rd_T35 plan (j : Int) = x at *
  rcases op_cases h1 with h | h | h | h | h | h | h | h | h | h | h | h <;> simp only [widthW, h, Int.reduceEq, Int.reduceLE, if_true, if_false, false_or, or_false, true_or, or_true, and_self, and_false, false_and, and_true, true_and, not_false_eq_true, forall_const] at A B W ⊢
  ·exact Ev.const rfl
  ·exact Ev.then A.1 (Ev.const rfl)
  ·exact Ev.const rfl
  ·exact Ev.then A.1 (Ev.const rfl)
  ·exact Ev.then A.1 (Ev.const rfl)
  ·refine Ev.then A.1 (Ev.then B.1 (Ev.const ?_))
   rw [w64 (x := _ + _) (by omega) (by omega), w64 (by omega) (by omega)]
  ·exact Ev.const (by rw [w64 (by omega) (by omega)])
  ·exact Ev.const (by rw [w64 (by omega) (by omega)])
  ·exact Ev.const (by rw [w64 (by omega) (by omega)])
  ·exact Ev.const (by rw [w64 (by omega) (by omega)])
  ·exact Ev.then A.1 (Ev.const rfl)
  ·exact Ev.then A.1 (Ev.const rfl)
theorem specReads_eq {x : S35} : spec_l3Reads.f x.f0 = some ((readsL x).length : Int) := by
 unfold spec_l3Reads.f readsL
 by_cases h1 : x.f0 = 1
 ·rw [if_pos h1, if_pos h1]; rfl
 ·by_cases h4 : x.f0 = 4
  ·rw [if_neg h1, if_neg h1, if_pos h4, if_pos (Or.inl h4)]; rfl
  ·by_cases h6 : x.f0 = 6
   ·rw [if_neg h1, if_neg h1, if_neg h4, if_pos h6, if_pos (Or.inr h6)]; rfl
   ·rw [if_neg h1, if_neg h1, if_neg h4, if_neg h6, if_neg (by omega)]; rfl
set_option maxHeartbeats 8000000 in
theorem specNamed_ev (a0 a1 a2 a3 a4 a5 : Int) (l6 : List Int) (h0 : 1 ≤ a0 ∧ a0 ≤ 12) : Ev (fun k => spec_l3Named.f k a0 a1 a2 a3 a4 a5 l6) (namedB a0 a1 a2 a3 a4 a5 l6) := by
 refine Ev.up (Ev.up (Ev.all (fun k => ?_)))
 have h6 : decide ((l6.length : Int) > 0) = !decide (l6 = []) := by cases l6 <;> simp <;> omega
 rcases op_cases h0 with rfl | rfl | rfl | rfl | rfl | rfl | rfl | rfl | rfl | rfl | rfl | rfl <;>
 simp only [spec_l3Named.f, spec_l3Named.j0, spec_l3Named.j1, spec_l3Reads.f, namedB, h6, Int.reduceEq, Int.reduceLT, if_true, if_false, Option.bind_some, Bool.false_eq_true, not_true_eq_false, not_false_eq_true, forall_const, false_or, or_false, true_or, or_true, and_self, and_false, false_and, and_true, true_and, false_implies] <;>
 by_cases c1 : a1 = 0 <;> by_cases c2 : a2 = 0 <;> by_cases c3 : a3 = 0 <;> by_cases c4 : a4 = 0 <;> by_cases c5 : a5 = 0 <;> by_cases c6 : l6 = [] <;> simp [c1, c2, c3, c4, c5, c6]
theorem specCells_l1 (w a0 a1 a2 a3 a4 a5 : Int) (l6 : List Int) (hw : -1000 ≤ w ∧ w ≤ 1000) (hn : l6.length ≤ 1048576) : ∀ (d i : Nat), i + d = l6.length → Ev (fun k => spec_l3Node.l1 k w (i : Int) a0 a1 a2 a3 a4 a5 l6) (if (l6.drop i).all (cellOk w) = true then 0 else 3) := by
 intro d
 induction d with
 | zero =>
  intro i hd
  refine Ev.up ?_
  simp only [spec_l3Node.l1]
  refine Ev.neg (by omega) (Ev.const ?_)
  rw [List.drop_eq_nil_of_le (by omega)]; simp
 | succ d ih =>
  intro i hd
  refine Ev.up ?_
  simp only [spec_l3Node.l1]
  refine Ev.pos (by omega) (Ev.pos (by omega) ?_)
  rw [rd_drop (xs := l6) (i := i) (by omega), w64n (n := l6.length) (by omega) (by omega), specIn_eq, w64 (x := w - 1) (by omega) (by omega)]
  simp only [Option.bind_some]
  refine Ev.ite (fun h => ?_) (fun h => Ev.const ?_)
  ·exact (ih (i + 1) (by omega)).eq (by have h' : cellOk w (rd l6 (i : Int)) = true := h; simp [h'])
  ·have h' : ¬ cellOk w (rd l6 (i : Int)) = true := h
   simp [h']
theorem specNode_tail {plan : List S35} {i : Nat} (hi : i < plan.length) (hg : GoodN plan i) {x : S35} (h1 : 1 ≤ x.f0 ∧ x.f0 ≤ 12) (h3 : (readsL x).all (readOk plan i) = true) (hl : x.f6.length ≤ 1048576) :
  Ev (fun k => spec_l3Node.l0 k plan (i : Int) ((readsL x).length : Int) x.f0 x.f1 x.f2 x.f3 x.f4 x.f5 x.f6) (faultW (wsN plan i) x) := by
 have A : ¬ x.f0 = 1 → Ev (fun k => spec_l3Width.f k plan x.f1) (rd (wsN plan i) x.f1) ∧ 1 ≤ rd (wsN plan i) x.f1 ∧ rd (wsN plan i) x.f1 ≤ 4 := fun h => by
  obtain ⟨a, ea, ha, _⟩ := reads_a h3 h
  rw [← ea, wsN_rd plan ha]
  exact ⟨specWidthN_ev (by omega) hg i a ha ha, wOf_in hg i a ha ha⟩
 have B : x.f0 = 4 ∨ x.f0 = 6 → Ev (fun k => spec_l3Width.f k plan x.f2) (rd (wsN plan i) x.f2) ∧ 1 ≤ rd (wsN plan i) x.f2 ∧ rd (wsN plan i) x.f2 ≤ 4 := fun h => by
  obtain ⟨a, ea, ha, _⟩ := reads_b h3 h
  rw [← ea, wsN_rd plan ha]
  exact ⟨specWidthN_ev (by omega) hg i a ha ha, wOf_in hg i a ha ha⟩
 refine Ev.up ?_
 simp only [spec_l3Node.l0]
 refine Ev.call specReads_eq (Ev.neg (by omega) ?_)
 have mnE : ∀ a b : Int, spec_l1Min.f a b = some (min a b) := fun a b => by
  unfold spec_l1Min.f
  by_cases c : a < b
  ·rw [if_pos c]; congr 1; omega
  ·rw [if_neg c]; congr 1; omega
 rcases op_cases h1 with h | h | h | h | h | h | h | h | h | h | h | h <;> simp only [faultW, h, Int.reduceEq, Int.reduceLE, if_true, if_false, false_or, or_false, true_or, or_true, and_self, and_false, false_and, and_true, true_and, not_false_eq_true, forall_const] at A B ⊢
 ·exact Ev.call (specIn_eq _ _ _) (evDec (fun _ => Ev.const rfl) (fun _ => Ev.const rfl))
 ·refine Ev.then A.1 (Ev.call (specIn_eq _ _ _) ?_)
  rw [w64 (by omega) (by omega)]
  refine evDec (fun _ => Ev.call (specIn_eq _ _ _) (evDec (fun _ => Ev.call (specIn_eq _ _ _) (evDec (fun _ => Ev.const rfl) (fun _ => Ev.const rfl))) (fun _ => Ev.const rfl))) (fun _ => Ev.const rfl)
 ·refine Ev.then A.1 ?_
  by_cases c : 1 ≤ (x.f6.length : Int) ∧ (x.f6.length : Int) ≤ 4
  ·rw [if_pos c]
   refine Ev.neg (by omega) (Ev.up ?_)
   simp only [spec_l3Node.j1]
   refine Ev.neg (by simp; omega) ?_
   exact (specCells_l1 _ _ _ _ _ _ _ _ (by omega) hl x.f6.length 0 (by omega)).eq (by simp)
  ·rw [if_neg c]
   refine Ev.ite (fun _ => Ev.up ?_) (fun _ => Ev.up ?_) <;> simp only [spec_l3Node.j1]
   ·exact Ev.pos trivial (Ev.const rfl)
   ·exact Ev.pos (by simp; omega) (Ev.const rfl)
 ·exact Ev.then A.1 (Ev.then B.1 (Ev.ite2 (fun _ => Ev.const rfl) (fun _ => Ev.const rfl)))
 ·refine Ev.then A.1 (Ev.up ?_)
  simp only [spec_l3Node.j3]
  exact Ev.neg (by decide) (Ev.const rfl)
 ·refine Ev.then A.1 (Ev.then B.1 (Ev.call (mnE _ _) (Ev.call (specIn_eq _ _ _) ?_)))
  refine evDec (fun c => ?_) (fun _ => Ev.const rfl)
  rw [w64 (x := rd (wsN plan i) x.f1 + rd (wsN plan i) x.f2) (by omega) (by omega), w64 (by omega) (by omega)]
  exact Ev.ite2 (fun _ => Ev.const rfl) (fun _ => Ev.const rfl)
 ·refine Ev.then A.1 (Ev.call (mnE _ _) (Ev.call (specIn_eq _ _ _) ?_))
  exact evDec (fun _ => Ev.const rfl) (fun _ => Ev.const rfl)
 ·refine Ev.then A.1 (Ev.up ?_)
  simp only [spec_l3Node.j3]
  refine Ev.pos (by decide) (Ev.call (specIn_eq _ _ _) ?_)
  rw [w64 (by omega) (by omega)]
  exact evDec (fun _ => Ev.const rfl) (fun _ => Ev.const rfl)
 ·refine Ev.then A.1 (Ev.up ?_)
  simp only [spec_l3Node.j3]
  refine Ev.pos (by decide) (Ev.call (specIn_eq _ _ _) ?_)
  rw [w64 (by omega) (by omega)]
  exact evDec (fun _ => Ev.const rfl) (fun _ => Ev.const rfl)
 ·refine Ev.then A.1 (Ev.up ?_)
  simp only [spec_l3Node.j3]
  refine Ev.pos (by decide) (Ev.call (specIn_eq _ _ _) ?_)
  rw [w64 (by omega) (by omega)]
  exact evDec (fun _ => Ev.const rfl) (fun _ => Ev.const rfl)
 ·refine Ev.then A.1 (Ev.up ?_)
  simp only [spec_l3Node.j3]
  exact Ev.neg (by decide) (Ev.const rfl)
 ·refine Ev.then A.1 (Ev.up ?_)
  simp only [spec_l3Node.j3]
  exact Ev.neg (by decide) (Ev.const rfl)
/-- One thing that a node reads from is looked at. -/
theorem specNode_read {plan : List S35} {i : Nat} (hi : i < plan.length) (hn : plan.length ≤ 1048576) {v r : Int} {f : Nat → Option Int} (hf : readOk plan i v = true → Ev f r) :
  Ev (fun k => (spec_l1In.f v 0 (wrap64 ((i : Int) - 1))).bind fun t => if t = true then (if 0 ≤ v then (if v < (plan.length : Int) then (if (rd_T35 plan v).f0 = 12 then some 3 else f k) else none) else none) else some 3) (if readOk plan i v = true then r else 3) := by
 refine Ev.call (specIn_eq _ _ _) ?_
 rw [w64 (by omega) (by omega)]
 by_cases c : 0 ≤ v ∧ v ≤ (i : Int) - 1
 ·refine Ev.pos (decide_eq_true c) (Ev.pos c.1 (Ev.pos (by omega) ?_))
  by_cases c2 : (rd_T35 plan v).f0 = 12
  ·refine Ev.pos c2 (Ev.const ?_)
   rw [if_neg (by simp [readOk, c2])]
  ·refine Ev.neg c2 ?_
   have hr : readOk plan i v = true := by simp [readOk, c2]; omega
   rw [if_pos hr]
   exact hf hr
 ·refine Ev.neg (by simpa using c) (Ev.const ?_)
  rw [if_neg (by simp only [readOk, Bool.and_eq_true, decide_eq_true_eq]; intro h; exact c h.1)]
theorem specNode_ev {plan : List S35} (hx : FineN plan) {i : Nat} (hi : i < plan.length) (hg : GoodN plan i) : Ev (fun k => spec_l3Node.f k plan (i : Int)) (codeN plan i) := by
 have hl := hx.2 _ (rdN_mem (xs := plan) (i := i) hi)
 have hn := hx.1
 unfold spec_l3Node.f codeN
 refine Ev.pos (by omega) (Ev.pos (by omega) (Ev.call (specIn_eq _ _ _) ?_))
 generalize rd_T35 plan (i : Int) = x at *
 refine evDec (fun h1 => ?_) (fun _ => Ev.const rfl)
 refine Ev.then (specNamed_ev _ _ _ _ _ _ _ h1) ?_
 refine Ev.ite2 (fun _ => ?_) (fun _ => Ev.const rfl)
 have T : (readsL x).all (readOk plan i) = true → _ := fun h3 => specNode_tail hi hg h1 h3 hl
 unfold readsL at T ⊢
 by_cases c1 : x.f0 = 1
 ·simp only [if_pos c1, List.all_nil, if_true, List.length_nil] at T ⊢
  exact T trivial
 ·by_cases c2 : x.f0 = 4 ∨ x.f0 = 6
  ·simp only [if_neg c1, if_pos c2, List.all_cons, List.all_nil, Bool.and_true, List.length_cons, List.length_nil] at T ⊢
   refine Ev.up ?_
   simp only [spec_l3Node.l0]
   refine Ev.call specReads_eq ?_
   have rl : ((readsL x).length : Int) = 2 := by unfold readsL; rw [if_neg c1, if_pos c2]; rfl
   rw [rl]
   refine Ev.pos (by omega) (Ev.neg (by omega) ?_)
   have e : (if (readOk plan i x.f1 && readOk plan i x.f2) = true then faultW (wsN plan i) x else 3) = (if readOk plan i x.f1 = true then (if readOk plan i x.f2 = true then faultW (wsN plan i) x else 3) else 3) := by
    by_cases d1 : readOk plan i x.f1 = true <;> by_cases d2 : readOk plan i x.f2 = true <;> simp [d1, d2]
   rw [e]
   refine specNode_read hi hn (fun r1 => ?_)
   rw [show wrap64 (0 + 1) = 1 from by rw [w64 (by omega) (by omega)]; rfl]
   refine Ev.up ?_
   simp only [spec_l3Node.l0]
   refine Ev.call specReads_eq ?_
   rw [rl]
   refine Ev.pos (by omega) (Ev.pos trivial ?_)
   refine specNode_read hi hn (fun r2 => ?_)
   rw [show wrap64 (1 + 1) = 2 from by rw [w64 (by omega) (by omega)]; rfl]
   exact T (by rw [r1, r2]; rfl)
  ·simp only [if_neg c1, if_neg c2, List.all_cons, List.all_nil, Bool.and_true, List.length_cons, List.length_nil] at T ⊢
   refine Ev.up ?_
   simp only [spec_l3Node.l0]
   refine Ev.call specReads_eq ?_
   have rl : ((readsL x).length : Int) = 1 := by unfold readsL; rw [if_neg c1, if_neg c2]; rfl
   rw [rl]
   refine Ev.pos (by omega) (Ev.neg (by omega) ?_)
   refine specNode_read hi hn (fun r1 => ?_)
   rw [show wrap64 (0 + 1) = 1 from by rw [w64 (by omega) (by omega)]; rfl]
   exact T r1
theorem specPlan_l0 {plan : List S35} (hx : FineN plan) : ∀ (d i : Nat), i + d = plan.length → GoodN plan i → Ev (fun k => spec_PlanFault.l0 k plan (i : Int)) (planC plan d i)
 | 0, i, hd, hg => by
  refine Ev.up ?_
  simp only [spec_PlanFault.l0, planC]
  exact Ev.neg (by omega) (Ev.const rfl)
 | d + 1, i, hd, hg => by
  refine Ev.up ?_
  simp only [spec_PlanFault.l0, planC]
  refine Ev.pos (by omega) (Ev.then (specNode_ev hx (by omega) hg) (Ev.ite2 (fun h => ?_) (fun _ => Ev.const rfl)))
  rw [w64n (n := plan.length) (by omega) hx.n]
  refine specPlan_l0 hx d (i + 1) (by omega) (fun j hj => ?_)
  by_cases e : j = i
  ·rw [e]; exact h
  ·exact hg j (by omega)
theorem specPlan_ev {plan : List S35} (hx : FineN plan) : Ev (fun k => spec_PlanFault.f k plan) (planF plan) := by
 unfold spec_PlanFault.f planF
 by_cases c : 1 ≤ plan.length ∧ plan.length ≤ 8
 ·rw [if_pos c]
  refine Ev.neg (by omega) (Ev.up ?_)
  simp only [spec_PlanFault.j0]
  exact Ev.neg (by simp; omega) (specPlan_l0 hx plan.length 0 (by omega) (fun j hj => by omega))
 ·rw [if_neg c]
  refine Ev.ite (fun _ => Ev.up ?_) (fun _ => Ev.up ?_) <;> simp only [spec_PlanFault.j0]
  ·exact Ev.pos trivial (Ev.const rfl)
  ·exact Ev.pos (by simp; omega) (Ev.const rfl)
def plainT (a0 a1 a2 a3 a4 a5 : Int) (l6 : List Int) : Int × Int × Int × Int × Int × Int × List Int :=
 (a0, if a0 = 1 then 0 else a1, if a0 = 4 ∨ a0 = 6 then a2 else 0, if a0 = 3 ∨ a0 = 4 ∨ a0 = 5 ∨ a0 = 11 ∨ a0 = 12 then 0 else a3, if a0 = 2 then a4 else 0, if a0 = 2 then a5 else 0, if a0 = 3 then l6 else [])
theorem plain_ev (a0 a1 a2 a3 a4 a5 : Int) (l6 : List Int) (h0 : 1 ≤ a0 ∧ a0 ≤ 12) : Ev (fun k => impl_Node_plain.f k a0 a1 a2 a3 a4 a5 l6) (plainT a0 a1 a2 a3 a4 a5 l6) := by
 refine Ev.up (Ev.up (Ev.up (Ev.all (fun k => ?_))))
 rcases op_cases h0 with rfl | rfl | rfl | rfl | rfl | rfl | rfl | rfl | rfl | rfl | rfl | rfl <;>
 simp [impl_Node_plain.f, impl_Node_plain.j0, impl_Node_plain.j1, impl_Node_plain.j2, impl_twoSided.f, plainT]
theorem same_plain (a0 a1 a2 a3 a4 a5 : Int) (l6 : List Int) (hl : l6.length ≤ 1048576) :
  Ev (fun k => impl_sameNode.f k a0 a1 a2 a3 a4 a5 l6 (plainT a0 a1 a2 a3 a4 a5 l6).1 (plainT a0 a1 a2 a3 a4 a5 l6).2.1 (plainT a0 a1 a2 a3 a4 a5 l6).2.2.1 (plainT a0 a1 a2 a3 a4 a5 l6).2.2.2.1 (plainT a0 a1 a2 a3 a4 a5 l6).2.2.2.2.1 (plainT a0 a1 a2 a3 a4 a5 l6).2.2.2.2.2.1 (plainT a0 a1 a2 a3 a4 a5 l6).2.2.2.2.2.2) (namedB a0 a1 a2 a3 a4 a5 l6) := by
 unfold impl_sameNode.f
 simp only [plainT]
 have key : namedB a0 a1 a2 a3 a4 a5 l6 = (if a1 = (if a0 = 1 then 0 else a1) then (if a2 = (if a0 = 4 ∨ a0 = 6 then a2 else 0) then (if a3 = (if a0 = 3 ∨ a0 = 4 ∨ a0 = 5 ∨ a0 = 11 ∨ a0 = 12 then 0 else a3) then (if a4 = (if a0 = 2 then a4 else 0) then (if a5 = (if a0 = 2 then a5 else 0) then decide (l6 = (if a0 = 3 then l6 else [])) else false) else false) else false) else false) else false) := by
  have i1 : (a1 = (if a0 = 1 then 0 else a1)) ↔ (a0 = 1 → a1 = 0) := by by_cases h : a0 = 1 <;> simp [h]
  have i2 : (a2 = (if a0 = 4 ∨ a0 = 6 then a2 else 0)) ↔ (¬ (a0 = 4 ∨ a0 = 6) → a2 = 0) := by by_cases h : a0 = 4 ∨ a0 = 6 <;> simp [h]
  have i3 : (a3 = (if a0 = 3 ∨ a0 = 4 ∨ a0 = 5 ∨ a0 = 11 ∨ a0 = 12 then 0 else a3)) ↔ ((a0 = 3 ∨ a0 = 4 ∨ a0 = 5 ∨ a0 = 11 ∨ a0 = 12) → a3 = 0) := by by_cases h : a0 = 3 ∨ a0 = 4 ∨ a0 = 5 ∨ a0 = 11 ∨ a0 = 12 <;> simp [h]
  have i4 : (a4 = (if a0 = 2 then a4 else 0)) ↔ (¬ a0 = 2 → a4 = 0) := by by_cases h : a0 = 2 <;> simp [h]
  have i5 : (a5 = (if a0 = 2 then a5 else 0)) ↔ (¬ a0 = 2 → a5 = 0) := by by_cases h : a0 = 2 <;> simp [h]
  have i6 : (l6 = (if a0 = 3 then l6 else [])) ↔ (¬ a0 = 3 → l6 = []) := by by_cases h : a0 = 3 <;> simp [h]
  unfold namedB
  rw [Bool.eq_iff_iff]
  simp only [Bool.if_false_right, Bool.and_eq_true, decide_eq_true_eq]
  rw [i1, i2, i3, i4, i5, i6]
  constructor
  ·rintro ⟨p1, p2, p45, p6, p3⟩; exact ⟨p1, p2, p3, fun h => (p45 h).1, fun h => (p45 h).2, p6⟩
  ·rintro ⟨p1, p2, p3, p4, p5, p6⟩; exact ⟨p1, p2, fun h => ⟨p4 h, p5 h⟩, p6, p3⟩
 rw [key]
 refine Ev.pos trivial (Ev.ite2 (fun _ => Ev.ite2 (fun _ => Ev.ite2 (fun _ => Ev.ite2 (fun _ => Ev.ite2 (fun _ => ?_) (fun _ => Ev.const rfl)) (fun _ => Ev.const rfl)) (fun _ => Ev.const rfl)) (fun _ => Ev.const rfl)) (fun _ => Ev.const rfl))
 exact Ev.then (slicesEq_ev _ _ (by omega)) (Ev.const rfl)
theorem implReads_eq (x : S35) : impl_Node_reads.f x.f0 x.f1 x.f2 x.f3 x.f4 x.f5 x.f6 = some (readsL x) := by
 unfold impl_Node_reads.f readsL impl_twoSided.f
 by_cases h1 : x.f0 = 1
 ·rw [if_pos h1, if_pos h1]
 ·by_cases h4 : x.f0 = 4
  ·rw [if_neg h1, if_neg h1, if_pos h4, if_pos (Or.inl h4)]; rfl
  ·by_cases h6 : x.f0 = 6
   ·rw [if_neg h1, if_neg h1, if_neg h4, if_pos (Or.inr h6)]; simp [h6]
   ·rw [if_neg h1, if_neg h1, if_neg h4, if_neg (by omega)]; simp [h6]
theorem implWidthN_eq {ws : List Int} {x : S35} (h1 : 1 ≤ x.f0 ∧ x.f0 ≤ 12) (ha : ¬ x.f0 = 1 → 0 ≤ x.f1 ∧ x.f1 < (ws.length : Int) ∧ 1 ≤ rd ws x.f1 ∧ rd ws x.f1 ≤ 4) (hb : x.f0 = 4 ∨ x.f0 = 6 → 0 ≤ x.f2 ∧ x.f2 < (ws.length : Int) ∧ 1 ≤ rd ws x.f2 ∧ rd ws x.f2 ≤ 4) (h3 : ¬ x.f0 = 3 → ¬ x.f0 = 1 → -1000 ≤ x.f3 ∧ x.f3 ≤ 1000) :
  impl_Node_width.f x.f0 x.f1 x.f2 x.f3 x.f4 x.f5 x.f6 ws = some (widthW ws x) := by
 unfold impl_Node_width.f impl_grouped.f
 rw [implIn_eq]
 rcases op_cases h1 with h | h | h | h | h | h | h | h | h | h | h | h <;> simp only [widthW, impl_size_int64.f, h, Int.reduceEq, Int.reduceLE, if_true, if_false, false_or, or_false, true_or, or_true, and_self, and_false, false_and, and_true, true_and, not_false_eq_true, forall_const, Option.bind_some, decide_true, decide_false, Bool.false_eq_true] at ha hb h3 ⊢
 ·rw [if_pos ha.1, if_pos ha.2.1]
 ·rw [if_pos ha.1, if_pos ha.2.1]
 ·rw [if_pos ha.1, if_pos ha.2.1]
 ·rw [if_pos ha.1, if_pos ha.2.1, if_pos hb.1, if_pos hb.2.1, w64 (x := _ + _) (by omega) (by omega), w64 (by omega) (by omega)]
 ·rw [w64 (by omega) (by omega)]
 ·rw [w64 (by omega) (by omega)]
 ·rw [w64 (by omega) (by omega)]
 ·rw [w64 (by omega) (by omega)]
 ·rw [if_pos ha.1, if_pos ha.2.1]
 ·rw [if_pos ha.1, if_pos ha.2.1]
theorem implCells_l0 (ws : List Int) (a0 a1 a2 a3 a4 a5 : Int) (l6 l7 : List Int) (ha : 0 ≤ a1 ∧ a1 < (ws.length : Int)) (hw : -1000 ≤ rd ws a1 ∧ rd ws a1 ≤ 1000) (hn : l6.length ≤ 1048576) : ∀ (d i : Nat), i + d = l6.length → Ev (fun k => impl_Node_fault.l0 k ws l6 (l6.length : Int) (i : Int) a0 a1 a2 a3 a4 a5 l7) (if (l6.drop i).all (cellOk (rd ws a1)) = true then 0 else 3) := by
 intro d
 induction d with
 | zero =>
  intro i hd
  refine Ev.up ?_
  simp only [impl_Node_fault.l0]
  refine Ev.neg (by omega) (Ev.const ?_)
  rw [List.drop_eq_nil_of_le (by omega)]; simp
 | succ d ih =>
  intro i hd
  refine Ev.up ?_
  simp only [impl_Node_fault.l0]
  refine Ev.pos (by omega) (Ev.pos (by omega) (Ev.pos (by omega) (Ev.pos ha.1 (Ev.pos ha.2 ?_))))
  rw [rd_drop (xs := l6) (i := i) (by omega), w64n (n := l6.length) (by omega) (by omega), implIn_eq, w64 (x := rd ws a1 - 1) (by omega) (by omega)]
  simp only [Option.bind_some]
  refine Ev.ite (fun h => ?_) (fun h => Ev.const ?_)
  ·exact (ih (i + 1) (by omega)).eq (by have h' : cellOk (rd ws a1) (rd l6 (i : Int)) = true := h; simp [h'])
  ·have h' : ¬ cellOk (rd ws a1) (rd l6 (i : Int)) = true := h
   simp [h']
theorem implFaultN_ev {ws : List Int} {x : S35} (h1 : 1 ≤ x.f0 ∧ x.f0 ≤ 12) (ha : ¬ x.f0 = 1 → 0 ≤ x.f1 ∧ x.f1 < (ws.length : Int) ∧ 1 ≤ rd ws x.f1 ∧ rd ws x.f1 ≤ 4) (hb : x.f0 = 4 ∨ x.f0 = 6 → 0 ≤ x.f2 ∧ x.f2 < (ws.length : Int) ∧ 1 ≤ rd ws x.f2 ∧ rd ws x.f2 ≤ 4) (hl : x.f6.length ≤ 1048576) :
  Ev (fun k => impl_Node_fault.f k x.f0 x.f1 x.f2 x.f3 x.f4 x.f5 x.f6 ws) (faultW ws x) := by
 have mnE : ∀ a b : Int, mn a b = min a b := fun a b => by unfold mn; split <;> omega
 have WE : ∀ c : ¬ x.f0 = 3 → ¬ x.f0 = 1 → -1000 ≤ x.f3 ∧ x.f3 ≤ 1000, _ := fun c => implWidthN_eq h1 ha hb c
 unfold impl_Node_fault.f
 simp only [mnE]
 rcases op_cases h1 with h | h | h | h | h | h | h | h | h | h | h | h <;> simp only [faultW, impl_size_int64.f, h, Int.reduceEq, Int.reduceLE, if_true, if_false, false_or, or_false, true_or, or_true, and_self, and_false, false_and, and_true, true_and, not_false_eq_true, forall_const, Option.bind_some] at ha hb WE ⊢
 ·exact Ev.call (implIn_eq _ _ _) (evDec (fun _ => Ev.const rfl) (fun _ => Ev.const rfl))
 ·refine Ev.pos ha.1 (Ev.pos ha.2.1 (Ev.call (implIn_eq _ _ _) ?_))
  rw [w64 (by omega) (by omega)]
  refine evDec (fun _ => Ev.call (implIn_eq _ _ _) (evDec (fun _ => Ev.call (implIn_eq _ _ _) (evDec (fun _ => Ev.const rfl) (fun _ => Ev.const rfl))) (fun _ => Ev.const rfl))) (fun _ => Ev.const rfl)
 ·refine Ev.call (implIn_eq _ _ _) (evDec (fun _ => ?_) (fun _ => Ev.const rfl))
  exact (implCells_l0 ws _ x.f1 _ _ _ _ x.f6 x.f6 ⟨ha.1, ha.2.1⟩ (by omega) hl x.f6.length 0 (by omega)).eq (by simp)
 ·exact Ev.pos ha.1 (Ev.pos ha.2.1 (Ev.pos hb.1 (Ev.pos hb.2.1 (Ev.ite2 (fun _ => Ev.const rfl) (fun _ => Ev.const rfl)))))
 ·refine Ev.up ?_
  simp only [impl_Node_fault.j1]
  exact Ev.neg (by decide) (Ev.const rfl)
 ·refine Ev.pos ha.1 (Ev.pos ha.2.1 (Ev.pos hb.1 (Ev.pos hb.2.1 (Ev.call (implIn_eq _ _ _) ?_))))
  refine evDec (fun c => ?_) (fun _ => Ev.const rfl)
  refine Ev.call (WE (by omega)) ?_
  have e : widthW ws x = rd ws x.f1 + rd ws x.f2 - x.f3 := by simp [widthW, h]
  rw [e]
  exact Ev.ite2 (fun _ => Ev.const rfl) (fun _ => Ev.const rfl)
 ·exact Ev.pos ha.1 (Ev.pos ha.2.1 (Ev.call (implIn_eq _ _ _) (evDec (fun _ => Ev.const rfl) (fun _ => Ev.const rfl))))
 ·refine Ev.up ?_
  simp only [impl_Node_fault.j1]
  refine Ev.pos (by decide) (Ev.pos ha.1 (Ev.pos ha.2.1 (Ev.call (implIn_eq _ _ _) ?_)))
  rw [w64 (by omega) (by omega)]
  exact evDec (fun _ => Ev.const rfl) (fun _ => Ev.const rfl)
 ·refine Ev.up ?_
  simp only [impl_Node_fault.j1]
  refine Ev.pos (by decide) (Ev.pos ha.1 (Ev.pos ha.2.1 (Ev.call (implIn_eq _ _ _) ?_)))
  rw [w64 (by omega) (by omega)]
  exact evDec (fun _ => Ev.const rfl) (fun _ => Ev.const rfl)
 ·refine Ev.up ?_
  simp only [impl_Node_fault.j1]
  refine Ev.pos (by decide) (Ev.pos ha.1 (Ev.pos ha.2.1 (Ev.call (implIn_eq _ _ _) ?_)))
  rw [w64 (by omega) (by omega)]
  exact evDec (fun _ => Ev.const rfl) (fun _ => Ev.const rfl)
 ·refine Ev.up ?_
  simp only [impl_Node_fault.j1]
  exact Ev.neg (by decide) (Ev.const rfl)
 ·refine Ev.up ?_
  simp only [impl_Node_fault.j1]
  exact Ev.neg (by decide) (Ev.const rfl)
def lookR (plan : List S35) (c : Int) : List Int × Int := if c = 0 then (wsN plan plan.length, 0) else ([], c)
def lookF (plan : List S35) : List Int × Int := lookR plan (planF plan)
theorem fault_f3 {ws : List Int} {x : S35} (h1 : 1 ≤ x.f0 ∧ x.f0 ≤ 12) (hm : named x = true) (hf : faultW ws x = 0) (ha : ¬ x.f0 = 1 → 1 ≤ rd ws x.f1 ∧ rd ws x.f1 ≤ 4) : ¬ x.f0 = 3 → ¬ x.f0 = 1 → -1000 ≤ x.f3 ∧ x.f3 ≤ 1000 := by
 intro n3 n1
 have hz := (of_decide_eq_true (show decide _ = true from hm)).2.2.2.2
 rcases op_cases h1 with h | h | h | h | h | h | h | h | h | h | h | h <;> simp only [faultW, h, Int.reduceEq, Int.reduceLE, if_true, if_false, false_or, or_false, true_or, or_true, and_self, and_false, false_and, and_true, true_and, not_false_eq_true, forall_const, not_true_eq_false] at hf ha hz n3 n1
 all_goals (repeat' split at hf)
 all_goals first | omega | (have := hz trivial; omega)
theorem looked_reads {plan ws : List S35} {wl : List Int} {i : Nat} {a0 a1 a2 a3 a4 a5 : Int} {l6 : List Int} {x16 x17 : Int} (hi : i < plan.length) (hn : plan.length ≤ 1048576) (rs : List Int) (hrs : rs.length ≤ 1048576) {r : List Int × Int}
  (hend : rs.all (readOk plan i) = true → Ev (fun k => (impl_Node_fault.f k a0 a1 a2 a3 a4 a5 l6 wl).bind fun t232 => if t232 = 0 then ((impl_Node_width.f a0 a1 a2 a3 a4 a5 l6 wl).bind fun t233 => if wl.length < 17592186044416 then impl_looked.l0 k plan (wl ++ [t233]) ws x16 (wrap64 (x17 + 1)) else none) else some (([] : List Int), t232)) r) :
  ∀ (d q : Nat), q + d = rs.length → (∀ v ∈ rs.take q, readOk plan i v = true) → Ev (fun k => impl_looked.l1 k plan wl (i : Int) ws x16 x17 rs (rs.length : Int) (q : Int) a0 a1 a2 a3 a4 a5 l6) (if (rs.drop q).all (readOk plan i) = true then r else ([], 3)) := by
 intro d
 induction d with
 | zero =>
  intro q hd hp
  refine Ev.up ?_
  simp only [impl_looked.l1]
  refine Ev.neg (by omega) ?_
  rw [List.drop_eq_nil_of_le (by omega)]
  rw [List.take_of_length_le (by omega)] at hp
  exact (hend (List.all_eq_true.mpr hp)).eq (by simp)
 | succ d ih =>
  intro q hd hp
  refine Ev.up ?_
  simp only [impl_looked.l1]
  refine Ev.pos (by omega) (Ev.pos (by omega) (Ev.pos (by omega) (Ev.call (implIn_eq _ _ _) ?_)))
  rw [rd_drop (xs := rs) (i := q) (by omega), w64 (x := (i : Int) - 1) (by omega) (by omega), w64n (n := rs.length) (by omega) (by omega)]
  by_cases c : 0 ≤ rd rs (q : Int) ∧ rd rs (q : Int) ≤ (i : Int) - 1
  ·refine Ev.pos (decide_eq_true c) (Ev.pos c.1 (Ev.pos (by omega) ?_))
   by_cases c2 : (rd_T35 plan (rd rs (q : Int))).f0 = 12
   ·refine Ev.pos c2 (Ev.const ?_)
    rw [if_neg (by simp [readOk, c2])]
   ·have hr : readOk plan i (rd rs (q : Int)) = true := by simp [readOk, c2]; omega
    refine Ev.neg c2 ((ih (q + 1) (by omega) (fun v hv => ?_)).eq (by simp [hr]))
    rw [List.take_add_one, List.getElem?_eq_getElem (by omega), ← rd_at (by omega)] at hv
    rcases List.mem_append.mp hv with h1 | h1
    ·exact hp v h1
    ·simp at h1; rw [h1]; exact hr
  ·refine Ev.neg (by simpa using c) (Ev.const ?_)
   rw [if_neg]
   simp only [List.all_cons, Bool.and_eq_true, readOk, decide_eq_true_eq]
   intro h
   exact c h.1.1
theorem implLooked_l0 {plan : List S35} (hx : FineN plan) : ∀ (d i : Nat), i + d = plan.length → GoodN plan i → Ev (fun k => impl_looked.l0 k plan (wsN plan i) plan (plan.length : Int) (i : Int)) (lookR plan (planC plan d i))
 | 0, i, hd, hg => by
  refine Ev.up ?_
  simp only [impl_looked.l0]
  obtain rfl : i = plan.length := by omega
  exact Ev.neg (by omega) (Ev.const rfl)
 | d + 1, i, hd, hg => by
  have hn := hx.1
  have hi : i < plan.length := by omega
  have hl := hx.2 _ (rdN_mem (xs := plan) (i := i) hi)
  have IH : codeN plan i = 0 → _ := fun h => implLooked_l0 hx d (i + 1) (by omega) (fun j hj => by
   by_cases e : j = i
   ·rw [e]; exact h
   ·exact hg j (by omega))
  have e1 : wsN plan (i + 1) = wsN plan i ++ [widthW (wsN plan i) (rd_T35 plan (i : Int))] := rfl
  rw [e1] at IH
  have hp : planC plan (d + 1) i = if codeN plan i = 0 then planC plan d (i + 1) else codeN plan i := rfl
  rw [hp]
  refine Ev.up ?_
  simp only [impl_looked.l0]
  refine Ev.pos (by omega) (Ev.pos (by omega) (Ev.pos (by omega) (Ev.call (implIn_eq _ _ _) ?_)))
  have hc := codeN_eq plan i
  generalize rd_T35 plan (i : Int) = x at *
  by_cases h1 : 1 ≤ x.f0 ∧ x.f0 ≤ 12
  ·rw [if_pos h1] at hc
   refine Ev.pos (decide_eq_true h1) (Ev.then (plain_ev _ _ _ _ _ _ _ h1) (Ev.then (same_plain _ _ _ _ _ _ _ hl) ?_))
   by_cases h2 : named x = true
   ·rw [if_pos h2] at hc
    refine Ev.pos h2 (Ev.call (implReads_eq x) ?_)
    have rl : (readsL x).length ≤ 1048576 := by
     unfold readsL
     split
     ·simp
     ·split <;> simp
    have L := looked_reads (ws := plan) (wl := wsN plan i) (x16 := (plan.length : Int)) (x17 := (i : Int)) (a0 := x.f0) (a1 := x.f1) (a2 := x.f2) (a3 := x.f3) (a4 := x.f4) (a5 := x.f5) (l6 := x.f6) hi hn (readsL x) rl (r := if faultW (wsN plan i) x = 0 then lookR plan (planC plan d (i + 1)) else ([], faultW (wsN plan i) x)) (fun h3 => by
     have A : ¬ x.f0 = 1 → 0 ≤ x.f1 ∧ x.f1 < ((wsN plan i).length : Int) ∧ 1 ≤ rd (wsN plan i) x.f1 ∧ rd (wsN plan i) x.f1 ≤ 4 := fun h => by
      obtain ⟨a, ea, ha, _⟩ := reads_a h3 h
      rw [wsN_len, ← ea, wsN_rd plan ha]
      have := wOf_in hg i a ha ha
      omega
     have B : x.f0 = 4 ∨ x.f0 = 6 → 0 ≤ x.f2 ∧ x.f2 < ((wsN plan i).length : Int) ∧ 1 ≤ rd (wsN plan i) x.f2 ∧ rd (wsN plan i) x.f2 ≤ 4 := fun h => by
      obtain ⟨a, ea, ha, _⟩ := reads_b h3 h
      rw [wsN_len, ← ea, wsN_rd plan ha]
      have := wOf_in hg i a ha ha
      omega
     refine Ev.then (implFaultN_ev h1 A B hl) (Ev.ite2 (fun hf => ?_) (fun _ => Ev.const rfl))
     refine Ev.call (implWidthN_eq h1 A B (fault_f3 h1 h2 hf (fun h => (A h).2.2))) (Ev.pos (by rw [wsN_len]; omega) ?_)
     rw [w64n (n := plan.length) (by omega) hx.n]
     rw [if_pos h3] at hc
     exact IH (by rw [hc]; exact hf)) (readsL x).length 0 (by omega) (by simp)
    refine L.eq ?_
    rw [List.drop_zero]
    by_cases h3 : (readsL x).all (readOk plan i) = true
    ·rw [if_pos h3] at hc ⊢
     rw [hc]
     by_cases hf : faultW (wsN plan i) x = 0
     ·rw [if_pos hf, if_pos hf]
     ·rw [if_neg hf, if_neg hf]; unfold lookR; rw [if_neg hf]
    ·rw [if_neg h3] at hc ⊢
     rw [hc]; rfl
   ·rw [if_neg h2] at hc
    refine Ev.neg h2 (Ev.const ?_)
    rw [hc]; rfl
  ·rw [if_neg h1] at hc
   refine Ev.neg (by simpa using h1) (Ev.const ?_)
   rw [hc]; rfl
theorem implLooked_ev {plan : List S35} (hx : FineN plan) : Ev (fun k => impl_looked.f k plan) (lookF plan) := by
 unfold impl_looked.f lookF planF
 refine Ev.call (a := (plan.length : Int)) rfl (Ev.call (implIn_eq _ _ _) ?_)
 by_cases c : 1 ≤ plan.length ∧ plan.length ≤ 8
 ·refine Ev.pos (by simp; omega) ?_
  rw [if_pos c]
  exact implLooked_l0 hx plan.length 0 (by omega) (fun j hj => by omega)
 ·refine Ev.neg (by simp; omega) (Ev.const ?_)
  rw [if_neg c]; rfl
theorem implPlan_ev {plan : List S35} (hx : FineN plan) : Ev (fun k => impl_PlanFault.f k plan) (planF plan) := by
 unfold impl_PlanFault.f
 refine Ev.then (implLooked_ev hx) (Ev.const ?_)
 unfold lookF lookR
 by_cases h : planF plan = 0
 ·rw [if_pos h, h]
 ·rw [if_neg h]
/-- Bytes as a text. -/
def ba (l : List UInt8) : ByteArray := ⟨l.toArray⟩
theorem ba_size (l : List UInt8) : (ba l).size = l.length := by
 show l.toArray.size = _
 simp
theorem ba_app (a b : List UInt8) : ba a ++ ba b = ba (a ++ b) := by
 apply ByteArray.ext
 rw [ByteArray.data_append]
 simp [ba]
theorem ba_one (x : Int) (h0 : 0 ≤ x) (h1 : x < 256) : strOfNums [x] = ba [UInt8.ofNat x.toNat] := by
 unfold strOfNums ba
 congr 1
theorem dec_len (u : Nat) : (Lib.decDigits u).length ≤ u + 1 := by
 induction u using Nat.strongRecOn with
 | _ u ih =>
  rw [Lib.decDigits]
  by_cases h : u < 10
  ·rw [dif_pos h]; simp
  ·rw [dif_neg h, List.length_append]
   have := ih (u / 10) (by omega)
   simp only [List.length_cons, List.length_nil]
   omega
theorem itoa_len (n : Int) : (Lib.itoa n).length ≤ n.natAbs + 2 := by
 unfold Lib.itoa
 by_cases h : n < 0
 ·rw [if_pos h, List.length_cons]
  have := dec_len n.natAbs
  omega
 ·rw [if_neg h]
  have := dec_len n.toNat
  omega
theorem specDigits_ev (n : Nat) (hn : n ≤ 2000000000000) : Ev (fun k => spec_l2Digits.f k (n : Int)) (ba (Lib.decDigits n)) := by
 induction n using Nat.strongRecOn with
 | _ n ih =>
  refine Ev.up ?_
  simp only [spec_l2Digits.f]
  rw [Lib.decDigits]
  by_cases h : n < 10
  ·rw [dif_pos h]
   refine Ev.pos (by omega) (Ev.const ?_)
   have e : ((48 + (n : Int)) % 256).toNat = 48 + n := by omega
   rw [w64 (by omega) (by omega), ba_one _ (by omega) (by omega), e]
  ·rw [dif_neg h]
   have e1 : Int.tdiv (n : Int) 10 = ((n / 10 : Nat) : Int) := by rw [Int.tdiv_eq_ediv_of_nonneg (by omega)]; omega
   have e2 : Int.tmod (n : Int) 10 = ((n % 10 : Nat) : Int) := by rw [Int.tmod_eq_emod_of_nonneg (by omega)]; omega
   have hl := dec_len (n / 10)
   have w1 : wrap64 ((n / 10 : Nat) : Int) = ((n / 10 : Nat) : Int) := w64 (by omega) (by omega)
   have w2 : wrap64 (48 + ((n % 10 : Nat) : Int)) = 48 + ((n % 10 : Nat) : Int) := w64 (by omega) (by omega)
   simp only [e1, e2, w1, w2]
   refine Ev.neg (by omega) (Ev.then (ih (n / 10) (by omega) (by omega)) ?_)
   have e3 : ((48 + ((n % 10 : Nat) : Int)) % 256).toNat = 48 + n % 10 := by omega
   have e4 : strOfNums [(48 + ((n % 10 : Nat) : Int)) % 256] = ba [UInt8.ofNat (48 + n % 10)] := by rw [ba_one _ (by omega) (by omega), e3]
   simp only [Option.bind_some, e4]
   refine Ev.pos (by simp only [ba_size, List.length_cons, List.length_nil]; omega) (Ev.const ?_)
   rw [ba_app]
theorem specDecimal_ev (n : Int) (h0 : -1000000000000 ≤ n) (h1 : n ≤ 1000000000000) : Ev (fun k => spec_l2Decimal.f k n) (ba (Lib.itoa n)) := by
 unfold spec_l2Decimal.f Lib.itoa
 by_cases h : n < 0
 ·rw [if_pos h]
  have e : wrap64 (-n) = ((n.natAbs : Nat) : Int) := by rw [w64 (by omega) (by omega)]; omega
  have hl := dec_len n.natAbs
  rw [e]
  refine Ev.pos h (Ev.then (specDigits_ev n.natAbs (by omega)) (Ev.pos (by rw [ba_size]; omega) (Ev.const ?_)))
  exact congrArg some (ba_app [45] _)
 ·rw [if_neg h]
  have e : n = ((n.toNat : Nat) : Int) := by omega
  refine Ev.neg h ?_
  have := specDigits_ev n.toNat (by omega)
  rw [← e] at this
  exact Ev.then this (Ev.const rfl)
theorem dec_eq (n : Int) (h0 : -1000000000000 ≤ n) (h1 : n ≤ 1000000000000) : impl_decimal.f n = some (ba (Lib.itoa n)) := by
 unfold impl_decimal.f
 rw [if_pos ⟨by omega, by omega⟩]; rfl
theorem dataL (l : List (List UInt8)) : (l.map ba).map (fun b => b.data.toList) = l := by
 rw [List.map_map]
 exact (List.map_congr_left (fun x _ => by simp [ba])).trans (List.map_id l)
/-- Every word with a blank ahead. -/
def spT (ws : List (List UInt8)) : List UInt8 := (ws.map fun w => (32 : UInt8) :: w).flatten
theorem spT_cons (w : List UInt8) (ws : List (List UInt8)) : spT (w :: ws) = 32 :: w ++ spT ws := by simp [spT]
theorem spT_app (a b : List (List UInt8)) : spT (a ++ b) = spT a ++ spT b := by simp [spT]
theorem spT_nil : spT [] = [] := rfl
theorem spT_len : ∀ (ws : List (List UInt8)) , (∀ w ∈ ws, w.length ≤ 1000000000002) → (spT ws).length ≤ ws.length * 1000000000003
 | [], _ => by simp [spT]
 | w :: ws, h => by
  have ih := spT_len ws (fun x hx => h x (List.mem_cons_of_mem _ hx))
  have hc := h w (List.mem_cons_self ..)
  rw [spT_cons, List.length_append, List.length_cons, List.length_cons]
  omega
theorem itoas_len {cs : List Int} (h : ∀ c ∈ cs, -1000000000000 ≤ c ∧ c ≤ 1000000000000) : ∀ w ∈ cs.map Lib.itoa, w.length ≤ 1000000000002 := by
 intro w hw
 obtain ⟨c, hc, rfl⟩ := List.mem_map.1 hw
 have := itoa_len c
 have := h c hc
 omega
theorem joinTail_sp (ws : List (List UInt8)) : Lib.joinTail [32] ws = spT ws := by
 unfold Lib.joinTail spT
 rfl
theorem join_sp (w : List UInt8) (ws : List (List UInt8)) : Lib.join (w :: ws) [32] = w ++ spT ws := by
 rw [Lib.join_cons, joinTail_sp]
def namesB : List (List UInt8) := [[], [105, 110, 112, 117, 116], [102, 105, 108, 116, 101, 114], [112, 114, 111, 106, 101, 99, 116], [117, 110, 105, 111, 110], [110, 101, 103, 97, 116, 101], [106, 111, 105, 110], [99, 111, 117, 110, 116], [115, 117, 109], [108, 101, 97, 115, 116], [109, 111, 115, 116], [100, 105, 115, 116, 105, 110, 99, 116], [118, 105, 101, 119]]
def nameB (a : Int) : List UInt8 := namesB.getD a.toNat []
def signB (a : Int) : List UInt8 := if a = 0 then [61] else if a = 1 then [60] else [62]
def restW (x : S35) : List (List UInt8) :=
 if x.f0 = 2 then [Lib.itoa x.f3, signB x.f4, Lib.itoa x.f5] else if x.f0 = 3 then x.f6.map Lib.itoa else if x.f0 = 1 ∨ x.f0 = 6 ∨ (7 ≤ x.f0 ∧ x.f0 ≤ 10) then [Lib.itoa x.f3] else []
def argsW (x : S35) : List (List UInt8) := (readsL x).map Lib.itoa ++ restW x
def lineT (x : S35) : List UInt8 := nameB x.f0 ++ spT (argsW x)
def planT : List S35 → List UInt8
 | [] => []
 | x :: xs => lineT x ++ [10] ++ planT xs
/-- What a node of a plan without fault says lies near. -/
def NodeOk (x : S35) : Prop := (1 ≤ x.f0 ∧ x.f0 ≤ 12) ∧ (∀ c ∈ readsL x, 0 ≤ c ∧ c ≤ 8) ∧ (x.f0 = 1 ∨ x.f0 = 2 ∨ x.f0 = 6 ∨ (7 ≤ x.f0 ∧ x.f0 ≤ 10) → 0 ≤ x.f3 ∧ x.f3 ≤ 8) ∧ (x.f0 = 2 → 0 ≤ x.f4 ∧ x.f4 ≤ 2 ∧ -1000000000 ≤ x.f5 ∧ x.f5 ≤ 1000000000) ∧ (x.f0 = 3 → x.f6.length ≤ 4 ∧ ∀ c ∈ x.f6, 0 ≤ c ∧ c ≤ 8)
theorem nodeOk_of {plan : List S35} (hn : plan.length ≤ 8) (hg : GoodN plan plan.length) {i : Nat} (hi : i < plan.length) : NodeOk (rd_T35 plan (i : Int)) := by
 obtain ⟨h1, h2, h3, h4⟩ := codeN_parts (hg i hi)
 have hgi : GoodN plan i := fun j hj => hg j (by omega)
 have hr : ∀ c ∈ readsL (rd_T35 plan (i : Int)), 0 ≤ c ∧ c ≤ 8 := by
  intro c hc
  obtain ⟨a, e, ha, _⟩ := readOk_in (List.all_eq_true.1 h3 c hc)
  omega
 have hw : ¬ (rd_T35 plan (i : Int)).f0 = 1 → 1 ≤ rd (wsN plan i) (rd_T35 plan (i : Int)).f1 ∧ rd (wsN plan i) (rd_T35 plan (i : Int)).f1 ≤ 4 := by
  intro e
  obtain ⟨a, ea, ha, _⟩ := reads_a h3 e
  have := rd_in hgi ha
  rw [← ea]
  omega
 have hw2 : (rd_T35 plan (i : Int)).f0 = 4 ∨ (rd_T35 plan (i : Int)).f0 = 6 → 1 ≤ rd (wsN plan i) (rd_T35 plan (i : Int)).f2 ∧ rd (wsN plan i) (rd_T35 plan (i : Int)).f2 ≤ 4 := by
  intro e
  obtain ⟨a, ea, ha, _⟩ := reads_b h3 e
  have := rd_in hgi ha
  rw [← ea]
  omega
 generalize rd_T35 plan (i : Int) = x at *
 refine ⟨h1, hr, ?_, ?_, ?_⟩
 ·intro e
  unfold faultW at h4
  by_cases e1 : x.f0 = 1
  ·rw [if_pos e1] at h4
   split at h4 <;> omega
  ·have q := hw e1
   rw [if_neg e1] at h4
   by_cases e2 : x.f0 = 2
   ·rw [if_pos e2] at h4
    split at h4 <;> omega
   ·rw [if_neg e2, if_neg (by omega), if_neg (by omega)] at h4
    by_cases e6 : x.f0 = 6
    ·have q2 := hw2 (.inr e6)
     rw [if_pos e6] at h4
     split at h4 <;> omega
    ·rw [if_neg e6] at h4
     by_cases e7 : x.f0 = 7
     ·rw [if_pos e7] at h4
      split at h4 <;> omega
     ·rw [if_neg e7, if_pos (by omega)] at h4
      split at h4 <;> omega
 ·intro e
  unfold faultW at h4
  rw [if_neg (by omega), if_pos e] at h4
  by_cases q : 0 ≤ x.f3 ∧ x.f3 ≤ rd (wsN plan i) x.f1 - 1
  ·rw [if_pos q] at h4
   by_cases q2 : 0 ≤ x.f4 ∧ x.f4 ≤ 2
   ·rw [if_pos q2] at h4
    split at h4 <;> omega
   ·rw [if_neg q2] at h4; omega
  ·rw [if_neg q] at h4; omega
 ·intro e
  have q := hw (by omega)
  unfold faultW at h4
  rw [if_neg (by omega), if_neg (by omega), if_pos e] at h4
  by_cases q1 : 1 ≤ (x.f6.length : Int) ∧ (x.f6.length : Int) ≤ 4
  ·rw [if_pos q1] at h4
   by_cases q2 : x.f6.all (cellOk (rd (wsN plan i) x.f1)) = true
   ·refine ⟨by omega, fun c hc => ?_⟩
    have := List.all_eq_true.1 q2 c hc
    simp only [cellOk, decide_eq_true_eq] at this
    omega
   ·rw [if_neg q2] at h4; omega
  ·rw [if_neg q1] at h4; omega
theorem reads_len (x : S35) : (readsL x).length ≤ 2 := by
 unfold readsL
 split
 ·simp
 ·split <;> simp
theorem readsW {x : S35} (h : NodeOk x) : ∀ c ∈ readsL x, -1000000000000 ≤ c ∧ c ≤ 1000000000000 := fun c hc => by have := h.2.1 c hc; omega
theorem restW_len {x : S35} (h : NodeOk x) : (restW x).length ≤ 4 ∧ ∀ w ∈ restW x, w.length ≤ 1000000000002 := by
 obtain ⟨h1, h2, h3, h4, h5⟩ := h
 unfold restW
 by_cases e2 : x.f0 = 2
 ·rw [if_pos e2]
  have := h3 (.inr (.inl e2))
  have := h4 e2
  have := itoa_len x.f3
  have := itoa_len x.f5
  refine ⟨by simp, fun w hw => ?_⟩
  simp only [List.mem_cons, List.not_mem_nil, or_false] at hw
  rcases hw with rfl | rfl | rfl
  ·omega
  ·unfold signB
   split
   ·simp
   ·split <;> simp
  ·omega
 ·rw [if_neg e2]
  by_cases e3 : x.f0 = 3
  ·rw [if_pos e3]
   obtain ⟨q1, q2⟩ := h5 e3
   exact ⟨by rw [List.length_map]; exact q1, itoas_len (fun c hc => by have := q2 c hc; omega)⟩
  ·rw [if_neg e3]
   by_cases e : x.f0 = 1 ∨ x.f0 = 6 ∨ (7 ≤ x.f0 ∧ x.f0 ≤ 10)
   ·rw [if_pos e]
    have := h3 (by omega)
    have := itoa_len x.f3
    refine ⟨by simp, fun w hw => ?_⟩
    simp only [List.mem_cons, List.not_mem_nil, or_false] at hw
    rw [hw]; omega
   ·rw [if_neg e]
    exact ⟨by simp, fun w hw => absurd hw (by simp)⟩
theorem nameB_len (a : Int) : (nameB a).length ≤ 8 := by
 unfold nameB
 rw [List.getD_eq_getElem?_getD]
 have q : ∀ w ∈ namesB, w.length ≤ 8 := by decide
 cases e : namesB[a.toNat]? with
 | none => simp
 | some w => exact q w (List.mem_of_getElem? e)
theorem argsW_len {x : S35} (h : NodeOk x) : (argsW x).length ≤ 6 ∧ ∀ w ∈ argsW x, w.length ≤ 1000000000002 := by
 obtain ⟨q1, q2⟩ := restW_len h
 have q3 := reads_len x
 have q4 := itoas_len (readsW h)
 unfold argsW
 refine ⟨by rw [List.length_append, List.length_map]; omega, fun w hw => ?_⟩
 rcases List.mem_append.1 hw with hw | hw
 ·exact q4 w hw
 ·exact q2 w hw
theorem lineT_len {x : S35} (h : NodeOk x) : (lineT x).length ≤ 10000000000000 := by
 obtain ⟨q1, q2⟩ := argsW_len h
 have := spT_len _ q2
 have := nameB_len x.f0
 unfold lineT
 rw [List.length_append]
 omega
theorem planT_len : ∀ (l : List S35), (∀ x ∈ l, NodeOk x) → (planT l).length ≤ l.length * 10000000000001
 | [], _ => by simp [planT]
 | x :: xs, h => by
  have ih := planT_len xs (fun y hy => h y (List.mem_cons_of_mem _ hy))
  have := lineT_len (h x (List.mem_cons_self ..))
  unfold planT
  rw [List.length_append, List.length_append, List.length_cons, List.length_cons, List.length_nil]
  omega
theorem specLine_l0 (cs : List Int) (hb : ∀ c ∈ cs, -1000000000000 ≤ c ∧ c ≤ 1000000000000) (hn : cs.length ≤ 1000000) : ∀ (d i : Nat) (acc : List UInt8), i + d = cs.length → acc.length + (spT ((cs.drop i).map Lib.itoa)).length ≤ 4000000000000000000 → Ev (fun k => spec_l3Line.l0 k (ba acc) cs (i : Int)) (ba (acc ++ spT ((cs.drop i).map Lib.itoa))) := by
 intro d
 induction d with
 | zero =>
  intro i acc hd _
  refine Ev.up ?_
  simp only [spec_l3Line.l0]
  refine Ev.neg (by omega) (Ev.const ?_)
  rw [List.drop_eq_nil_of_le (by omega)]
  simp [spT]
 | succ d ih =>
  intro i acc hd hl
  have hi : i < cs.length := by omega
  have hc := hb _ (List.getElem_mem hi)
  rw [List.drop_eq_getElem_cons hi, List.map_cons, spT_cons] at hl ⊢
  simp only [List.length_append, List.length_cons] at hl
  refine Ev.up ?_
  simp only [spec_l3Line.l0, rd_at hi]
  refine Ev.pos (by omega) (Ev.pos (by rw [ba_size]; omega) (Ev.pos (by omega) (Ev.then (specDecimal_ev _ hc.1 hc.2) ?_)))
  have e2 : ba acc ++ (⟨#[32]⟩ : ByteArray) = ba (acc ++ [32]) := ba_app acc [32]
  simp only [e2, ba_app]
  refine Ev.pos (by simp only [ba_size, List.length_append, List.length_cons, List.length_nil]; omega) ?_
  rw [w64n (n := cs.length) (by omega) (by omega)]
  refine (ih (i + 1) _ (by omega) (by simp only [List.length_append, List.length_cons, List.length_nil]; omega)).eq ?_
  congr 1
  simp
theorem specLine_ev (acc : List UInt8) (cs : List Int) (hb : ∀ c ∈ cs, -1000000000000 ≤ c ∧ c ≤ 1000000000000) (hn : cs.length ≤ 1000000) (ha : acc.length ≤ 1000000000000000000) : Ev (fun k => spec_l3Line.f k (ba acc) cs) (ba (acc ++ spT (cs.map Lib.itoa))) := by
 unfold spec_l3Line.f
 have q := spT_len _ (itoas_len hb)
 rw [List.length_map] at q
 exact specLine_l0 cs hb hn cs.length 0 acc (by omega) (by rw [List.drop_zero]; omega)
theorem line1 (acc : List UInt8) (cs : List Int) (hb : ∀ c ∈ cs, -1000000000000 ≤ c ∧ c ≤ 1000000000000) (hn : cs.length ≤ 1000000) (ha : acc.length ≤ 1000000000000000000) {r : ByteArray} (hr : ba (acc ++ spT (cs.map Lib.itoa)) = r) : Ev (fun k => (spec_l3Line.f k (ba acc) cs).bind fun t => some t) r :=
 Ev.then (specLine_ev acc cs hb hn ha) (Ev.const (congrArg some hr))
theorem words_eq : spec_l3Words.f = some (namesB.map ba) := rfl
theorem words_len : ((namesB.map ba).length : Int) = 13 := rfl
theorem word_at {a : Int} (h : 1 ≤ a ∧ a ≤ 12) : rdOf ByteArray.empty (namesB.map ba) a = ba (nameB a) := by
 rcases op_cases h with rfl | rfl | rfl | rfl | rfl | rfl | rfl | rfl | rfl | rfl | rfl | rfl <;> rfl
theorem sign_eq {a : Int} (h : 0 ≤ a ∧ a ≤ 2) : (⟨#[61, 60, 62]⟩ : ByteArray).extract (a : Int).toNat ((wrap64 (a + 1)) : Int).toNat = ba (signB a) := by
 have : a = 0 ∨ a = 1 ∨ a = 2 := by omega
 have w : wrap64 (a + 1) = a + 1 := w64 (by omega) (by omega)
 rw [w]
 apply ByteArray.ext
 rw [ByteArray.data_extract]
 rcases this with rfl | rfl | rfl <;> simp [ba, signB]
theorem signB_len (a : Int) : (signB a).length = 1 := by
 unfold signB
 split
 ·rfl
 ·split <;> rfl
theorem specTextN_ev {x : S35} (h : NodeOk x) : Ev (fun k => spec_l3Text.f k x.f0 x.f1 x.f2 x.f3 x.f4 x.f5 x.f6) (ba (lineT x)) := by
 obtain ⟨h1, h2, h3, h4, h5⟩ := h
 have hn := nameB_len x.f0
 unfold spec_l3Text.f
 simp only [words_eq, Option.bind_some, words_len, word_at h1]
 refine Ev.pos (by omega) (Ev.pos (by omega) ?_)
 have r1 : ¬ x.f0 = 1 → 0 ≤ x.f1 ∧ x.f1 ≤ 8 := fun e => h2 _ (by unfold readsL; rw [if_neg e]; split <;> simp)
 have r2 : x.f0 = 4 ∨ x.f0 = 6 → 0 ≤ x.f2 ∧ x.f2 ≤ 8 := fun e => h2 _ (by unfold readsL; rw [if_neg (by omega), if_pos e]; simp)
 have j0 : ∀ b : Bool, ¬ x.f0 = 1 → ¬ x.f0 = 2 → ¬ x.f0 = 3 → ¬ x.f0 = 4 → ¬ x.f0 = 6 → b = decide (7 ≤ x.f0 ∧ x.f0 ≤ 10) → Ev (fun k => spec_l3Text.j0 k (ba (nameB x.f0)) b x.f0 x.f1 x.f2 x.f3 x.f4 x.f5 x.f6) (ba (lineT x)) := by
  intro b e1 e2 e3 e4 e6 eb
  have q1 := r1 e1
  refine Ev.up ?_
  simp only [spec_l3Text.j0]
  by_cases e : 7 ≤ x.f0 ∧ x.f0 ≤ 10
  ·have q3 := h3 (by omega)
   refine Ev.pos (by rw [eb]; exact decide_eq_true e) (line1 _ _ (fun c hc => ?_) (by simp) (by omega) ?_)
   ·simp only [List.mem_cons, List.not_mem_nil, or_false] at hc
    omega
   ·unfold lineT argsW restW readsL
    rw [if_neg e1, if_neg (by omega), if_neg e2, if_neg e3, if_pos (by omega)]
    rfl
  ·refine Ev.neg (by rw [eb]; simpa using e) (line1 _ _ (fun c hc => ?_) (by simp) (by omega) ?_)
   ·simp only [List.mem_cons, List.not_mem_nil, or_false] at hc
    omega
   ·unfold lineT argsW restW readsL
    rw [if_neg e1, if_neg (by omega), if_neg e2, if_neg e3, if_neg (by omega)]
    rfl
 refine Ev.ite (fun e1 => ?_) (fun e1 => ?_)
 ·have q3 := h3 (by omega)
  refine line1 _ _ (fun c hc => ?_) (by simp) (by omega) ?_
  ·simp only [List.mem_cons, List.not_mem_nil, or_false] at hc
   omega
  ·unfold lineT argsW restW readsL
   rw [if_pos e1, if_neg (by omega), if_neg (by omega), if_pos (by omega)]
   rfl
 have q1 := r1 e1
 refine Ev.ite (fun e2 => ?_) (fun e2 => ?_)
 ·have q3 := h3 (by omega)
  have q4 := h4 e2
  have i1 := itoa_len x.f1
  have i3 := itoa_len x.f3
  refine Ev.then (specLine_ev _ _ (fun c hc => ?_) (by simp) (by omega)) ?_
  ·simp only [List.mem_cons, List.not_mem_nil, or_false] at hc
   omega
  have w4 : wrap64 (x.f4 + 1) = x.f4 + 1 := w64 (by omega) (by omega)
  have se := sign_eq (a := x.f4) (by omega)
  have sl := signB_len x.f4
  have sp2 : (spT ([x.f1, x.f3].map Lib.itoa)).length ≤ 3000000000000 := by
   simp only [List.map_cons, List.map_nil, spT_cons, spT_nil, List.length_append, List.length_cons, List.length_nil]
   omega
  have e2' : ba (nameB x.f0 ++ spT ([x.f1, x.f3].map Lib.itoa)) ++ (⟨#[32]⟩ : ByteArray) = ba (nameB x.f0 ++ spT ([x.f1, x.f3].map Lib.itoa) ++ [32]) := ba_app _ [32]
  simp only [se, e2', ba_app]
  refine Ev.pos (by simp only [ba_size, List.length_append]; omega) (Ev.pos (by omega) (Ev.pos (by omega) (Ev.pos (by omega) (Ev.pos (by simp only [ba_size, List.length_append, List.length_cons, List.length_nil]; omega) ?_))))
  refine line1 _ _ (fun c hc => ?_) (by simp) (by simp only [List.length_append, List.length_cons, List.length_nil]; omega) ?_
  ·simp only [List.mem_cons, List.not_mem_nil, or_false] at hc
   omega
  ·unfold lineT argsW restW readsL
   rw [if_neg e1, if_neg (by omega), if_pos e2]
   simp [spT]
 refine Ev.ite (fun e3 => ?_) (fun e3 => ?_)
 ·obtain ⟨q5, q6⟩ := h5 e3
  have i1 := itoa_len x.f1
  refine Ev.then (specLine_ev _ _ (fun c hc => ?_) (by simp) (by omega)) ?_
  ·simp only [List.mem_cons, List.not_mem_nil, or_false] at hc
   omega
  have sp1 : (spT ([x.f1].map Lib.itoa)).length ≤ 3000000000000 := by
   simp only [List.map_cons, List.map_nil, spT_cons, spT_nil, List.length_append, List.length_cons, List.length_nil]
   omega
  refine line1 _ _ (fun c hc => ?_) (by omega) (by simp only [List.length_append]; omega) ?_
  ·have := q6 c hc; omega
  ·unfold lineT argsW restW readsL
   rw [if_neg e1, if_neg (by omega), if_neg e2, if_pos e3, spT_app, List.append_assoc]
 refine Ev.ite (fun e4 => ?_) (fun e4 => ?_)
 ·have q2 := r2 (.inl e4)
  refine line1 _ _ (fun c hc => ?_) (by simp) (by omega) ?_
  ·simp only [List.mem_cons, List.not_mem_nil, or_false] at hc
   omega
  ·unfold lineT argsW restW readsL
   rw [if_neg e1, if_pos (by omega), if_neg e2, if_neg e3, if_neg (by omega)]
   rfl
 refine Ev.ite (fun e6 => ?_) (fun e6 => ?_)
 ·have q2 := r2 (.inr e6)
  have q3 := h3 (by omega)
  refine line1 _ _ (fun c hc => ?_) (by simp) (by omega) ?_
  ·simp only [List.mem_cons, List.not_mem_nil, or_false] at hc
   omega
  ·unfold lineT argsW restW readsL
   rw [if_neg e1, if_pos (by omega), if_neg e2, if_neg e3, if_pos (by omega)]
   rfl
 refine Ev.ite (fun e7 => ?_) (fun e7 => ?_)
 ·exact j0 _ e1 e2 e3 e4 e6 (by rw [e7]; rfl)
 refine Ev.ite (fun e8 => ?_) (fun e8 => ?_)
 ·exact j0 _ e1 e2 e3 e4 e6 (by rw [e8]; rfl)
 refine Ev.ite (fun e9 => ?_) (fun e9 => ?_)
 ·exact j0 _ e1 e2 e3 e4 e6 (by rw [e9]; rfl)
 ·refine j0 _ e1 e2 e3 e4 e6 ?_
  by_cases e10 : x.f0 = 10
  ·rw [e10]; rfl
  ·rw [show (x.f0 == 10) = false by simpa using e10]
   exact (decide_eq_false (by omega)).symm
def formatF (plan : List S35) : ByteArray := if planF plan = 0 then ba (planT plan) else ba []
theorem specFormat_l0 {plan : List S35} (hn : plan.length ≤ 8) (hg : GoodN plan plan.length) : ∀ (d i : Nat) (acc : List UInt8), i + d = plan.length → acc.length + (planT (plan.drop i)).length ≤ 4000000000000000000 → Ev (fun k => spec_FormatPlan.l0 k plan (ba acc) (i : Int)) (ba (acc ++ planT (plan.drop i))) := by
 intro d
 induction d with
 | zero =>
  intro i acc hd _
  refine Ev.up ?_
  simp only [spec_FormatPlan.l0]
  refine Ev.neg (by omega) (Ev.const ?_)
  rw [List.drop_eq_nil_of_le (by omega)]
  simp [planT]
 | succ d ih =>
  intro i acc hd hl
  rw [rdN_drop (xs := plan) (i := i) (by omega)] at hl ⊢
  unfold planT at hl ⊢
  simp only [List.length_append, List.length_cons, List.length_nil] at hl
  refine Ev.up ?_
  simp only [spec_FormatPlan.l0]
  refine Ev.pos (by omega) (Ev.pos (by omega) (Ev.then (specTextN_ev (nodeOk_of hn hg (by omega))) ?_))
  have e2 : ba acc ++ ba (lineT (rd_T35 plan (i : Int))) ++ (⟨#[10]⟩ : ByteArray) = ba (acc ++ lineT (rd_T35 plan (i : Int)) ++ [10]) := by rw [ba_app]; exact ba_app _ [10]
  rw [e2]
  simp only [ba_app]
  refine Ev.pos (by simp only [ba_size]; omega) (Ev.pos (by simp only [ba_size, List.length_append]; omega) ?_)
  rw [w64n (n := plan.length) (by omega) (by omega)]
  refine (ih (i + 1) _ (by omega) (by simp only [List.length_append, List.length_cons, List.length_nil]; omega)).eq ?_
  congr 1
  simp
theorem plan_all {plan : List S35} (hn : plan.length ≤ 8) (hg : GoodN plan plan.length) : ∀ x ∈ plan, NodeOk x := by
 intro x hx
 obtain ⟨i, hi, rfl⟩ := List.mem_iff_getElem.1 hx
 rw [← rdN_at hi]
 exact nodeOk_of hn hg hi
theorem specFormat_ev {plan : List S35} (hx : FineN plan) : Ev (fun k => spec_FormatPlan.f k plan) (formatF plan) := by
 unfold spec_FormatPlan.f formatF
 refine Ev.then (specPlan_ev hx) (Ev.ite2 (fun h => ?_) (fun _ => Ev.const rfl))
 obtain ⟨h1, hg⟩ := planF_good h
 have hl := planT_len plan (plan_all h1.2 hg)
 exact specFormat_l0 h1.2 hg plan.length 0 [] (by omega) (by simp only [List.length_nil, List.drop_zero]; omega)
theorem split_words : strings_Split.f (⟨#[105, 110, 112, 117, 116, 32, 102, 105, 108, 116, 101, 114, 32, 112, 114, 111, 106, 101, 99, 116, 32, 117, 110, 105, 111, 110, 32, 110, 101, 103, 97, 116, 101, 32, 106, 111, 105, 110, 32, 99, 111, 117, 110, 116, 32, 115, 117, 109, 32, 108, 101, 97, 115, 116, 32, 109, 111, 115, 116, 32, 100, 105, 115, 116, 105, 110, 99, 116, 32, 118, 105, 101, 119]⟩ : ByteArray) (⟨#[32]⟩ : ByteArray) = some ((namesB.drop 1).map ba) := by
 unfold strings_Split.f
 rw [if_pos ⟨by decide, by decide⟩]
 have e : ∀ l : List ByteArray, l = (l.map (·.data.toList)).map ba := by
  intro l
  rw [List.map_map]
  exact ((List.map_congr_left (fun x _ => by simp [ba])).trans (List.map_id l)).symm
 rw [e (Lib.splitB _ _ _ _), Lib.splitB_data]
 refine congrArg some (congrArg (List.map ba) ?_)
 kernel_rfl
theorem names1_len : (((namesB.drop 1).map ba).length : Int) = 12 := rfl
theorem name_at {a : Int} (h : 1 ≤ a ∧ a ≤ 12) : rdOf ByteArray.empty ((namesB.drop 1).map ba) (a - 1) = ba (nameB a) := by
 rcases op_cases h with rfl | rfl | rfl | rfl | rfl | rfl | rfl | rfl | rfl | rfl | rfl | rfl <;> rfl
theorem implWords_l1 (cs : List Int) (hb : ∀ c ∈ cs, -1000000000000 ≤ c ∧ c ≤ 1000000000000) (hn : cs.length ≤ 1000) : ∀ (d i : Nat) (acc : List (List UInt8)), i + d = cs.length → acc.length ≤ 1000 + i → Ev (fun k => impl_Node_wordsOf.l1 k (acc.map ba) cs (cs.length : Int) (i : Int)) ((acc ++ (cs.drop i).map Lib.itoa).map ba) := by
 intro d
 induction d with
 | zero =>
  intro i acc hd _
  refine Ev.up ?_
  simp only [impl_Node_wordsOf.l1]
  refine Ev.neg (by omega) (Ev.const ?_)
  rw [List.drop_eq_nil_of_le (by omega)]
  simp
 | succ d ih =>
  intro i acc hd hl
  have hi : i < cs.length := by omega
  have hc := hb _ (List.getElem_mem hi)
  rw [List.drop_eq_getElem_cons hi, List.map_cons]
  refine Ev.up ?_
  simp only [impl_Node_wordsOf.l1, rd_at hi]
  refine Ev.pos (by omega) (Ev.pos (by omega) (Ev.pos (by omega) (Ev.call (dec_eq _ hc.1 hc.2) (Ev.pos (by rw [List.length_map]; omega) ?_))))
  rw [w64n (n := cs.length) (by omega) (by omega)]
  have e : acc.map ba ++ [ba (Lib.itoa cs[i])] = (acc ++ [Lib.itoa cs[i]]).map ba := by rw [List.map_append]; rfl
  rw [e]
  refine (ih (i + 1) _ (by omega) (by rw [List.length_append]; simp only [List.length_cons, List.length_nil]; omega)).eq ?_
  congr 1
  simp
theorem implWords_j1 {x : S35} (h : NodeOk x) (acc : List (List UInt8)) (ha : acc.length ≤ 1000) (b : Bool) (hb : b = decide (x.f0 = 1 ∨ x.f0 = 6 ∨ (7 ≤ x.f0 ∧ x.f0 ≤ 10))) : Ev (fun k => impl_Node_wordsOf.j1 k (acc.map ba) x.f0 b x.f0 x.f1 x.f2 x.f3 x.f4 x.f5 x.f6) ((acc ++ restW x).map ba) := by
 obtain ⟨h1, h2, h3, h4, h5⟩ := h
 refine Ev.up ?_
 simp only [impl_Node_wordsOf.j1]
 unfold restW
 by_cases e : x.f0 = 1 ∨ x.f0 = 6 ∨ (7 ≤ x.f0 ∧ x.f0 ≤ 10)
 ·have q3 := h3 (by omega)
  rw [if_neg (by omega), if_neg (by omega), if_pos e]
  refine Ev.pos (by rw [hb]; exact decide_eq_true e) (Ev.call (dec_eq _ (by omega) (by omega)) (Ev.pos (by rw [List.length_map]; omega) (Ev.const ?_)))
  rw [List.map_append]; rfl
 ·refine Ev.neg (by rw [hb]; simpa using e) (Ev.ite (fun e2 => ?_) (fun e2 => ?_))
  ·have q3 := h3 (by omega)
   have q4 := h4 e2
   have w4 : wrap64 (x.f4 + 1) = x.f4 + 1 := w64 (by omega) (by omega)
   have se := sign_eq (a := x.f4) (by omega)
   rw [if_pos e2]
   refine Ev.call (dec_eq _ (by omega) (by omega)) (Ev.pos (by omega) (Ev.pos (by omega) (Ev.pos (by omega) (Ev.call (dec_eq _ (by omega) (by omega)) ?_))))
   simp only [se, Option.bind_some]
   refine Ev.pos (by rw [List.length_map]; simp only [List.length_cons, List.length_nil]; omega) (Ev.const ?_)
   rw [List.map_append]; rfl
  ·rw [if_neg e2]
   refine Ev.ite (fun e3 => ?_) (fun e3 => ?_)
   ·obtain ⟨q5, q6⟩ := h5 e3
    rw [if_pos e3]
    exact implWords_l1 x.f6 (fun c hc => by have := q6 c hc; omega) (by omega) x.f6.length 0 acc (by omega) (by omega)
   ·rw [if_neg e3, if_neg e]
    exact Ev.const (by simp)
theorem implWords_l0 {x : S35} (h : NodeOk x) (cs : List Int) (hb : ∀ c ∈ cs, -1000000000000 ≤ c ∧ c ≤ 1000000000000) (hn : cs.length ≤ 100) : ∀ (d i : Nat) (acc : List (List UInt8)), i + d = cs.length → acc.length ≤ 100 + i → Ev (fun k => impl_Node_wordsOf.l0 k (acc.map ba) cs (cs.length : Int) (i : Int) x.f0 x.f1 x.f2 x.f3 x.f4 x.f5 x.f6) ((acc ++ (cs.drop i).map Lib.itoa ++ restW x).map ba) := by
 intro d
 induction d with
 | zero =>
  intro i acc hd hl
  have h1 := h.1
  have J : ∀ b : Bool, b = decide (x.f0 = 1 ∨ x.f0 = 6 ∨ (7 ≤ x.f0 ∧ x.f0 ≤ 10)) → Ev (fun k => impl_Node_wordsOf.j1 k (acc.map ba) x.f0 b x.f0 x.f1 x.f2 x.f3 x.f4 x.f5 x.f6) ((acc ++ (cs.drop i).map Lib.itoa ++ restW x).map ba) := by
   intro b eb
   rw [List.drop_eq_nil_of_le (by omega), List.map_nil, List.append_nil]
   exact implWords_j1 h acc (by omega) b eb
  refine Ev.up ?_
  simp only [impl_Node_wordsOf.l0]
  refine Ev.neg (by omega) (Ev.ite (fun e => J _ (by rw [e]; rfl)) (fun e1 => Ev.ite (fun e => J _ (by rw [e]; rfl)) (fun e2 => Ev.ite (fun e => J _ (by rw [e]; rfl)) (fun e3 => Ev.ite (fun e => J _ (by rw [e]; rfl)) (fun e4 => Ev.ite (fun e => J _ (by rw [e]; rfl)) (fun e5 => J _ ?_))))))
  by_cases e10 : x.f0 = 10
  ·rw [e10]; rfl
  ·rw [show (x.f0 == 10) = false by simpa using e10]
   exact (decide_eq_false (by omega)).symm
 | succ d ih =>
  intro i acc hd hl
  have hi : i < cs.length := by omega
  have hc := hb _ (List.getElem_mem hi)
  rw [List.drop_eq_getElem_cons hi, List.map_cons]
  refine Ev.up ?_
  simp only [impl_Node_wordsOf.l0, rd_at hi]
  refine Ev.pos (by omega) (Ev.pos (by omega) (Ev.pos (by omega) (Ev.call (dec_eq _ hc.1 hc.2) (Ev.pos (by rw [List.length_map]; omega) ?_))))
  rw [w64n (n := cs.length) (by omega) (by omega)]
  have e : acc.map ba ++ [ba (Lib.itoa cs[i])] = (acc ++ [Lib.itoa cs[i]]).map ba := by rw [List.map_append]; rfl
  rw [e]
  refine (ih (i + 1) _ (by omega) (by rw [List.length_append]; simp only [List.length_cons, List.length_nil]; omega)).eq ?_
  congr 1
  simp
theorem implWords_ev {x : S35} (h : NodeOk x) : Ev (fun k => impl_Node_wordsOf.f k x.f0 x.f1 x.f2 x.f3 x.f4 x.f5 x.f6) ((nameB x.f0 :: argsW x).map ba) := by
 have h1 := h.1
 have w1 : wrap64 (x.f0 - 1) = x.f0 - 1 := w64 (by omega) (by omega)
 unfold impl_Node_wordsOf.f
 rw [split_words]
 simp only [Option.bind_some, w1, names1_len, name_at h1]
 refine Ev.pos (by omega) (Ev.pos (by omega) (Ev.call (implReads_eq x) ?_))
 refine (implWords_l0 h (readsL x) (readsW h) (by have := reads_len x; omega) (readsL x).length 0 [nameB x.f0] (by omega) (by simp)).eq ?_
 congr 1
theorem implFormat_l0 {plan : List S35} (hn : plan.length ≤ 8) (hg : GoodN plan plan.length) : ∀ (d i : Nat) (acc : List UInt8), i + d = plan.length → acc.length + (planT (plan.drop i)).length ≤ 4000000000000000000 → Ev (fun k => impl_formatPlan.l0 k (ba acc) plan (plan.length : Int) (i : Int)) (ba (acc ++ planT (plan.drop i))) := by
 intro d
 induction d with
 | zero =>
  intro i acc hd _
  refine Ev.up ?_
  simp only [impl_formatPlan.l0]
  refine Ev.neg (by omega) (Ev.const ?_)
  rw [List.drop_eq_nil_of_le (by omega)]
  simp [planT]
 | succ d ih =>
  intro i acc hd hl
  have hok := nodeOk_of hn hg (i := i) (by omega)
  have ha := argsW_len hok
  have hll := lineT_len hok
  rw [rdN_drop (xs := plan) (i := i) (by omega)] at hl ⊢
  unfold planT at hl ⊢
  simp only [List.length_append, List.length_cons, List.length_nil] at hl
  refine Ev.up ?_
  simp only [impl_formatPlan.l0]
  refine Ev.pos (by omega) (Ev.pos (by omega) (Ev.pos (by omega) (Ev.then (implWords_ev hok) ?_)))
  have ej : strings_Join.f ((nameB (rd_T35 plan (i : Int)).f0 :: argsW (rd_T35 plan (i : Int))).map ba) (⟨#[32]⟩ : ByteArray) = some (ba (lineT (rd_T35 plan (i : Int)))) := by
   have es : (⟨#[32]⟩ : ByteArray).data.toList = [32] := rfl
   unfold strings_Join.f
   rw [dataL, es, join_sp]
   rw [if_pos ⟨by rw [List.length_map, List.length_cons]; omega, by unfold lineT at hll; omega⟩]
   rfl
  refine Ev.call ej ?_
  have e3 : ba (lineT (rd_T35 plan (i : Int))) ++ (⟨#[10]⟩ : ByteArray) = ba (lineT (rd_T35 plan (i : Int)) ++ [10]) := ba_app _ [10]
  simp only [e3, ba_app]
  refine Ev.pos (by simp only [ba_size]; omega) (Ev.pos (by simp only [ba_size, List.length_append, List.length_cons, List.length_nil]; omega) ?_)
  rw [w64n (n := plan.length) (by omega) (by omega)]
  refine (ih (i + 1) _ (by omega) (by simp only [List.length_append, List.length_cons, List.length_nil]; omega)).eq ?_
  congr 1
  simp
theorem implFormat_ev {plan : List S35} (hx : FineN plan) : Ev (fun k => impl_FormatPlan.f k plan) (formatF plan) := by
 unfold impl_FormatPlan.f formatF
 refine Ev.then (implPlan_ev hx) (Ev.ite2 (fun h => ?_) (fun _ => Ev.const rfl))
 obtain ⟨h1, hg⟩ := planF_good h
 have hl := planT_len plan (plan_all h1.2 hg)
 have F : Ev (fun k => impl_formatPlan.f k plan) (ba (planT plan)) := by
  unfold impl_formatPlan.f
  exact implFormat_l0 h1.2 hg plan.length 0 [] (by omega) (by simp only [List.length_nil, List.drop_zero]; omega)
 exact Ev.then F (Ev.const rfl)
theorem FnExactFormatPlan : laws_FnExactFormatPlan.Pure := by
 intro l hl _
 refine Ev.ex ?_
 unfold laws_FnExactFormatPlan.f
 obtain ⟨hz, hin⟩ := inputN_of hl (t := 1048576) (by omega) (by omega)
 refine Ev.then hz (Ev.ite (fun _ => Ev.const rfl) (fun h => ?_))
 obtain ⟨_, _, hx, ht⟩ := hin h
 refine Ev.then ht (Ev.then (specFormat_ev hx) (Ev.then ht (Ev.then (implFormat_ev hx) ?_)))
 refine Ev.pos rfl (Ev.then ht (Ev.then (eqNodeS_refl _ hx.n hx.r) ?_))
 exact Ev.const rfl

end Go.Proofs.YteibdjkfkcckkaaDoor.Pure
