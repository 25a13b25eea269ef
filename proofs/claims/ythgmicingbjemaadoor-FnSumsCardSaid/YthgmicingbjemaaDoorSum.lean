/- The plain law of putting entries together: the entries of each row summed, in the order of the rows; in whatever order they come. No program in sight. -/
import Derived.Test.YthgmicingbjemaaDoorWWords
namespace Go.Proofs.YthgmicingbjemaaDoor.Sum
open Go.RowKit

/-- Rows compared, cell by cell, then by how many there are. -/
def cmpR : List Int → List Int → Int
  | [], [] => 0
  | [], _ :: _ => -1
  | _ :: _, [] => 1
  | x :: xs, y :: ys => if x < y then -1 else if y < x then 1 else cmpR xs ys

theorem cmpR_cases : ∀ a b, cmpR a b = -1 ∨ cmpR a b = 0 ∨ cmpR a b = 1
  | [], [] => .inr (.inl rfl)
  | [], _ :: _ => .inl rfl
  | _ :: _, [] => .inr (.inr rfl)
  | x :: xs, y :: ys => by
    unfold cmpR
    split
    · exact .inl rfl
    · split
      · exact .inr (.inr rfl)
      · exact cmpR_cases xs ys
theorem cmpR_self : ∀ a, cmpR a a = 0
  | [] => rfl
  | x :: xs => by unfold cmpR; rw [if_neg (by omega), if_neg (by omega)]; exact cmpR_self xs
theorem cmpR_eq : ∀ {a b}, cmpR a b = 0 → a = b
  | [], [], _ => rfl
  | [], _ :: _, h => by simp [cmpR] at h
  | _ :: _, [], h => by simp [cmpR] at h
  | x :: xs, y :: ys, h => by
    unfold cmpR at h
    split at h
    · cases h
    · split at h
      · cases h
      · rw [cmpR_eq h, show x = y by omega]
theorem cmpR_zero {a b : List Int} : cmpR a b = 0 ↔ a = b := ⟨cmpR_eq, fun h => by rw [h]; exact cmpR_self b⟩
theorem cmpR_swap : ∀ a b, cmpR b a = - cmpR a b
  | [], [] => rfl
  | [], _ :: _ => rfl
  | _ :: _, [] => rfl
  | x :: xs, y :: ys => by
    unfold cmpR
    by_cases h1 : x < y
    · rw [if_pos h1, if_neg (by omega), if_pos h1]; rfl
    · by_cases h2 : y < x
      · rw [if_pos h2, if_neg h1, if_pos h2]
      · rw [if_neg h2, if_neg h1, if_neg h1, if_neg h2]; exact cmpR_swap xs ys
theorem cmpR_trans : ∀ {a b c}, cmpR a b < 0 → cmpR b c < 0 → cmpR a c < 0
  | [], [], _, h1, _ => by simp [cmpR] at h1
  | [], _ :: _, [], _, h2 => by simp [cmpR] at h2
  | [], _ :: _, _ :: _, _, _ => by simp [cmpR]
  | _ :: _, [], _, h1, _ => by simp [cmpR] at h1
  | _ :: _, _ :: _, [], _, h2 => by simp [cmpR] at h2
  | x :: xs, y :: ys, z :: zs, h1, h2 => by
    unfold cmpR at h1 h2 ⊢
    by_cases a1 : x < y
    · by_cases b1 : y < z
      · rw [if_pos (by omega)]; decide
      · by_cases b2 : z < y
        · rw [if_neg b1, if_pos b2] at h2; exact absurd h2 (by decide)
        · rw [if_pos (by omega)]; decide
    · by_cases a2 : y < x
      · rw [if_neg a1, if_pos a2] at h1; exact absurd h1 (by decide)
      · rw [if_neg a1, if_neg a2] at h1
        by_cases b1 : y < z
        · rw [if_pos (by omega)]; decide
        · by_cases b2 : z < y
          · rw [if_neg b1, if_pos b2] at h2; exact absurd h2 (by decide)
          · rw [if_neg b1, if_neg b2] at h2
            rw [if_neg (by omega), if_neg (by omega)]
            exact cmpR_trans h1 h2
theorem cmpR_pos {a b : List Int} (h : ¬ cmpR a b < 0) (h0 : cmpR a b ≠ 0) : cmpR b a < 0 := by
  have := cmpR_swap a b
  rcases cmpR_cases a b with e | e | e <;> omega
theorem cmpR_irr {a b : List Int} (h : cmpR a b < 0) : a ≠ b := fun e => by rw [e, cmpR_self] at h; omega
theorem cmpR_asym {a b : List Int} (h : cmpR a b < 0) : ¬ cmpR b a < 0 := by have := cmpR_swap a b; omega

/-- A row and its weight. -/
abbrev En := List Int × Int

/-- An entry put into a list in order. -/
def put : List En → En → List En
  | [], e => [e]
  | x :: xs, e => if cmpR x.1 e.1 < 0 then x :: put xs e else if cmpR x.1 e.1 = 0 then (x.1, wrap64 (x.2 + e.2)) :: xs else e :: x :: xs
def total (l : List En) : List En := l.foldl put []
/-- What is told of the rows put together: the set, and a code. -/
def finish (s : List En) : List En × Int :=
  if s.any (fun e => !(decide (-1000000000000 ≤ e.2) && decide (e.2 ≤ 1000000000000))) = true then ([], 8)
  else if 200 < (s.filter (fun e => decide (e.2 ≠ 0))).length then ([], 2) else (s.filter (fun e => decide (e.2 ≠ 0)), 0)
def sumSet (l : List En) : List En × Int := finish (total l)

/-- In order, each row once. -/
def Asc (s : List En) : Prop := s.Pairwise (fun x y => cmpR x.1 y.1 < 0)
/-- The weight of a row. -/
def get (s : List En) (r : List Int) : Option Int := match s with
  | [] => none
  | x :: xs => if x.1 = r then some x.2 else get xs r
def addO (o : Option Int) (w : Int) : Option Int := some (match o with | none => w | some v => wrap64 (v + w))

theorem get_none_of {s : List En} {r : List Int} (h : ∀ x ∈ s, x.1 ≠ r) : get s r = none := by
  induction s with
  | nil => rfl
  | cons x xs ih =>
    unfold get
    rw [if_neg (h x (List.mem_cons_self ..))]
    exact ih (fun y hy => h y (List.mem_cons_of_mem _ hy))
theorem get_mem {s : List En} {r : List Int} {v : Int} (h : get s r = some v) : (r, v) ∈ s := by
  induction s with
  | nil => simp [get] at h
  | cons x xs ih =>
    unfold get at h
    split at h
    · rename_i e
      cases h
      rw [← e]
      exact List.mem_cons_self ..
    · exact List.mem_cons_of_mem _ (ih h)
theorem get_of_mem {s : List En} (hs : Asc s) {e : En} (h : e ∈ s) : get s e.1 = some e.2 := by
  induction s with
  | nil => cases h
  | cons x xs ih =>
    obtain ⟨hx, hxs⟩ := List.pairwise_cons.mp hs
    unfold get
    rcases List.mem_cons.mp h with rfl | h
    · rw [if_pos rfl]
    · rw [if_neg (cmpR_irr (hx e h))]
      exact ih hxs h

theorem put_rows {s : List En} {e x : En} (h : x ∈ put s e) : x.1 = e.1 ∨ ∃ y ∈ s, y.1 = x.1 := by
  induction s with
  | nil => unfold put at h; exact .inl (by rw [List.mem_singleton.mp h])
  | cons y ys ih =>
    unfold put at h
    split at h
    · rcases List.mem_cons.mp h with rfl | h
      · exact .inr ⟨x, List.mem_cons_self .., rfl⟩
      · rcases ih h with h | ⟨q, hq, h⟩
        · exact .inl h
        · exact .inr ⟨q, List.mem_cons_of_mem _ hq, h⟩
    · split at h
      · rcases List.mem_cons.mp h with rfl | h
        · exact .inr ⟨y, List.mem_cons_self .., rfl⟩
        · exact .inr ⟨x, List.mem_cons_of_mem _ h, rfl⟩
      · rcases List.mem_cons.mp h with rfl | h
        · exact .inl rfl
        · exact .inr ⟨x, h, rfl⟩
theorem put_asc {s : List En} (hs : Asc s) (e : En) : Asc (put s e) := by
  induction s with
  | nil => exact List.pairwise_singleton ..
  | cons x xs ih =>
    obtain ⟨hx, hxs⟩ := List.pairwise_cons.mp hs
    unfold put
    split
    · rename_i h
      refine List.pairwise_cons.mpr ⟨fun y hy => ?_, ih hxs⟩
      rcases put_rows hy with h2 | ⟨q, hq, h2⟩
      · rw [h2]; exact h
      · rw [← h2]; exact hx q hq
    · split
      · exact List.pairwise_cons.mpr ⟨hx, hxs⟩
      · rename_i h1 h2
        have h3 := cmpR_pos h1 h2
        refine List.pairwise_cons.mpr ⟨fun y hy => ?_, hs⟩
        rcases List.mem_cons.mp hy with rfl | hy
        · exact h3
        · exact cmpR_trans h3 (hx y hy)
theorem get_put {s : List En} (hs : Asc s) (e : En) (r : List Int) : get (put s e) r = if e.1 = r then addO (get s r) e.2 else get s r := by
  induction s with
  | nil =>
    unfold put
    by_cases h : e.1 = r
    · simp [get, h, addO]
    · simp [get, h]
  | cons x xs ih =>
    obtain ⟨hx, hxs⟩ := List.pairwise_cons.mp hs
    unfold put
    split
    · rename_i h
      have hne := cmpR_irr h
      unfold get
      by_cases hr : x.1 = r
      · rw [if_pos hr, if_pos hr, if_neg (fun h2 => hne (hr.trans h2.symm))]
      · rw [if_neg hr, if_neg hr]
        exact ih hxs
    · split
      · rename_i h1 h2
        have he := cmpR_eq h2
        unfold get
        by_cases hr : x.1 = r
        · rw [if_pos hr, if_pos (he.symm.trans hr), if_pos hr]; rfl
        · rw [if_neg hr, if_neg (fun h => hr (he.trans h)), if_neg hr]
      · rename_i h1 h2
        have h3 := cmpR_pos h1 h2
        by_cases hr : e.1 = r
        · rw [if_pos hr]
          have hn : get (x :: xs) r = none := get_none_of (fun y hy => by
            rw [← hr]
            rcases List.mem_cons.mp hy with rfl | hy
            · exact (cmpR_irr h3).symm
            · exact (cmpR_irr (cmpR_trans h3 (hx y hy))).symm)
          rw [hn]
          show (if e.1 = r then some e.2 else _) = _
          rw [if_pos hr]; rfl
        · rw [if_neg hr]
          show (if e.1 = r then some e.2 else _) = _
          rw [if_neg hr]
/-- Two lists in order that tell the same weights are one. -/
theorem asc_ext {s t : List En} (hs : Asc s) (ht : Asc t) (h : ∀ r, get s r = get t r) : s = t := by
  induction s generalizing t with
  | nil =>
    cases t with
    | nil => rfl
    | cons y ys => have := h y.1; simp [get] at this
  | cons x xs ih =>
    cases t with
    | nil => have := h x.1; simp [get] at this
    | cons y ys =>
      obtain ⟨hx, hxs⟩ := List.pairwise_cons.mp hs
      obtain ⟨hy, hys⟩ := List.pairwise_cons.mp ht
      have m1 : (x.1, x.2) ∈ y :: ys := get_mem (by rw [← h x.1]; exact get_of_mem hs (List.mem_cons_self ..))
      have m2 : (y.1, y.2) ∈ x :: xs := get_mem (by rw [h y.1]; exact get_of_mem ht (List.mem_cons_self ..))
      have hxy : x = y := by
        rcases List.mem_cons.mp m1 with e | e
        · exact e
        · rcases List.mem_cons.mp m2 with e2 | e2
          · exact e2.symm
          · exact absurd (hx _ e2) (cmpR_asym (hy _ e))
      subst hxy
      refine congrArg _ (ih hxs hys (fun r => ?_))
      have h1 := h r
      unfold get at h1
      by_cases hr : x.1 = r
      · rw [get_none_of (s := xs) (fun q hq => by rw [← hr]; exact (cmpR_irr (hx q hq)).symm), get_none_of (s := ys) (fun q hq => by rw [← hr]; exact (cmpR_irr (hy q hq)).symm)]
      · rw [if_neg hr, if_neg hr] at h1
        exact h1

theorem fold_asc (l : List En) {s : List En} (hs : Asc s) : Asc (l.foldl put s) := by
  induction l generalizing s with
  | nil => exact hs
  | cons e l ih => exact ih (put_asc hs e)
theorem total_asc (l : List En) : Asc (total l) := fold_asc l List.Pairwise.nil
theorem get_fold (l : List En) {s : List En} (hs : Asc s) (r : List Int) : get (l.foldl put s) r = l.foldl (fun o e => if e.1 = r then addO o e.2 else o) (get s r) := by
  induction l generalizing s with
  | nil => rfl
  | cons e l ih => rw [List.foldl_cons, List.foldl_cons, ih (put_asc hs e), get_put hs]
theorem addO_comm (o : Option Int) (a b : Int) : addO (addO o a) b = addO (addO o b) a := by
  cases o with
  | none => simp only [addO]; congr 2; omega
  | some v =>
    simp only [addO]
    congr 1
    unfold wrap64
    omega
theorem total_perm {l l' : List En} (h : l.Perm l') : total l = total l' := by
  refine asc_ext (total_asc l) (total_asc l') (fun r => ?_)
  unfold total
  rw [get_fold l List.Pairwise.nil, get_fold l' List.Pairwise.nil]
  refine h.foldl_eq' (fun x _ y _ z => ?_) _
  by_cases h1 : x.1 = r
  · by_cases h2 : y.1 = r
    · simp only [h1, h2, if_true]; exact addO_comm ..
    · simp only [h1, h2, if_true, if_false]
  · by_cases h2 : y.1 = r
    · simp only [h1, h2, if_true, if_false]
    · simp only [h1, h2, if_false]

/-- What comes behind all. -/
theorem put_above {s : List En} {e : En} (h : ∀ x ∈ s, cmpR x.1 e.1 < 0) : put s e = s ++ [e] := by
  induction s with
  | nil => rfl
  | cons x xs ih =>
    unfold put
    rw [if_pos (h x (List.mem_cons_self ..)), ih (fun y hy => h y (List.mem_cons_of_mem _ hy))]
    rfl
theorem put_last {s : List En} {x e : En} (h : ∀ y ∈ s, cmpR y.1 e.1 < 0) (hx : x.1 = e.1) : put (s ++ [x]) e = s ++ [(x.1, wrap64 (x.2 + e.2))] := by
  induction s with
  | nil =>
    show put [x] e = _
    unfold put
    have h0 : cmpR x.1 e.1 = 0 := cmpR_zero.mpr hx
    rw [if_neg (by omega), if_pos h0]; rfl
  | cons y ys ih =>
    show put (y :: (ys ++ [x])) e = _
    unfold put
    rw [if_pos (h y (List.mem_cons_self ..)), ih (fun q hq => h q (List.mem_cons_of_mem _ hq))]
    rfl
theorem total_snoc (l : List En) (e : En) : total (l ++ [e]) = put (total l) e := by
  unfold total
  rw [List.foldl_append]; rfl
/-- The list is in order (rows may stand more than once): what the last row of the sum is. -/
def Rising (l : List En) : Prop := ∀ (i j : Nat) (x y : En), i < j → l[i]? = some x → l[j]? = some y → ¬ cmpR y.1 x.1 < 0
/-- The state of the loop that sums: what has been summed ends with the row that was met last. -/
structure Upto (l : List En) (i : Nat) (s : List En) : Prop where
  sum : s = total (l.take i)
  last : 0 < i → ∃ t w, ∃ x, l[i - 1]? = some x ∧ s = t ++ [(x.1, w)] ∧ ∀ y ∈ t, cmpR y.1 x.1 < 0
theorem Upto.zero (l : List En) : Upto l 0 [] := ⟨rfl, fun h => by omega⟩
theorem Upto.first {l : List En} {i : Nat} {s : List En} {e : En} (h : Upto l i s) (hl : Rising l) (he : l[i]? = some e) (hn : i = 0 ∨ ∃ x, l[i - 1]? = some x ∧ x.1 ≠ e.1) : Upto l (i + 1) (s ++ [(e.1, e.2)]) := by
  have hlt : i < l.length := by
    rcases Nat.lt_or_ge i l.length with h | h
    · exact h
    · rw [List.getElem?_eq_none h] at he; cases he
  have ht : l.take (i + 1) = l.take i ++ [e] := by
    rw [List.take_add_one, he]; rfl
  have hall : ∀ y ∈ s, cmpR y.1 e.1 < 0 := by
    rcases hn with rfl | ⟨x, hx, hne⟩
    · rw [h.sum]; intro y hy; cases hy
    · by_cases hi : i = 0
      · subst hi; rw [h.sum]; intro y hy; cases hy
      · obtain ⟨t, w, x', hx', hs, hlow⟩ := h.last (by omega)
        rw [hx] at hx'
        cases hx'
        have hr := hl (i - 1) i x e (by omega) hx he
        have h0 : cmpR e.1 x.1 ≠ 0 := fun h => hne (cmpR_eq h).symm
        have hxe : cmpR x.1 e.1 < 0 := cmpR_pos hr h0
        intro y hy
        rw [hs] at hy
        rcases List.mem_append.mp hy with hy | hy
        · exact cmpR_trans (hlow y hy) hxe
        · rw [List.mem_singleton.mp hy]; exact hxe
  refine ⟨?_, fun _ => ⟨s, e.2, e, by rw [Nat.add_sub_cancel]; exact he, rfl, hall⟩⟩
  rw [ht, total_snoc, ← h.sum, put_above hall]
theorem Upto.again {l : List En} {i : Nat} {s : List En} {e x : En} (h : Upto l i s) (hi : 0 < i) (he : l[i]? = some e) (hx : l[i - 1]? = some x) (hq : x.1 = e.1) : ∃ t w, s = t ++ [(e.1, w)] ∧ Upto l (i + 1) (t ++ [(e.1, wrap64 (w + e.2))]) := by
  have ht : l.take (i + 1) = l.take i ++ [e] := by
    rw [List.take_add_one, he]; rfl
  obtain ⟨t, w, x', hx', hs, hlow⟩ := h.last hi
  rw [hx] at hx'
  cases hx'
  rw [hq] at hs hlow
  refine ⟨t, w, hs, ?_, fun _ => ⟨t, wrap64 (w + e.2), e, by rw [Nat.add_sub_cancel]; exact he, rfl, hlow⟩⟩
  rw [ht, total_snoc, ← h.sum, hs, put_last (x := (e.1, w)) hlow rfl]
theorem Upto.done {l : List En} {s : List En} (h : Upto l l.length s) : s = total l := by
  have := h.sum
  rwa [List.take_length] at this
end Go.Proofs.YthgmicingbjemaaDoor.Sum
