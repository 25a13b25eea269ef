/- The law FnExactSameSets answers true for every two lists of entries. -/
import Derived.Test.YthnbghcfjkmpoaaKit
import Derived.Test.YthnbghcfjkmpoaaPFnExactSameSetsx3
namespace Go.Proofs.Ythnbghcfjkmpoaa.Pure
open Go.RowKit Go.Proofs.Ythnbghcfjkmpoaa.PFnExactSameSets Go.Proofs.YthnbghcfjkmpoaaW.PrintWords Go.Proofs.YthnbghcfjkmpoaaW.PrintLast Go.Proofs.Ythnbghcfjkmpoaa
set_option linter.unusedSimpArgs false
set_option linter.unusedVariables false

theorem w64n {i n : Nat} (h : i < n) (hn : n ≤ 9223372036854775807) : wrap64 ((i : Int) + 1) = ((i + 1 : Nat) : Int) := by
  rw [Kit.w64 (by omega) (by omega)]; rfl
theorem rd_drop {xs : List Int} {i : Nat} (h : i < xs.length) : xs.drop i = rd xs (i : Int) :: xs.drop (i + 1) := by
  rw [Kit.rd_at h]; exact List.drop_eq_getElem_cons h
theorem toInt64S_l0 (xs : List Int) (hn : xs.length ≤ 9223372036854775807) : ∀ (d i : Nat) (ys : List Int), i + d = xs.length → ys.length = xs.length → (∀ j, j < i → ys[j]? = xs[j]?) → Ev (fun k => laws_toInt64S.l0 k xs ys (i : Int)) xs := by
  intro d
  induction d with
  | zero =>
    intro i ys hd hl he
    refine Kit.Ev.up ?_
    simp only [laws_toInt64S.l0]
    refine Kit.Ev.neg (by omega) (Kit.Ev.const ?_)
    congr 1
    apply List.ext_getElem?
    intro j
    by_cases hj : j < i
    · exact he j hj
    · rw [List.getElem?_eq_none (by omega), List.getElem?_eq_none (by omega)]
  | succ d ih =>
    intro i ys hd hl he
    refine Kit.Ev.up ?_
    simp only [laws_toInt64S.l0]
    refine Kit.Ev.pos (by omega) (Kit.Ev.pos (by omega) (Kit.Ev.pos (by omega) ?_))
    rw [w64n (n := xs.length) (by omega) hn, Int.toNat_natCast]
    refine ih (i + 1) _ (by omega) (by simpa using hl) (fun j hj => ?_)
    rw [List.getElem?_set]
    by_cases e : i = j
    · subst e
      rw [if_pos rfl, if_pos (by omega), Kit.rd_at (by omega), List.getElem?_eq_getElem (by omega)]
    · rw [if_neg e]
      exact he j (by omega)
theorem toInt64S_ev (xs : List Int) (hn : xs.length ≤ 1048576) : Ev (fun k => laws_toInt64S.f k xs) xs := by
  unfold laws_toInt64S.f
  refine Kit.Ev.pos (by omega) (Kit.Ev.pos (by omega) ?_)
  exact toInt64S_l0 xs (by omega) xs.length 0 _ (by omega) (by simp) (fun j hj => by omega)
theorem eqInt64S_l0 (xs ys : List Int) (hn : xs.length ≤ 9223372036854775807) (hl : xs.length = ys.length) : ∀ (d i : Nat), i + d = xs.length → Ev (fun k => laws_eqInt64S.l0 k xs ys (i : Int)) (decide (xs.drop i = ys.drop i)) := by
  intro d
  induction d with
  | zero =>
    intro i hd
    refine Kit.Ev.up ?_
    simp only [laws_eqInt64S.l0]
    refine Kit.Ev.neg (by omega) (Kit.Ev.const ?_)
    rw [List.drop_eq_nil_of_le (by omega), List.drop_eq_nil_of_le (by omega)]; simp
  | succ d ih =>
    intro i hd
    refine Kit.Ev.up ?_
    simp only [laws_eqInt64S.l0]
    refine Kit.Ev.pos (by omega) (Kit.Ev.pos (by omega) (Kit.Ev.pos (by omega) ?_))
    rw [rd_drop (xs := xs) (i := i) (by omega), rd_drop (xs := ys) (i := i) (by omega), w64n (n := xs.length) (by omega) hn]
    refine Kit.Ev.ite (fun h => ?_) (fun h => Kit.Ev.const ?_)
    · exact (ih (i + 1) (by omega)).eq (by rw [h]; simp)
    · simp [h]
theorem eqInt64S_ev (xs ys : List Int) (hn : xs.length ≤ 9223372036854775807) : Ev (fun k => laws_eqInt64S.f k xs ys) (decide (xs = ys)) := by
  unfold laws_eqInt64S.f
  refine Kit.Ev.ite (fun h => ?_) (fun h => Kit.Ev.const ?_)
  · exact (eqInt64S_l0 xs ys hn (by omega) xs.length 0 (by omega)).eq (by simp)
  · have : xs ≠ ys := fun e => h (by rw [e])
    simp [this]
theorem eqInt64S_refl (xs : List Int) (hn : xs.length ≤ 9223372036854775807) : Ev (fun k => laws_eqInt64S.f k xs xs) true := (eqInt64S_ev xs xs hn).eq (by simp)
def cmpR : List Int → List Int → Int
  | [], [] => 0
  | [], _ :: _ => -1
  | _ :: _, [] => 1
  | a :: xs, b :: ys => if a < b then -1 else if b < a then 1 else cmpR xs ys
theorem cmpR_len : ∀ (xs ys : List Int), xs = [] ∨ ys = [] → cmpR xs ys = if xs.length < ys.length then -1 else if ys.length < xs.length then 1 else 0
  | [], [], _ => rfl
  | [], _ :: _, _ => by simp [cmpR]
  | _ :: _, [], _ => by simp [cmpR]
  | _ :: _, _ :: _, h => by simp at h
theorem specCmp_l0 (xs ys : List Int) (hn : xs.length ≤ 9223372036854775807) : ∀ (d i : Nat), i + d = min xs.length ys.length → Ev (fun k => spec_CompareRows.l0 k xs ys (i : Int)) (cmpR (xs.drop i) (ys.drop i)) := by
  intro d
  induction d with
  | zero =>
    intro i hd
    refine Kit.Ev.up (Kit.Ev.up ?_)
    simp only [spec_CompareRows.l0, spec_CompareRows.j1]
    have hend : Ev (fun _ : Nat => if (xs.length : Int) < (ys.length : Int) then some (-1 : Int) else if (xs.length : Int) > (ys.length : Int) then some 1 else some 0) (cmpR (xs.drop i) (ys.drop i)) := by
      refine Kit.Ev.const ?_
      rw [cmpR_len _ _ (by
        by_cases h : i = xs.length
        · exact .inl (List.drop_eq_nil_of_le (by omega))
        · exact .inr (List.drop_eq_nil_of_le (by omega)))]
      simp only [List.length_drop]
      by_cases h1 : xs.length < ys.length
      · rw [if_pos (by omega), if_pos (by omega)]
      · by_cases h2 : ys.length < xs.length
        · rw [if_neg (by omega), if_pos (by omega), if_neg (by omega), if_pos (by omega)]
        · rw [if_neg (by omega), if_neg (by omega), if_neg (by omega), if_neg (by omega)]
    refine Kit.Ev.ite (fun h => ?_) (fun h => ?_)
    · refine Kit.Ev.neg (by simp; omega) hend
    · exact Kit.Ev.neg (by simp) hend
  | succ d ih =>
    intro i hd
    refine Kit.Ev.up (Kit.Ev.up ?_)
    simp only [spec_CompareRows.l0, spec_CompareRows.j1]
    refine Kit.Ev.pos (by omega) (Kit.Ev.pos (by simp; omega) (Kit.Ev.pos (by omega) (Kit.Ev.pos (by omega) (Kit.Ev.pos (by omega) ?_))))
    rw [rd_drop (xs := xs) (i := i) (by omega), rd_drop (xs := ys) (i := i) (by omega), w64n (n := xs.length) (by omega) hn]
    simp only [cmpR]
    refine Kit.Ev.ite2 (fun _ => Kit.Ev.const rfl) (fun _ => ?_)
    exact Kit.Ev.ite2 (fun _ => Kit.Ev.const rfl) (fun _ => ih (i + 1) (by omega))
theorem specCmp_ev (xs ys : List Int) (hn : xs.length ≤ 9223372036854775807) : Ev (fun k => spec_CompareRows.f k xs ys) (cmpR xs ys) := specCmp_l0 xs ys hn _ 0 (Nat.zero_add _)
theorem rdE_at {xs : List S65} {i : Nat} (h : i < xs.length) : rd_T65 xs (i : Int) = xs[i] := by simp [rd_T65, h]
theorem rdE_drop {xs : List S65} {i : Nat} (h : i < xs.length) : xs.drop i = rd_T65 xs (i : Int) :: xs.drop (i + 1) := by
  rw [rdE_at h]; exact List.drop_eq_getElem_cons h
theorem rdE_mem {xs : List S65} {i : Nat} (h : i < xs.length) : rd_T65 xs (i : Int) ∈ xs := by
  rw [rdE_at h]; exact List.getElem_mem h
theorem rdLE_at {xs : List S63} {i : Nat} (h : i < xs.length) : rd_T63 xs (i : Int) = xs[i] := by simp [rd_T63, h]
theorem rdLE_drop {xs : List S63} {i : Nat} (h : i < xs.length) : xs.drop i = rd_T63 xs (i : Int) :: xs.drop (i + 1) := by
  rw [rdLE_at h]; exact List.drop_eq_getElem_cons h
theorem rdLE_mem {xs : List S63} {i : Nat} (h : i < xs.length) : rd_T63 xs (i : Int) ∈ xs := by
  rw [rdLE_at h]; exact List.getElem_mem h
def conv (x : S63) : S65 := ⟨x.f0, x.f1⟩
def szGo : Int → List S63 → Int
  | t, [] => t
  | t, x :: xs => if t - (x.f0.length : Int) < 0 then -1 else szGo (t - (x.f0.length : Int)) xs
def szE (t : Int) (l : List S63) : Int := if t - (l.length : Int) < 0 then -1 else szGo (t - (l.length : Int)) l
theorem szGo_le : ∀ (l : List S63) (t : Int), 0 ≤ szGo t l → szGo t l ≤ t ∧ ∀ x ∈ l, (x.f0.length : Int) ≤ t
  | [], t, h => ⟨Int.le_refl _, by simp⟩
  | x :: xs, t, h => by
    unfold szGo at h ⊢
    by_cases hc : t - (x.f0.length : Int) < 0
    · rw [if_pos hc] at h; omega
    · rw [if_neg hc] at h ⊢
      have ih := szGo_le xs _ h
      refine ⟨by omega, fun y hy => ?_⟩
      rcases List.mem_cons.1 hy with rfl | hy
      · omega
      · have := ih.2 y hy; omega
theorem szE_le {t : Int} {l : List S63} (h : 0 ≤ szE t l) : (l.length : Int) ≤ t ∧ szE t l ≤ t ∧ ∀ x ∈ l, (x.f0.length : Int) ≤ t := by
  unfold szE at h ⊢
  by_cases hc : t - (l.length : Int) < 0
  · rw [if_pos hc] at h; omega
  · rw [if_neg hc] at h ⊢
    have := szGo_le l _ h
    refine ⟨by omega, by omega, fun x hx => ?_⟩
    have := this.2 x hx
    omega
theorem szInt_eq {n : Nat} {l : List Int} {t : Int} (h0 : 0 ≤ t) (h1 : t ≤ 1048576) (hn : l.length = n) (hl : n ≤ 9223372036854775807) : laws_szInt64S.f l t = some (if t - (n : Int) < 0 then -1 else t - (n : Int)) := by
  unfold laws_szInt64S.f
  rw [hn, Kit.w64 (by omega) (by omega)]
  by_cases h : t - (n : Int) < 0
  · rw [if_pos h, if_pos h]
  · rw [if_neg h, if_neg h]
theorem szEntry_eq {l : List Int} {w t : Int} (h0 : 0 ≤ t) (h1 : t ≤ 1048576) (hl : l.length ≤ 9223372036854775807) : laws_szEntry.f l w t = some (if t - (l.length : Int) < 0 then -1 else t - (l.length : Int)) := by
  unfold laws_szEntry.f
  rw [szInt_eq h0 h1 rfl hl]
  simp only [Option.bind_some]
  by_cases h : t - (l.length : Int) < 0
  · rw [if_pos h, if_pos (by omega)]
  · rw [if_neg h, if_neg h]
theorem szEntryS_l0 (xs : List S63) (hn : xs.length ≤ 9223372036854775807) (hr : ∀ x ∈ xs, x.f0.length ≤ 9223372036854775807) : ∀ (d i : Nat) (t : Int), i + d = xs.length → 0 ≤ t → t ≤ 1048576 → Ev (fun k => laws_szEntryS.l0 k xs t (i : Int)) (szGo t (xs.drop i)) := by
  intro d
  induction d with
  | zero =>
    intro i t hd h0 h1
    refine Kit.Ev.up ?_
    simp only [laws_szEntryS.l0]
    refine Kit.Ev.neg (by omega) (Kit.Ev.const ?_)
    rw [List.drop_eq_nil_of_le (by omega)]; rfl
  | succ d ih =>
    intro i t hd h0 h1
    refine Kit.Ev.up ?_
    simp only [laws_szEntryS.l0]
    refine Kit.Ev.pos (by omega) (Kit.Ev.pos (by omega) ?_)
    rw [rdLE_drop (xs := xs) (i := i) (by omega), w64n (n := xs.length) (by omega) hn, szEntry_eq h0 h1 (hr _ (rdLE_mem (by omega)))]
    simp only [Option.bind_some, szGo]
    by_cases h : t - ((rd_T63 xs (i : Int)).f0.length : Int) < 0
    · rw [if_pos h]; exact Kit.Ev.pos (by omega) (Kit.Ev.const (by rw [if_pos h]))
    · rw [if_neg h, if_neg h]
      exact Kit.Ev.neg h (ih (i + 1) _ (by omega) (by omega) (by omega))
theorem szEntryS_ev (xs : List S63) (hn : xs.length ≤ 9223372036854775807) (hr : ∀ x ∈ xs, x.f0.length ≤ 9223372036854775807) {t : Int} (h0 : 0 ≤ t) (h1 : t ≤ 1048576) : Ev (fun k => laws_szEntryS.f k xs t) (szE t xs) := by
  unfold laws_szEntryS.f szE
  rw [Kit.w64 (by omega) (by omega)]
  by_cases h : t - (xs.length : Int) < 0
  · rw [if_pos h]; exact Kit.Ev.pos h (Kit.Ev.const rfl)
  · rw [if_neg h]; exact Kit.Ev.neg h (szEntryS_l0 xs hn hr xs.length 0 _ (by omega) (by omega) (by omega))
theorem toEntryS_l0 (xs : List S63) (hn : xs.length ≤ 9223372036854775807) (hr : ∀ x ∈ xs, x.f0.length ≤ 1048576) : ∀ (d i : Nat) (ys : List S65), i + d = xs.length → ys.length = xs.length → (∀ j, j < i → ys[j]? = (xs.map conv)[j]?) → Ev (fun k => laws_toEntryS.l0 k xs ys (i : Int)) (xs.map conv) := by
  intro d
  induction d with
  | zero =>
    intro i ys hd hl he
    refine Kit.Ev.up ?_
    simp only [laws_toEntryS.l0]
    refine Kit.Ev.neg (by omega) (Kit.Ev.const ?_)
    congr 1
    apply List.ext_getElem?
    intro j
    by_cases hj : j < i
    · exact he j hj
    · rw [List.getElem?_eq_none (by omega), List.getElem?_eq_none (by rw [List.length_map]; omega)]
  | succ d ih =>
    intro i ys hd hl he
    refine Kit.Ev.up ?_
    simp only [laws_toEntryS.l0, laws_toEntry.f]
    refine Kit.Ev.pos (by omega) (Kit.Ev.pos (by omega) ?_)
    have hm := rdLE_mem (xs := xs) (i := i) (by omega)
    refine Kit.Ev.then (a := ((rd_T63 xs (i : Int)).f0, (rd_T63 xs (i : Int)).f1)) (Kit.Ev.then (toInt64S_ev _ (hr _ hm)) (Kit.Ev.const rfl)) ?_
    refine Kit.Ev.pos (by omega) ?_
    rw [w64n (n := xs.length) (by omega) hn, Int.toNat_natCast]
    refine ih (i + 1) _ (by omega) (by simpa using hl) (fun j hj => ?_)
    rw [List.getElem?_set]
    by_cases e : i = j
    · subst e
      rw [if_pos rfl, if_pos (by omega), List.getElem?_map, List.getElem?_eq_getElem (by omega), rdLE_at (by omega)]
      rfl
    · rw [if_neg e]
      exact he j (by omega)
theorem toEntryS_ev (xs : List S63) (hn : xs.length ≤ 1048576) (hr : ∀ x ∈ xs, x.f0.length ≤ 1048576) : Ev (fun k => laws_toEntryS.f k xs) (xs.map conv) := by
  unfold laws_toEntryS.f
  refine Kit.Ev.pos (by omega) (Kit.Ev.pos (by omega) ?_)
  exact toEntryS_l0 xs (by omega) hr xs.length 0 _ (by omega) (by simp) (fun j hj => by omega)
theorem eqEntryS_l0 (xs : List S65) (hn : xs.length ≤ 9223372036854775807) (hr : ∀ x ∈ xs, x.f0.length ≤ 9223372036854775807) : ∀ (d i : Nat), i + d = xs.length → Ev (fun k => laws_eqEntryS.l0 k xs xs (i : Int)) true := by
  intro d
  induction d with
  | zero =>
    intro i hd
    refine Kit.Ev.up ?_
    simp only [laws_eqEntryS.l0]
    exact Kit.Ev.neg (by omega) (Kit.Ev.const rfl)
  | succ d ih =>
    intro i hd
    refine Kit.Ev.up ?_
    simp only [laws_eqEntryS.l0, laws_eqEntry.f]
    refine Kit.Ev.pos (by omega) (Kit.Ev.pos (by omega) (Kit.Ev.pos (by omega) ?_))
    have hm := rdE_mem (xs := xs) (i := i) (by omega)
    refine Kit.Ev.then (a := true) (Kit.Ev.then (eqInt64S_refl _ (hr _ hm)) (Kit.Ev.pos rfl (Kit.Ev.pos (by trivial) (Kit.Ev.const rfl)))) ?_
    refine Kit.Ev.pos rfl ?_
    rw [w64n (n := xs.length) (by omega) hn]
    exact ih (i + 1) (by omega)
theorem eqEntryS_refl (xs : List S65) (hn : xs.length ≤ 9223372036854775807) (hr : ∀ x ∈ xs, x.f0.length ≤ 9223372036854775807) : Ev (fun k => laws_eqEntryS.f k xs xs) true := by
  unfold laws_eqEntryS.f
  exact Kit.Ev.pos rfl (eqEntryS_l0 xs hn hr xs.length 0 (by omega))
/-- The rows are no longer than any machine's. -/
def Fine (l : List S65) : Prop := l.length ≤ 1048576 ∧ ∀ x ∈ l, x.f0.length ≤ 1048576
theorem Fine.n {l : List S65} (h : Fine l) : l.length ≤ 9223372036854775807 := by have := h.1; omega
theorem Fine.r {l : List S65} (h : Fine l) : ∀ x ∈ l, x.f0.length ≤ 9223372036854775807 := fun x hx => by have := h.2 x hx; omega
/-- What a law over one list of entries begins with: too much, or what is laid is as it came in. -/
theorem input_of {l : List S63} (hl : (fun l : List S63 => l.length ≤ maxLen ∧ ∀ y ∈ l, (fun x : S63 => (fun l : List Int => l.length ≤ maxLen ∧ ∀ y ∈ l, (fun x : Int => (Lit.int .i64 x).wf = true) y) x.f0 ∧ (fun x : Int => (Lit.int .i64 x).wf = true) x.f1) y) l) {t : Int} (h0 : 0 ≤ t) (h1 : t ≤ 1048576) :
    Ev (fun k => laws_szEntryS.f k l t) (szE t l) ∧ (¬ szE t l < 0 → szE t l ≤ 1048576 ∧ 0 ≤ szE t l ∧ Fine (l.map conv) ∧ Ev (fun k => laws_toEntryS.f k l) (l.map conv)) := by
  have hm : ∀ n : Nat, n ≤ maxLen → n ≤ 9223372036854775807 := fun n h => by simp only [maxLen] at h; omega
  refine ⟨szEntryS_ev l (hm _ hl.1) (fun x hx => hm _ (hl.2 x hx).1.1) h0 h1, fun h => ?_⟩
  have hb := szE_le (t := t) (l := l) (by omega)
  have hr : ∀ x ∈ l, x.f0.length ≤ 1048576 := fun x hx => by have := hb.2.2 x hx; omega
  refine ⟨by omega, by omega, ⟨by rw [List.length_map]; omega, fun x hx => ?_⟩, toEntryS_ev l (by omega) hr⟩
  obtain ⟨y, hy, rfl⟩ := List.mem_map.1 hx
  exact hr y hy
theorem cmpR_zero : ∀ xs ys : List Int, cmpR xs ys = 0 ↔ xs = ys
  | [], [] => by simp [cmpR]
  | [], _ :: _ => by simp [cmpR]
  | _ :: _, [] => by simp [cmpR]
  | a :: xs, b :: ys => by
    simp only [cmpR]
    by_cases h1 : a < b
    · rw [if_pos h1]; simp; omega
    · by_cases h2 : b < a
      · rw [if_neg h1, if_pos h2]; simp; omega
      · rw [if_neg h1, if_neg h2, cmpR_zero xs ys]
        have : a = b := by omega
        simp [this]
theorem cmpR_in : ∀ xs ys : List Int, cmpR xs ys = -1 ∨ cmpR xs ys = 0 ∨ cmpR xs ys = 1
  | [], [] => by simp [cmpR]
  | [], _ :: _ => by simp [cmpR]
  | _ :: _, [] => by simp [cmpR]
  | a :: xs, b :: ys => by
    simp only [cmpR]
    by_cases h1 : a < b
    · rw [if_pos h1]; simp
    · by_cases h2 : b < a
      · rw [if_neg h1, if_pos h2]; simp
      · rw [if_neg h1, if_neg h2]; exact cmpR_in xs ys
def sameB : List S65 → List S65 → Bool
  | [], [] => true
  | x :: xs, y :: ys => if x.f0 = y.f0 then (if x.f1 = y.f1 then sameB xs ys else false) else false
  | [], _ :: _ => false
  | _ :: _, [] => false
theorem sameB_iff : ∀ xs ys : List S65, sameB xs ys = true ↔ xs = ys
  | [], [] => by simp [sameB]
  | [], _ :: _ => by simp [sameB]
  | _ :: _, [] => by simp [sameB]
  | ⟨a, b⟩ :: xs, ⟨c, d⟩ :: ys => by
    simp only [sameB]
    by_cases h1 : a = c
    · by_cases h2 : b = d
      · rw [if_pos h1, if_pos h2, sameB_iff xs ys, h1, h2]; simp
      · rw [if_pos h1, if_neg h2]; simp [h2]
    · rw [if_neg h1]; simp [h1]
theorem sameB_len {xs ys : List S65} (h : ¬ (xs.length : Int) = (ys.length : Int)) : sameB xs ys = false := by
  cases e : sameB xs ys with
  | false => rfl
  | true => exact absurd (by rw [(sameB_iff xs ys).mp e]) h
theorem slicesEq_l0 (xs ys : List Int) (hn : xs.length ≤ 9223372036854775807) (hl : xs.length = ys.length) : ∀ (d i : Nat), i + d = xs.length → Ev (fun k => slices_Equal_int64_int64.l0 k xs ys (xs.length : Int) (i : Int)) (decide (xs.drop i = ys.drop i)) := by
  intro d
  induction d with
  | zero =>
    intro i hd
    refine Kit.Ev.up ?_
    simp only [slices_Equal_int64_int64.l0]
    refine Kit.Ev.neg (by omega) (Kit.Ev.const ?_)
    rw [List.drop_eq_nil_of_le (by omega), List.drop_eq_nil_of_le (by omega)]; simp
  | succ d ih =>
    intro i hd
    refine Kit.Ev.up ?_
    simp only [slices_Equal_int64_int64.l0]
    refine Kit.Ev.pos (by omega) (Kit.Ev.pos (by omega) (Kit.Ev.pos (by omega) (Kit.Ev.pos (by omega) ?_)))
    rw [rd_drop (xs := xs) (i := i) (by omega), rd_drop (xs := ys) (i := i) (by omega), w64n (n := xs.length) (by omega) hn]
    refine Kit.Ev.ite (fun h => ?_) (fun h => Kit.Ev.const ?_)
    · exact (ih (i + 1) (by omega)).eq (by rw [h]; simp)
    · simp [h]
theorem slicesEq_ev (xs ys : List Int) (hn : xs.length ≤ 9223372036854775807) : Ev (fun k => slices_Equal_int64_int64.f k xs ys) (decide (xs = ys)) := by
  unfold slices_Equal_int64_int64.f
  refine Kit.Ev.ite (fun h => ?_) (fun h => Kit.Ev.const ?_)
  · exact (slicesEq_l0 xs ys hn (by omega) xs.length 0 (by omega)).eq (by simp)
  · have : xs ≠ ys := fun e => h (by rw [e])
    simp [this]
theorem implSame_l0 (xs ys : List S65) (hx : Fine xs) (hl : xs.length = ys.length) : ∀ (d i : Nat), i + d = xs.length → Ev (fun k => slices_EqualFunc_impl_sameSets_1.l0 k ys xs (xs.length : Int) (i : Int)) (sameB (xs.drop i) (ys.drop i)) := by
  intro d
  induction d with
  | zero =>
    intro i hd
    refine Kit.Ev.up ?_
    simp only [slices_EqualFunc_impl_sameSets_1.l0]
    refine Kit.Ev.neg (by omega) (Kit.Ev.const ?_)
    rw [List.drop_eq_nil_of_le (by omega), List.drop_eq_nil_of_le (by omega)]; simp [sameB]
  | succ d ih =>
    intro i hd
    refine Kit.Ev.up ?_
    simp only [slices_EqualFunc_impl_sameSets_1.l0, impl_sameSets_1.f]
    have hm := hx.r _ (rdE_mem (xs := xs) (i := i) (by omega))
    refine Kit.Ev.pos (by omega) (Kit.Ev.pos (by omega) (Kit.Ev.pos (by omega) (Kit.Ev.pos (by omega) ?_)))
    rw [rdE_drop (xs := xs) (i := i) (by omega), rdE_drop (xs := ys) (i := i) (by omega), w64n (n := xs.length) (by omega) hx.n]
    simp only [sameB]
    by_cases h1 : (rd_T65 xs (i : Int)).f1 = (rd_T65 ys (i : Int)).f1
    · refine Kit.Ev.then (Kit.Ev.pos h1 (Kit.Ev.then (slicesEq_ev _ _ hm) (Kit.Ev.const rfl))) ?_
      refine Kit.Ev.ite (fun h => ?_) (fun h => Kit.Ev.const ?_)
      · rw [if_pos (by simpa using h), if_pos h1]
        exact ih (i + 1) (by omega)
      · rw [if_neg (by simpa using h)]
    · refine Kit.Ev.then (a := false) (Kit.Ev.neg h1 (Kit.Ev.const rfl)) (Kit.Ev.neg (by decide) (Kit.Ev.const ?_))
      rw [if_neg h1]; simp
theorem implSameS_ev (xs ys : List S65) (hx : Fine xs) : Ev (fun k => impl_sameSets.f k xs ys) (sameB xs ys) := by
  unfold impl_sameSets.f slices_EqualFunc_impl_sameSets_1.f
  refine Kit.Ev.then (a := sameB xs ys) (Kit.Ev.ite (fun h => ?_) (fun h => Kit.Ev.const (by rw [sameB_len h]))) (Kit.Ev.const rfl)
  exact (implSame_l0 xs ys hx (by omega) xs.length 0 (by omega)).eq (by simp)
theorem implSame_ev (xs ys : List S65) (hx : Fine xs) : Ev (fun k => impl_SameSets.f k xs ys) (sameB xs ys) := by
  unfold impl_SameSets.f
  exact Kit.Ev.then (implSameS_ev xs ys hx) (Kit.Ev.const rfl)
theorem specSame_l0 (xs ys : List S65) (hx : Fine xs) (hl : xs.length = ys.length) : ∀ (d i : Nat), i + d = xs.length → Ev (fun k => spec_SameSets.l0 k xs ys (i : Int)) (sameB (xs.drop i) (ys.drop i)) := by
  intro d
  induction d with
  | zero =>
    intro i hd
    refine Kit.Ev.up ?_
    simp only [spec_SameSets.l0]
    refine Kit.Ev.neg (by omega) (Kit.Ev.const ?_)
    rw [List.drop_eq_nil_of_le (by omega), List.drop_eq_nil_of_le (by omega)]; simp [sameB]
  | succ d ih =>
    intro i hd
    refine Kit.Ev.up ?_
    simp only [spec_SameSets.l0]
    have hm := hx.r _ (rdE_mem (xs := xs) (i := i) (by omega))
    refine Kit.Ev.pos (by omega) (Kit.Ev.pos (by omega) (Kit.Ev.pos (by omega) (Kit.Ev.then (specCmp_ev _ _ hm) ?_)))
    rw [rdE_drop (xs := xs) (i := i) (by omega), rdE_drop (xs := ys) (i := i) (by omega), w64n (n := xs.length) (by omega) hx.n]
    simp only [sameB]
    refine Kit.Ev.ite (fun h => ?_) (fun h => Kit.Ev.const ?_)
    · rw [if_pos ((cmpR_zero _ _).mp h)]
      refine Kit.Ev.ite2 (fun _ => ih (i + 1) (by omega)) (fun _ => Kit.Ev.const rfl)
    · rw [if_neg (fun e => h ((cmpR_zero _ _).mpr e))]
theorem specSame_ev (xs ys : List S65) (hx : Fine xs) : Ev (fun k => spec_SameSets.f k xs ys) (sameB xs ys) := by
  unfold spec_SameSets.f
  refine Kit.Ev.ite (fun h => ?_) (fun h => Kit.Ev.const (by rw [sameB_len h]))
  exact (specSame_l0 xs ys hx (by omega) xs.length 0 (by omega)).eq (by simp)
theorem FnExactSameSets : laws_FnExactSameSets.Pure := by
  intro l l' hl _ hl' _
  refine Kit.Ev.ex ?_
  unfold laws_FnExactSameSets.f
  obtain ⟨hz, hin⟩ := input_of hl (t := 1048576) (by omega) (by omega)
  refine Kit.Ev.then hz (Kit.Ev.ite (fun _ => Kit.Ev.const rfl) (fun h => ?_))
  obtain ⟨h1, h0, hx, ht⟩ := hin h
  obtain ⟨hz', hin'⟩ := input_of hl' (t := szE 1048576 l) h0 h1
  refine Kit.Ev.then hz' (Kit.Ev.ite (fun _ => Kit.Ev.const rfl) (fun h' => ?_))
  obtain ⟨_, _, hx', ht'⟩ := hin' h'
  refine Kit.Ev.then ht (Kit.Ev.then ht' (Kit.Ev.then (specSame_ev _ _ hx) (Kit.Ev.then ht (Kit.Ev.then ht' (Kit.Ev.then (implSame_ev _ _ hx) ?_)))))
  refine Kit.Ev.neg (by simp) (Kit.Ev.then ht (Kit.Ev.then (eqEntryS_refl _ hx.n hx.r) (Kit.Ev.pos rfl ?_)))
  exact Kit.Ev.then ht' (Kit.Ev.then (eqEntryS_refl _ hx'.n hx'.r) (Kit.Ev.const rfl))

end Go.Proofs.Ythnbghcfjkmpoaa.Pure
