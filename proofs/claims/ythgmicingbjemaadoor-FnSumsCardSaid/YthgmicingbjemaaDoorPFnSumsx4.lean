-- Written by fprint, a program of this session, out of Lean's own print of the translation. Lean checks it.
import Derived.Test.YthgmicingbjemaaDoorDense
import Derived.Test.YthgmicingbjemaaDoorShort
import Derived.Test.YthgmicingbjemaaDoorPFnSumsx0
import Derived.Test.YthgmicingbjemaaDoorPFnSumsx2
import Derived.Test.YthgmicingbjemaaDoorPFnSumsx3
namespace Go.Proofs.YthgmicingbjemaaDoor.PFnSums
open Go.RowKit Go.Proofs.YthgmicingbjemaaDoorW.PrintWords Go.Proofs.YthgmicingbjemaaDoorW.PrintLast Go.Proofs.YthgmicingbjemaaDoorW.PrintMore
attribute [local go_sem] max2_int min2_int max_two min_two max_three min_three max_four min_four   -- for this text's walks alone
set_option linter.unusedVariables false
set_option linter.unusedSimpArgs false

theorem b4_2 {p : Prop} (h : p := by exact cB1_ GE173.out) : p := h
theorem b4_3 {p : Prop} (h : p := by exact cS_ HO_5.out) : p := h
theorem b4_4 {p : Prop} (h : p := by exact cO_ BK173.out) : p := h
theorem b4_6 {p : Prop} (h : p := by exact cC_ (Kd.C_below HR172_0.out HB.out)) : p := h
theorem q4_0 {p : Prop} (h : p := by first | exact Kd.S_nil _ _ _ _ _ | exact Kd.N_nil _ _ _ _ _ | exact Kd.V_nil _ _ _ _ _ | exact Kd.Q_nil _ _ _ _ _ | exact Kd.R_nil _ _ _ _ _) : p := h
/-! ### impl_summed: function 21 -/
/-- What the closure leaves. -/
def impl_summed.delF (xs : List (S31)) : List (S31) := xs.filter (fun e => decide (e.f1 ≠ 0))
def impl_summed.e (x : S31) : Sum.En := (x.f0, x.f1)
def impl_summed.d (p : Sum.En) : S31 := ⟨p.1, p.2⟩
/-- The sizes that the walk bears. -/
abbrev impl_summed.Ok (l : List (S31)) : Prop := l.length ≤ 1048576 ∧ ∀ x ∈ l, x.f0.length ≤ 1048576 ∧ -9223372036854775808 ≤ x.f1 ∧ x.f1 ≤ 9223372036854775807
def impl_summed.f (l : List (S31)) : Option (List (S31) × Int) := if impl_summed.Ok l then some ((Sum.sumSet (l.map impl_summed.e)).1.map impl_summed.d, (Sum.sumSet (l.map impl_summed.e)).2) else none
def impl_summed.l0 : Nat → List (S31) → List (S31) → List (S31) → Int → Int → Option ((List (S31)) × Int)
 | 0, _, _, _, _, _ => none
 | k + 1, x4, x5, x13, x14, x15 => if x15 < x14 then (if 0 ≤ x15 then (if x15 < (x13.length : Int) then (if x15 = 0 then ((slices_Clone_int64_int64.f ((rd_T31 x13 x15).f0)).bind fun t174 => (if x5.length < 4398046511104 then ((some (x5 ++ [(⟨t174, 0⟩ : S31)] : List (S31))).bind fun y177 => (if 0 ≤ (wrap64 ((y177.length : Int) - 1)) then (if (wrap64 ((y177.length : Int) - 1)) < (y177.length : Int) then (impl_summed.l0 k x4 (y177.set ((wrap64 ((y177.length : Int) - 1)) : Int).toNat (⟨(rd_T31 y177 (wrap64 ((y177.length : Int) - 1))).f0, wrap64 (((rd_T31 y177 (wrap64 ((y177.length : Int) - 1))).f1) + ((rd_T31 x13 x15).f1))⟩ : S31)) x13 x14 (wrap64 (x15 + 1))) else (none)) else (none))) else (none))) else (if 0 ≤ (wrap64 (x15 - 1)) then (if (wrap64 (x15 - 1)) < (x4.length : Int) then ((impl_byRow.f k ((rd_T31 x4 (wrap64 (x15 - 1))).f0) ((rd_T31 x4 (wrap64 (x15 - 1))).f1) ((rd_T31 x13 x15).f0) ((rd_T31 x13 x15).f1)).bind fun t183 => (if t183 = 0 then (if 0 ≤ (wrap64 ((x5.length : Int) - 1)) then (if (wrap64 ((x5.length : Int) - 1)) < (x5.length : Int) then (impl_summed.l0 k x4 (x5.set ((wrap64 ((x5.length : Int) - 1)) : Int).toNat (⟨(rd_T31 x5 (wrap64 ((x5.length : Int) - 1))).f0, wrap64 (((rd_T31 x5 (wrap64 ((x5.length : Int) - 1))).f1) + ((rd_T31 x13 x15).f1))⟩ : S31)) x13 x14 (wrap64 (x15 + 1))) else (none)) else (none)) else ((slices_Clone_int64_int64.f ((rd_T31 x13 x15).f0)).bind fun t186 => (if x5.length < 4398046511104 then ((some (x5 ++ [(⟨t186, 0⟩ : S31)] : List (S31))).bind fun y189 => (if 0 ≤ (wrap64 ((y189.length : Int) - 1)) then (if (wrap64 ((y189.length : Int) - 1)) < (y189.length : Int) then (impl_summed.l0 k x4 (y189.set ((wrap64 ((y189.length : Int) - 1)) : Int).toNat (⟨(rd_T31 y189 (wrap64 ((y189.length : Int) - 1))).f0, wrap64 (((rd_T31 y189 (wrap64 ((y189.length : Int) - 1))).f1) + ((rd_T31 x13 x15).f1))⟩ : S31)) x13 x14 (wrap64 (x15 + 1))) else (none)) else (none))) else (none))))) else (none)) else (none))) else (none)) else (none)) else ((slices_ContainsFunc_impl_summed_2.f k (impl_summed.delF x5) ()).bind fun t194 => (if t194 = true then (some (([] : List (S31)), 8)) else (if ((impl_summed.delF x5).length : Int) > 200 then (some (([] : List (S31)), 2)) else (some ((impl_summed.delF x5), 0)))))
theorem impl_summed.ok_of {l : List (S31)} {r : List (S31) × Int} (h : impl_summed.f l = some r) : impl_summed.Ok l ∧ r = ((Sum.sumSet (l.map impl_summed.e)).1.map impl_summed.d, (Sum.sumSet (l.map impl_summed.e)).2) := by
 unfold impl_summed.f at h
 by_cases c : impl_summed.Ok l
 ·rw [if_pos c] at h; exact ⟨c, (Option.some.inj h).symm⟩
 ·rw [if_neg c] at h; exact absurd h (by simp)
theorem impl_summed.cmp64 (a b : Int) : cmp_Compare_int64.f a b = some (if a < b then -1 else if b < a then 1 else 0) := by
 unfold cmp_Compare_int64.f cmp_isNaN_int64.f
 simp only [bne_self_eq_false, Option.bind_some, Bool.false_eq_true, if_false]
 by_cases h1 : a < b
 ·simp [h1]
 ·by_cases h2 : b < a <;> simp [h1, h2]
theorem impl_summed.cmpI (a b : Int) : cmp_Compare_int.f a b = some (if a < b then -1 else if b < a then 1 else 0) := by
 unfold cmp_Compare_int.f cmp_isNaN_int.f
 simp only [bne_self_eq_false, Option.bind_some, Bool.false_eq_true, if_false]
 by_cases h1 : a < b
 ·simp [h1]
 ·by_cases h2 : b < a <;> simp [h1, h2]
theorem impl_summed.cmp_l0 (xs ys : List Int) (hn : xs.length ≤ 9223372036854775807) : ∀ (d i : Nat), i + d = min xs.length ys.length → Ev (fun k => impl_CompareRows.l0 k xs ys ((min xs.length ys.length : Nat) : Int) (i : Int)) (Sum.cmpR (xs.drop i) (ys.drop i)) := by
 intro d
 induction d with
 | zero =>
  intro i hd
  refine Kit.Ev.up ?_
  simp only [impl_CompareRows.l0]
  refine Kit.Ev.neg (by omega) ?_
  rw [impl_summed.cmpI, Cmp.cmp_end (l := xs) (m := ys) (i := i) (by omega) (by omega) (by omega)]
  exact Kit.Ev.const rfl
 | succ d ih =>
  intro i hd
  refine Kit.Ev.up ?_
  simp only [impl_CompareRows.l0]
  refine Kit.Ev.pos (by omega) (Kit.Ev.pos (by omega) (Kit.Ev.pos (by omega) (Kit.Ev.pos (by omega) ?_)))
  rw [Kit.rd_at (xs := xs) (i := i) (by omega), Kit.rd_at (xs := ys) (i := i) (by omega), Kit.w64s (n := xs.length) (by omega) (by omega) hn, impl_summed.cmp64, Cmp.cmp_step (l := xs) (m := ys) (i := i) (by omega) (by omega)]
  unfold Cmp.c1
  simp only [Option.bind_some]
  by_cases h1 : xs[i] < ys[i]
  ·simp only [h1, if_true]; exact Kit.Ev.const rfl
  ·by_cases h2 : ys[i] < xs[i]
   ·simp only [h1, h2, if_true, if_false]; exact Kit.Ev.const rfl
   ·simp only [h1, h2, if_true, if_false]; exact ih (i + 1) (by omega)
theorem impl_summed.byRow (a b : List Int) (x y : Int) (hn : a.length ≤ 9223372036854775807) : Ev (fun k => impl_byRow.f k a x b y) (Sum.cmpR a b) := by
 unfold impl_byRow.f impl_CompareRows.f
 refine Kit.Ev.then (a := Sum.cmpR a b) ?_ (Kit.Ev.const rfl)
 refine Kit.Ev.ite (fun h => ?_) (fun h => ?_)
 ·have := impl_summed.cmp_l0 a b hn _ 0 (Nat.zero_add _)
  rwa [Nat.min_eq_right (by omega)] at this
 ·have := impl_summed.cmp_l0 a b hn _ 0 (Nat.zero_add _)
  rwa [Nat.min_eq_left (by omega)] at this
/-- Is this no weight? -/
def impl_summed.bad (x : Int) : Bool := !(decide (-1000000000000 ≤ x) && decide (x ≤ 1000000000000))
theorem impl_summed.weight (l : List Int) (x : Int) : impl_summed_2.f l x = some (impl_summed.bad x) := by
 unfold impl_summed_2.f impl_isWeight.f impl_in.f impl_summed.bad
 by_cases h : x ≥ -1000000000000
 ·rw [if_pos h]
  have h2 : decide (-1000000000000 ≤ x) = true := decide_eq_true h
  rw [h2]; rfl
 ·rw [if_neg h]
  have h2 : decide (-1000000000000 ≤ x) = false := decide_eq_false h
  rw [h2]; rfl
theorem impl_summed.rdS {xs : List (S31)} {i : Nat} (h : i < xs.length) : rd_T31 xs (i : Int) = xs[i] := by
 unfold rd_T31
 rw [Int.toNat_natCast, List.getD_eq_getElem?_getD, List.getElem?_eq_getElem h, Option.getD_some]
theorem impl_summed.contains_l0 (xs : List (S31)) (hn : xs.length ≤ 9223372036854775807) : ∀ (d i : Nat), i + d = xs.length → ∃ r, Ev (fun k => slices_IndexFunc_impl_summed_2.l0 k xs (xs.length : Int) (i : Int)) r ∧ decide (r ≥ 0) = (xs.drop i).any (fun x => impl_summed.bad x.f1) := by
 intro d
 induction d with
 | zero =>
  intro i hd
  refine ⟨-1, Kit.Ev.up ?_, by rw [List.drop_eq_nil_of_le (by omega)]; rfl⟩
  simp only [slices_IndexFunc_impl_summed_2.l0]
  exact Kit.Ev.neg (by omega) (Kit.Ev.const rfl)
 | succ d ih =>
  intro i hd
  have hi : i < xs.length := by omega
  by_cases hb : impl_summed.bad xs[i].f1 = true
  ·refine ⟨(i : Int), Kit.Ev.up ?_, ?_⟩
   ·simp only [slices_IndexFunc_impl_summed_2.l0, impl_summed.rdS hi, impl_summed.weight, hb]
    exact Kit.Ev.pos (by omega) (Kit.Ev.pos (by omega) (Kit.Ev.pos (by omega) (Kit.Ev.const rfl)))
   ·rw [List.drop_eq_getElem_cons hi, List.any_cons, hb, Bool.true_or]
    exact decide_eq_true (by omega)
  ·obtain ⟨r, hr, hd2⟩ := ih (i + 1) (by omega)
   have hb2 : impl_summed.bad xs[i].f1 = false := by simpa using hb
   refine ⟨r, Kit.Ev.up ?_, ?_⟩
   ·simp only [slices_IndexFunc_impl_summed_2.l0, impl_summed.rdS hi, impl_summed.weight, hb2]
    rw [Kit.w64s (n := xs.length) (by omega) (by omega) hn]
    exact Kit.Ev.pos (by omega) (Kit.Ev.pos (by omega) (Kit.Ev.pos (by omega) hr))
   ·rw [List.drop_eq_getElem_cons hi, List.any_cons, hb2, Bool.false_or]; exact hd2
theorem impl_summed.contains (xs : List (S31)) (hn : xs.length ≤ 9223372036854775807) : Ev (fun k => slices_ContainsFunc_impl_summed_2.f k xs ()) (xs.any (fun x => impl_summed.bad x.f1)) := by
 obtain ⟨r, hr, hd⟩ := impl_summed.contains_l0 xs hn xs.length 0 (by omega)
 unfold slices_ContainsFunc_impl_summed_2.f slices_IndexFunc_impl_summed_2.f
 refine Kit.Ev.then hr (Kit.Ev.const ?_)
 rw [hd, List.drop_zero]
theorem impl_summed.finish (s : List (S31)) : (if (impl_summed.delF s).any (fun x => impl_summed.bad x.f1) = true then (([] : List (S31)), (8 : Int)) else if ((impl_summed.delF s).length : Int) > 200 then ([], 2) else (impl_summed.delF s, 0)) = ((Sum.finish (s.map impl_summed.e)).1.map impl_summed.d, (Sum.finish (s.map impl_summed.e)).2) := by
 have e1 : (impl_summed.delF s).any (fun x => impl_summed.bad x.f1) = (s.map impl_summed.e).any (fun e => !(decide (-1000000000000 ≤ e.2) && decide (e.2 ≤ 1000000000000))) := by
  unfold impl_summed.delF
  induction s with
  | nil => rfl
  | cons x s ih =>
   rw [List.filter_cons, List.map_cons, List.any_cons]
   by_cases h : x.f1 = 0
   ·rw [if_neg (by simp [h]), ih]
    have : (!(decide (-1000000000000 ≤ (impl_summed.e x).2) && decide ((impl_summed.e x).2 ≤ 1000000000000))) = false := by
     show (!(decide (-1000000000000 ≤ x.f1) && decide (x.f1 ≤ 1000000000000))) = false
     rw [h]; rfl
    rw [this, Bool.false_or]
   ·rw [if_pos (by simp [h]), List.any_cons, ih]; rfl
 have e2 : (s.map impl_summed.e).filter (fun e => decide (e.2 ≠ 0)) = (impl_summed.delF s).map impl_summed.e := by
  unfold impl_summed.delF
  rw [List.filter_map]; rfl
 have e3 : ∀ t : List (S31), (t.map impl_summed.e).map impl_summed.d = t := fun t => by
  rw [List.map_map]; exact List.map_id _
 unfold Sum.finish
 rw [e1, e2, List.length_map]
 by_cases c1 : (s.map impl_summed.e).any (fun e => !(decide (-1000000000000 ≤ e.2) && decide (e.2 ≤ 1000000000000))) = true
 ·rw [if_pos c1, if_pos c1]; rfl
 ·rw [if_neg c1, if_neg c1]
  by_cases c2 : 200 < (impl_summed.delF s).length
  ·rw [if_pos (by omega), if_pos c2]; rfl
  ·rw [if_neg (by omega), if_neg c2, e3]
theorem impl_summed.set_last (t : List (S31)) (x y : S31) : (t ++ [x]).set ((t ++ [x]).length - 1) y = t ++ [y] := by
 have : (t ++ [x]).length - 1 = t.length := by simp
 rw [this, List.set_append_right _ _ (Nat.le_refl _), Nat.sub_self]; rfl
theorem impl_summed.last (t : List (S31)) (x : S31) : rd_T31 (t ++ [x]) (((t ++ [x]).length : Int) - 1) = x := by
 have h : ((t ++ [x]).length : Int) - 1 = ((t.length : Nat) : Int) := by simp
 rw [h, impl_summed.rdS (by simp)]
 simp
theorem impl_summed.plain_l0 (qs : List (S31)) (hok : impl_summed.Ok qs) (hr : Sum.Rising (qs.map impl_summed.e)) : ∀ (d i : Nat) (s : List (S31)), i + d = qs.length → s.length ≤ i → Sum.Upto (qs.map impl_summed.e) i (s.map impl_summed.e) → Ev (fun k => impl_summed.l0 k qs s qs (qs.length : Int) (i : Int)) ((Sum.finish (Sum.total (qs.map impl_summed.e))).1.map impl_summed.d, (Sum.finish (Sum.total (qs.map impl_summed.e))).2) := by
 have hlen := hok.1
 intro d
 induction d with
 | zero =>
  intro i s hd hs hu
  refine Kit.Ev.up ?_
  simp only [impl_summed.l0]
  refine Kit.Ev.neg (by omega) ?_
  have hi : i = (qs.map impl_summed.e).length := by rw [List.length_map]; omega
  rw [hi] at hu
  have ht := hu.done
  have hsl : (impl_summed.delF s).length ≤ s.length := List.length_filter_le _ _
  refine Kit.Ev.then (impl_summed.contains (impl_summed.delF s) (by omega)) ?_
  rw [← ht, ← impl_summed.finish s]
  refine Kit.Ev.ite2 (fun _ => Kit.Ev.const rfl) (fun _ => ?_)
  exact Kit.Ev.ite2 (fun _ => Kit.Ev.const rfl) (fun _ => Kit.Ev.const rfl)
 | succ d ih =>
  intro i s hd hs hu
  have hi : i < qs.length := by omega
  have he : (qs.map impl_summed.e)[i]? = some (impl_summed.e qs[i]) := by rw [List.getElem?_map, List.getElem?_eq_getElem hi]; rfl
  obtain ⟨hrow, hw0, hw1⟩ := hok.2 _ (List.getElem_mem hi)
  have hw : wrap64 (0 + qs[i].f1) = qs[i].f1 := by rw [Int.zero_add]; exact Kit.w64 hw0 hw1
  have push : ∀ {g : Nat → Option (List (S31) × Int)}, (i = 0 ∨ ∃ x, (qs.map impl_summed.e)[i - 1]? = some x ∧ x.1 ≠ (impl_summed.e qs[i]).1) → Ev (fun k => (slices_Clone_int64_int64.f qs[i].f0).bind fun t174 => (if s.length < 4398046511104 then ((some (s ++ [(⟨t174, 0⟩ : S31)] : List (S31))).bind fun y177 => (if 0 ≤ (wrap64 ((y177.length : Int) - 1)) then (if (wrap64 ((y177.length : Int) - 1)) < (y177.length : Int) then (impl_summed.l0 k qs (y177.set ((wrap64 ((y177.length : Int) - 1)) : Int).toNat (⟨(rd_T31 y177 (wrap64 ((y177.length : Int) - 1))).f0, wrap64 (((rd_T31 y177 (wrap64 ((y177.length : Int) - 1))).f1) + (qs[i].f1))⟩ : S31)) qs (qs.length : Int) (wrap64 ((i : Int) + 1))) else (none)) else (none))) else (none))) ((Sum.finish (Sum.total (qs.map impl_summed.e))).1.map impl_summed.d, (Sum.finish (Sum.total (qs.map impl_summed.e))).2) := by
   intro g hn
   have hcl : slices_Clone_int64_int64.f qs[i].f0 = some qs[i].f0 := by
    unfold slices_Clone_int64_int64.f
    rw [if_pos (by omega)]
   rw [hcl]
   simp only [Option.bind_some]
   refine Kit.Ev.pos (by omega) ?_
   have hl : (s ++ [(⟨qs[i].f0, 0⟩ : S31)]).length = s.length + 1 := by simp
   have hwl : wrap64 (((s ++ [(⟨qs[i].f0, 0⟩ : S31)]).length : Int) - 1) = ((s ++ [(⟨qs[i].f0, 0⟩ : S31)]).length : Int) - 1 := Kit.w64 (by omega) (by omega)
   rw [hwl, impl_summed.last]
   refine Kit.Ev.pos (by omega) (Kit.Ev.pos (by omega) ?_)
   have hn2 : (((s ++ [(⟨qs[i].f0, 0⟩ : S31)]).length : Int) - 1).toNat = (s ++ [(⟨qs[i].f0, 0⟩ : S31)]).length - 1 := by omega
   rw [hn2, impl_summed.set_last, hw, Kit.w64s (n := qs.length) (by omega) (by omega) (by omega)]
   refine ih (i + 1) _ (by omega) (by simp; omega) ?_
   rw [List.map_append]
   exact hu.first hr he hn
  refine Kit.Ev.up ?_
  simp only [impl_summed.l0, impl_summed.rdS hi]
  refine Kit.Ev.pos (by omega) (Kit.Ev.pos (by omega) (Kit.Ev.pos (by omega) ?_))
  by_cases h0 : i = 0
  ·refine Kit.Ev.pos (by omega) ?_
   exact push (g := fun _ => none) (.inl h0)
  ·have hi1 : i - 1 < qs.length := by omega
   have hwi : wrap64 ((i : Int) - 1) = ((i - 1 : Nat) : Int) := by rw [Kit.w64 (by omega) (by omega)]; omega
   refine Kit.Ev.neg (by omega) ?_
   rw [hwi, impl_summed.rdS hi1]
   refine Kit.Ev.pos (by omega) (Kit.Ev.pos (by omega) ?_)
   have hprev : (qs.map impl_summed.e)[i - 1]? = some (impl_summed.e qs[i - 1]) := by rw [List.getElem?_map, List.getElem?_eq_getElem hi1]; rfl
   obtain ⟨hrow1, _, _⟩ := hok.2 _ (List.getElem_mem hi1)
   refine Kit.Ev.then (impl_summed.byRow qs[i - 1].f0 qs[i].f0 _ _ (by omega)) ?_
   by_cases hc : Sum.cmpR qs[i - 1].f0 qs[i].f0 = 0
   ·refine Kit.Ev.pos hc ?_
    obtain ⟨t, w, ht, hup⟩ := hu.again (by omega) he hprev (Sum.cmpR_eq hc)
    obtain ⟨t', x', rfl, rfl, hx⟩ : ∃ t' x', s = t' ++ [x'] ∧ t = t'.map impl_summed.e ∧ impl_summed.e x' = ((impl_summed.e qs[i]).1, w) := by
     obtain ⟨a, b, h1, h2, h3⟩ := List.map_eq_append_iff.1 ht
     obtain ⟨x', hx1, hx2⟩ : ∃ x', b = [x'] ∧ impl_summed.e x' = ((impl_summed.e qs[i]).1, w) := by
      cases b with
      | nil => simp at h3
      | cons y b2 =>
       cases b2 with
       | nil => exact ⟨y, rfl, by simpa using h3⟩
       | cons z b3 => simp at h3
     exact ⟨a, x', by rw [h1, hx1], h2.symm, hx2⟩
    have hl : (t' ++ [x']).length = t'.length + 1 := by simp
    have hwl : wrap64 (((t' ++ [x']).length : Int) - 1) = ((t' ++ [x']).length : Int) - 1 := Kit.w64 (by omega) (by omega)
    rw [hwl, impl_summed.last]
    refine Kit.Ev.pos (by omega) (Kit.Ev.pos (by omega) ?_)
    have hn2 : (((t' ++ [x']).length : Int) - 1).toNat = (t' ++ [x']).length - 1 := by omega
    rw [hn2, impl_summed.set_last, Kit.w64s (n := qs.length) (by omega) (by omega) (by omega)]
    refine ih (i + 1) _ (by omega) (by simp at hs ⊢; omega) ?_
    rw [List.map_append]
    have e1 : x'.f0 = (impl_summed.e qs[i]).1 := congrArg Prod.fst hx
    have e2 : x'.f1 = w := congrArg Prod.snd hx
    rw [← e2, ← e1] at hup
    exact hup
   ·refine Kit.Ev.neg hc ?_
    exact push (g := fun _ => none) (.inr ⟨_, hprev, fun h => hc (Sum.cmpR_zero.2 h)⟩)
theorem impl_summed.plain {l0 qs : List (S31)} {r1 : List (S31)} {r2 : Int} (h : impl_summed.f l0 = some (r1, r2)) (hp : (qs.map impl_summed.e).Perm (l0.map impl_summed.e)) (hr : Sum.Rising (qs.map impl_summed.e)) : ∃ k, impl_summed.l0 k qs (([] : List (S31))) qs (qs.length : Int) 0 = some (r1, r2) := by
 obtain ⟨hok, he⟩ := impl_summed.ok_of h
 have hlen : qs.length = l0.length := by have := hp.length_eq; simpa using this
 have hok2 : impl_summed.Ok qs := ⟨by rw [hlen]; exact hok.1, fun x hx => by
  have : impl_summed.e x ∈ l0.map impl_summed.e := hp.mem_iff.1 (List.mem_map_of_mem hx)
  obtain ⟨y, hy, hxy⟩ := List.mem_map.1 this
  have h1 : y.f0 = x.f0 := congrArg Prod.fst hxy
  have h2 : y.f1 = x.f1 := congrArg Prod.snd hxy
  rw [← h1, ← h2]
  exact hok.2 y hy⟩
 have := impl_summed.plain_l0 qs hok2 hr qs.length 0 [] (by omega) (by simp) (Sum.Upto.zero _)
 obtain ⟨k, hk⟩ := Kit.Ev.ex this
 refine ⟨k, ?_⟩
 rw [he]
 unfold Sum.sumSet
 rw [← Sum.total_perm hp]
 exact hk
theorem impl_summed.delete (v : Value) (xs : List (S31)) (base : Nat) (w : World) (hS : Kd.S k31 31 w base (fun _ => True) v xs) (hb : base ≤ w.heap.size) :
  Calls Tryd.prog 37 #[v, .func (.func 38) #[] #[]] w fun e w' => ∃ v' : Value, e = .returned v' ∧ Kd.S k31 31 w' base (fun _ => True) v' (impl_summed.delF xs) ∧ Below base w w' := by
 refine (Delete.deleteZero v (xs.map impl_summed.e) base w (Delete.S_of_iso hS) hb).mono ?_
 rintro e w' ⟨v', rfl, h1, h2⟩
 refine ⟨v', rfl, ?_, h2⟩
 have e2 : Delete.left (xs.map impl_summed.e) = (impl_summed.delF xs).map impl_summed.e := by
  unfold Delete.left impl_summed.delF
  rw [List.filter_map]; rfl
 rw [e2] at h1
 exact Delete.S_iso h1
def impl_summed.T6 : Bool × List (List Nat × List Nat) := (true, [([], []), ([0], [0]), ([1], [1]), ([2], [2]), ([2], [2]), ([4, 2], [2, 4]), ([3, 5, 2], [2, 3, 5]), ([6, 2], [2, 6]), ([2], [2]), ([7, 8, 2, 2], [2, 7, 8]), ([9, 2], [2, 9]), ([2, 10], [2, 10])])
def impl_summed.B6 : List Nat := [0, 1, 3, 7, 7, 23, 63, 127, 7, 511, 1023, 2047]
theorem impl_summed.tab6 : rtab .any (opsOf Tryd.f21 6) = impl_summed.T6 := by kernel_rfl
theorem impl_summed.bits6 : waitsOk impl_summed.T6.2 impl_summed.B6 = true := by kernel_rfl
def impl_summed.T8 : Bool × List (List Nat × List Nat) := (true, [([], []), ([], []), ([1], [1]), ([2], [2]), ([0, 3], [0, 3]), ([4], [4]), ([5], [5]), ([], []), ([7], [7]), ([6, 8], [6, 8]), ([0, 3, 0, 1, 2, 3, 4, 5, 6, 7, 8, 9], [0, 3]), ([10, 0, 1, 2, 3, 4, 5, 6, 7, 8, 9], [10]), ([11, 9, 0, 1, 2, 3, 4, 5, 6, 7, 8, 9], [9, 11])])
def impl_summed.B8 : List Nat := [0, 0, 2, 6, 15, 31, 63, 0, 128, 511, 1023, 2047, 4095]
theorem impl_summed.tab8 : rtab .any (opsOf Tryd.f21 8) = impl_summed.T8 := by kernel_rfl
theorem impl_summed.bits8 : waitsOk impl_summed.T8.2 impl_summed.B8 = true := by kernel_rfl
set_option maxHeartbeats 16000000 in
set_option maxRecDepth 100000 in
theorem impl_summed.calls (A0 : Option Addr) (c0 : Nat) (l0 : List (S31)) (r1 : List (S31)) (r2 : Int) (w : World) (hr0 : Kd.C k31 w A0 l0.length l0) (hc0 : l0.length ≤ c0) (h : impl_summed.f l0 = some (r1, r2)) :
  Calls Tryd.prog 21 #[.slice A0 l0.length c0] w fun e w' => ∃ v0_ : Value, e = .returned (.tuple #[v0_, .int .i64 r2]) ∧ Kd.S k31 31 w' w.heap.size (fun _ => True) v0_ r1 ∧ Below w.heap.size w w' := by
 have huE_ := Tryd.underlying31
 have hC0 : Kd.C Sorted.kP w A0 l0.length (l0.map impl_summed.e) := Sorted.C_iso hr0
 have hclone := Sorted.cloneAny A0 c0 (l0.map impl_summed.e) w (by rw [List.length_map]; exact hC0) (by rw [List.length_map]; exact Nat.lt_of_le_of_lt (impl_summed.ok_of h).1.1 (by omega))
 rw [List.length_map] at hclone
 have HF := Aside0.mk h
 clear h hr0 hc0 hC0
 go_enter Tryd.func21, Tryd.ntmps21
 go_upto_region 2 with (first | (go_at_call 33; refine hclone.mono ?_; rintro e w1 ⟨vl, rfl, hcl⟩; have HCL := Aside0.mk hcl; clear hcl) | ((with_reducible refine gate_dst (N := 10) rfl ?_); refine Kd.S_lit k31 _ 31 ?hg (N := 10) ?hd (xs := ([] : List (S31))) (inner := []) (ok := fun _ => True) (okp := fun _ => True) ?hr ?hp (fun _ hk => hk) trivial (Below.refl _ _) (Nat.le_refl _) (by simp) ?_; (case hd => rfl); (case hg => rfl); (case hr => first | (go_simp; done) | (go_simp; rfl)); (case hp => exact (Reps.none _ _)); intro v170 w2 ho3 hb hg_ hnew_; clear hg_ hnew_; have HO171 := Aside0.mk ho3; have HB2 := Aside0.mk hb; clear hb ho3))
 go_upto_region 3 with (first | (go_at_call 34; refine (Sorted.sortAny HCL.out HB2.out).mono ?_; rintro e W ⟨rfl, W1, qs, hq⟩; have HQ := Aside0.mk hq; clear hq))
 obtain ⟨l1, rfl⟩ : ∃ l1 : List (S31), qs = l1.map impl_summed.e := ⟨qs.map impl_summed.d, by rw [List.map_map]; exact (List.map_id _).symm⟩
 obtain ⟨A1, c1, hv, hc1, hC1⟩ := HQ.out.reads
 rw [List.length_map] at hv hc1 hC1
 subst hv
 have HR0 : Aside0 (Kd.C k31 W1 A1 l1.length l1) := ⟨Sorted.C_of_iso hC1⟩
 have HC0 := Aside0.mk hc1
 obtain ⟨k, H⟩ := impl_summed.plain HF.out HQ.out.perm HQ.out.rising
 have hSn : Kd.S k31 31 W W1.heap.size (fun _ => True) v170 ([] : List (S31)) := by
  rw [HQ.out.size]
  exact Kd.S_mono (Kd.S_step (Kd.S_mono (Kd.S_bound HO171.out) (fun k_ hk => (hk.2.1 : w1.heap.size ≤ k_))) (fun k_ hk hlt => HQ.out.keep.2 k_ hk hlt)) (fun _ _ => trivial)
 have HB := Aside0.mk HQ.out.below1
 clear HO171 hclone hC1 hc1
 obtain ⟨y169, hy169⟩ : ∃ y_ : List (S31), y_ = (([] : List (S31))) := ⟨_, rfl⟩
 rw [← hy169] at H hSn
 have HO171 := Aside0.mk hSn
 have H' := Aside0.mk H
 clear H hSn hy169
 go_wp2
 go_loopg [5, 15] k (fun kq v5 v15 w' => ∃ (x5_1 : List (S31)) (x15_1 : Int), v15 = .int .i64 x15_1 ∧ Aside0 (impl_summed.l0 kq l1 x5_1 l1 (l1.length : Int) x15_1 = some (r1, r2)) ∧ Aside0 (kq ≤ k) ∧ Aside0 (Kd.S k31 31 w' W1.heap.size (fun _ => True) v5 x5_1) ∧ Aside0 (Below W1.heap.size W1 w'))
 case atStart => exact ⟨(y169), (0), cs_, H', ⟨Nat.le_refl _⟩, ⟨cS_ HO171.out⟩, ⟨cB0_⟩⟩
 case round =>
  clear H'
  try clear p2
  obtain ⟨x5_1, x15_1, rfl, HA, HK1, HO_5, HB⟩ := hrel
  cases gk with
  | zero => exact absurd HA.out (by simp [impl_summed.l0])
  | succ k1 =>
   have H := HA.out
   clear HA
   simp only [impl_summed.l0] at H
   by_cases c4 : x15_1 < (l1.length : Int)
   rotate_left
   ·rw [if_neg c4] at H
    have c4b0 : decide (x15_1 < (l1.length : Int)) = false := decide_eq_false c4
    clear c4
    obtain ⟨t194, A60, H⟩ := bnd_ H
    try dsimp only at H
    by_cases c61 : t194 = true
    ·subst c61
     rw [if_pos rfl] at H
     simp only [Option.some.injEq, Prod.mk.injEq] at H
     obtain ⟨rfl, rfl⟩ := H
     obtain ⟨Ao62, co62, eo62⟩ := Kd.S_slice HO_5.out
     subst eo62
     go_wp2_with (first | (go_at_call 37; refine (impl_summed.delete _ x5_1 W1.heap.size _ HO_5.out HB.out.size).mono ?_; rintro e w61 ⟨vd, rfl, hSd, hbd⟩; obtain ⟨Ad, cd, ed⟩ := Kd.S_slice hSd; subst ed; have n0_ := Aside0.mk hSd; have n1_ := Aside0.mk (HB.out.trans hbd); clear HO_5; clear HB; have HO_5 := n0_; have HB := n1_; clear n0_ n1_ hSd hbd) | (refine gl_ 39 (some 56) Tryd.func39 #[.slice Ad (impl_summed.delF x5_1).length cd, .func (.func 40) #[] #[]] ?_; (with_reducible refine (slices_ContainsFunc_impl_summed_2.calls k1 _ _ (impl_summed.delF x5_1) () true _ ?side1 ?side2 A60.out).mono ?_); (case side1 => exact cC_ ((Kd.S_reads' HO_5.out).2.2)); (case side2 => exact (Kd.S_reads' HO_5.out).2.1); rintro e w63 ⟨rfl, hb⟩; refine ⟨_, rfl, ?_⟩; replace HO_5 := Aside0.mk (Kd.S_below b4_3 hb); replace HB := Aside0.mk (below_step cB0_ hb); (try clear hb); (try clear hb2); (try clear hk); (try clear hi)))
     go_ret2
     exact ⟨_, ce_, q4_0, HQ.out.below0.trans (Below.mono cB0_ HQ.out.below0.size)⟩
    replace c61 := Bool.eq_false_iff.mpr c61
    subst c61
    rw [if_neg (show ¬ (false = true) by decide)] at H
    by_cases c64 : ((impl_summed.delF x5_1).length : Int) > 200
    ·rw [if_pos c64] at H
     have c64b0 : decide (200 < ((impl_summed.delF x5_1).length : Int)) = true := decide_eq_true c64
     have c64b1 : decide (200 < (impl_summed.delF x5_1).length) = true := decide_eq_true (by omega)
     clear c64
     simp only [Option.some.injEq, Prod.mk.injEq] at H
     obtain ⟨rfl, rfl⟩ := H
     obtain ⟨Ao65, co65, eo65⟩ := Kd.S_slice HO_5.out
     subst eo65
     go_wp2_with (first | (go_at_call 37; refine (impl_summed.delete _ x5_1 W1.heap.size _ HO_5.out HB.out.size).mono ?_; rintro e w61 ⟨vd, rfl, hSd, hbd⟩; obtain ⟨Ad, cd, ed⟩ := Kd.S_slice hSd; subst ed; have n0_ := Aside0.mk hSd; have n1_ := Aside0.mk (HB.out.trans hbd); clear HO_5; clear HB; have HO_5 := n0_; have HB := n1_; clear n0_ n1_ hSd hbd) | (refine gl_ 39 (some 56) Tryd.func39 #[.slice Ad (impl_summed.delF x5_1).length cd, .func (.func 40) #[] #[]] ?_; (with_reducible refine (slices_ContainsFunc_impl_summed_2.calls k1 _ _ (impl_summed.delF x5_1) () false _ ?side1 ?side2 A60.out).mono ?_); (case side1 => exact cC_ ((Kd.S_reads' HO_5.out).2.2)); (case side2 => exact (Kd.S_reads' HO_5.out).2.1); rintro e w66 ⟨rfl, hb⟩; refine ⟨_, rfl, ?_⟩; replace HO_5 := Aside0.mk (Kd.S_below b4_3 hb); replace HB := Aside0.mk (below_step cB0_ hb); (try clear hb); (try clear hb2); (try clear hk); (try clear hi)))
     go_ret2
     exact ⟨_, ce_, q4_0, HQ.out.below0.trans (Below.mono cB0_ HQ.out.below0.size)⟩
    rw [if_neg c64] at H
    have c64b0 : decide (200 < ((impl_summed.delF x5_1).length : Int)) = false := decide_eq_false c64
    have c64b1 : decide (200 < (impl_summed.delF x5_1).length) = false := decide_eq_false (by omega)
    clear c64
    simp only [Option.some.injEq, Prod.mk.injEq] at H
    obtain ⟨rfl, rfl⟩ := H
    obtain ⟨Ao67, co67, eo67⟩ := Kd.S_slice HO_5.out
    subst eo67
    go_wp2_with (first | (go_at_call 37; refine (impl_summed.delete _ x5_1 W1.heap.size _ HO_5.out HB.out.size).mono ?_; rintro e w61 ⟨vd, rfl, hSd, hbd⟩; obtain ⟨Ad, cd, ed⟩ := Kd.S_slice hSd; subst ed; have n0_ := Aside0.mk hSd; have n1_ := Aside0.mk (HB.out.trans hbd); clear HO_5; clear HB; have HO_5 := n0_; have HB := n1_; clear n0_ n1_ hSd hbd) | (refine gl_ 39 (some 56) Tryd.func39 #[.slice Ad (impl_summed.delF x5_1).length cd, .func (.func 40) #[] #[]] ?_; (with_reducible refine (slices_ContainsFunc_impl_summed_2.calls k1 _ _ (impl_summed.delF x5_1) () false _ ?side1 ?side2 A60.out).mono ?_); (case side1 => exact cC_ ((Kd.S_reads' HO_5.out).2.2)); (case side2 => exact (Kd.S_reads' HO_5.out).2.1); rintro e w68 ⟨rfl, hb⟩; refine ⟨_, rfl, ?_⟩; replace HO_5 := Aside0.mk (Kd.S_below b4_3 hb); replace HB := Aside0.mk (below_step cB0_ hb); (try clear hb); (try clear hb2); (try clear hk); (try clear hi)))
    go_ret2
    exact ⟨_, ce_, Kd.S_lower b4_3 HQ.out.below0.size, HQ.out.below0.trans (Below.mono cB0_ HQ.out.below0.size)⟩
   rw [if_pos c4] at H
   have c4b0 : decide (x15_1 < (l1.length : Int)) = true := decide_eq_true c4
   clear c4
   by_cases c5 : 0 ≤ x15_1
   rotate_left
   ·rw [if_neg c5] at H
    exact absurd H (by simp)
   rw [if_pos c5] at H
   have c5b0 : decide (0 ≤ x15_1) = true := decide_eq_true c5
   clear c5
   by_cases c6 : x15_1 < (l1.length : Int)
   rotate_left
   ·rw [if_neg c6] at H
    exact absurd H (by simp)
   rw [if_pos c6] at H
   have c6b0 : decide (x15_1 < (l1.length : Int)) = true := decide_eq_true c6
   clear c6
   by_cases c7 : x15_1 = 0
   ·rw [if_pos c7] at H
    have c7b0 : (x15_1 == 0) = true := beq_iff_eq.mpr c7
    have c7b1 : (x15_1 != 0) = false := bne_eq_false_iff_eq.mpr c7
    clear c7
    obtain ⟨t174, A8, H⟩ := bnd_ H
    try dsimp only at H
    by_cases c9 : x5_1.length < 4398046511104
    rotate_left
    ·rw [if_neg c9] at H
     exact absurd H (by simp)
    rw [if_pos c9] at H
    have LMc9 := Aside0.mk c9
    clear c9
    obtain ⟨y177, hy_⟩ : ∃ y_ : List (S31), y_ = (x5_1 ++ [(⟨t174, 0⟩ : S31)]) := ⟨_, rfl⟩
    replace H : (if 0 ≤ (wrap64 ((y177.length : Int) - 1)) then (if (wrap64 ((y177.length : Int) - 1)) < (y177.length : Int) then (impl_summed.l0 k1 l1 (y177.set ((wrap64 ((y177.length : Int) - 1)) : Int).toNat (⟨(rd_T31 y177 (wrap64 ((y177.length : Int) - 1))).f0, wrap64 (((rd_T31 y177 (wrap64 ((y177.length : Int) - 1))).f1) + ((rd_T31 l1 x15_1).f1))⟩ : S31)) l1 (l1.length : Int) (wrap64 (x15_1 + 1))) else (none)) else (none)) = some (r1, r2) := yb_
    have Ny177 := Aside0.mk hy_
    clear hy_
    obtain ⟨ji10, hji10⟩ : ∃ j_ : Int, (wrap64 ((y177.length : Int) - 1)) = j_ := ⟨_, rfl⟩
    replace H : (if 0 ≤ (ji10) then (if (ji10) < (y177.length : Int) then (impl_summed.l0 k1 l1 (y177.set ((ji10) : Int).toNat (⟨(rd_T31 y177 (ji10)).f0, wrap64 (((rd_T31 y177 (ji10)).f1) + ((rd_T31 l1 x15_1).f1))⟩ : S31)) l1 (l1.length : Int) (wrap64 (x15_1 + 1))) else (none)) else (none)) = some (r1, r2) := by first | (rw [hji10] at H; exact H) | (simp only [hji10] at H ⊢; exact H)
    (try rw [hji10] at A8)
    have hji10w : (IntKind.i64.wrap ((y177.length : Int) - 1)) = ji10 := (i64_w _).trans hji10
    by_cases c11 : 0 ≤ (ji10)
    rotate_left
    ·rw [if_neg c11] at H
     exact absurd H (by simp)
    rw [if_pos c11] at H
    have c11b0 : decide (0 ≤ (ji10)) = true := decide_eq_true c11
    clear c11
    by_cases c12 : (ji10) < (y177.length : Int)
    rotate_left
    ·rw [if_neg c12] at H
     exact absurd H (by simp)
    rw [if_pos c12] at H
    have c12b0 : decide ((ji10) < (y177.length : Int)) = true := decide_eq_true c12
    clear c12
    obtain ⟨y181, hy_⟩ : ∃ y_ : List (S31), y_ = (y177.set ((ji10) : Int).toNat (⟨(rd_T31 y177 (ji10)).f0, wrap64 (((rd_T31 y177 (ji10)).f1) + ((rd_T31 l1 x15_1).f1))⟩ : S31)) := ⟨_, rfl⟩
    replace H : (impl_summed.l0 k1 l1 y181 l1 (l1.length : Int) (wrap64 (x15_1 + 1))) = some (r1, r2) := yb_
    have Ny181 := Aside0.mk hy_
    clear hy_
    have H' := Aside0.mk H
    clear H
    have p172 : 0 ≤ (x15_1 : Int) := of_decide_eq_true ca_
    have q172 : x15_1 < (l1.length : Int) := of_decide_eq_true ca_
    obtain ⟨ad172, A172_0, c172_0, e172, hx172_0, hx172_1, hl172_0, hi172_0⟩ := at_T31 HR0.out x15_1 p172 q172
    cases e172
    replace hx172_0 := (HB.out.cell (World.block_lt_of_cell? W1 _ hx172_0)).trans hx172_0
    replace hx172_1 := (HB.out.cell (World.block_lt_of_cell? W1 _ hx172_1)).trans hx172_1
    have HR172_0 := Aside0.mk hi172_0
    have HC172_0 := Aside0.mk hl172_0
    clear hi172_0 hl172_0
    replace p172 := eq_true p172
    replace q172 := eq_true q172
    try go_wp2_with (first | (refine bx_ 7 #[.slice none 0 0, .int .i64 0] 31 ?_; intro gb173 hg w14 hbox hb; replace HO_5 := Aside0.mk (Kd.S_below (Kd.S_elderB b4_3 gb173 (Nat.le_of_eq hg.symm)) hb); have BK173 := Aside0.mk (hbox); have GW173 := Aside0.mk ((by rw [hg]; exact (below_size cB0_) : W1.heap.size ≤ gb173)); have GE173 := Aside0.mk ((by rw [hg]; exact (below_size cB0_) : W1.heap.size ≤ gb173)); replace HB := Aside0.mk (below_step cB0_ hb); clear hb hbox hg; obtain ⟨hcz15_0, hcz15_1, hfz15_0, hfz15_1⟩ := cells2 BK173.out))
    have n0_ : Aside0 (Kd.S k31 31 ((w14.setCell ⟨gb173, 0, none⟩ (.slice A172_0 ((rd_T31 l1 x15_1).f0).length c172_0)).setCell ⟨gb173, 1, none⟩ (.int .i64 ((rd_T31 l1 x15_1).f1))) W1.heap.size (fun k_ => k_ ≠ gb173) u5 x5_1) := ⟨by refine cS_ ?_; exact Kd.S_mono (Kd.S_far (p := ⟨gb173, 1, none⟩) (Kd.S_far (p := ⟨gb173, 0, none⟩) (Kd.S_mono HO_5.out (fun k_ hk => (⟨hk, hk.2⟩ : _ ∧ k_ ≠ gb173))) (fun _ hk => hk.2) (.slice A172_0 ((rd_T31 l1 x15_1).f0).length c172_0)) (fun _ hk => hk.2) (.int .i64 ((rd_T31 l1 x15_1).f1))) (fun _ hk => hk.1.2)⟩
    have n1_ : Aside0 (((w14.setCell ⟨gb173, 0, none⟩ (.slice A172_0 ((rd_T31 l1 x15_1).f0).length c172_0)).setCell ⟨gb173, 1, none⟩ (.int .i64 ((rd_T31 l1 x15_1).f1))).heap[gb173]? = some (.cells #[.slice A172_0 ((rd_T31 l1 x15_1).f0).length c172_0, .int .i64 ((rd_T31 l1 x15_1).f1)] 31 (0, 0))) := ⟨by refine cO_ ?_; refine blk_put (cs := #[.slice A172_0 ((rd_T31 l1 x15_1).f0).length c172_0, .int .i64 0]) ?_ 1 _ rfl; refine cO_ ?_; refine blk_put (cs := #[.slice none 0 0, .int .i64 0]) ?_ 0 _ rfl; refine cO_ ?_; exact BK173.out⟩
    have n2_ : Aside0 (Below W1.heap.size W1 ((w14.setCell ⟨gb173, 0, none⟩ (.slice A172_0 ((rd_T31 l1 x15_1).f0).length c172_0)).setCell ⟨gb173, 1, none⟩ (.int .i64 ((rd_T31 l1 x15_1).f1)))) := ⟨cB1_ GE173.out⟩
    (try clear HO_5)
    (try clear BK173)
    (try clear HB)
    generalize ((w14.setCell ⟨gb173, 0, none⟩ (.slice A172_0 ((rd_T31 l1 x15_1).f0).length c172_0)).setCell ⟨gb173, 1, none⟩ (.int .i64 ((rd_T31 l1 x15_1).f1))) = w16 at n0_ n1_ n2_ ⊢
    have HO_5 := n0_
    have BK173 := n1_
    have HB := n2_
    clear n0_ n1_ n2_
    replace HO_5 := Aside0.mk (Kd.S_drew HO_5.out)
    replace BK173 := Aside0.mk (blk_drew BK173.out)
    replace HB := Aside0.mk (below_drew1 HB.out)
    refine start_ (n := 12) (S := fun w' => True) (ds := []) (bl 12 0) (by kernel_rfl) rfl rfl trivial (fun hHeld => ?_); refine with_tabW impl_summed.tab6 impl_summed.bits6 (fun HT_ HW_ => ?_)
    generalize w16.drew = w17 at HO_5 BK173 HB hHeld ⊢
    refine pu_ 0 (some 20) (bl 12 1) HT_.out rfl ?_
    refine pu_ 1 (some 21) (bl 12 3) HT_.out rfl ?_
    refine pu_ 2 (some 22) (bl 12 7) HT_.out rfl ?_
    refine un_ 3 (some 23) (bl 12 15) HT_.out rfl ?_
    refine un_ 4 (some 24) (bl 12 31) HT_.out rfl ?_
    refine un_ 5 (some 25) (bl 12 63) HT_.out rfl ?_
    refine un_ 6 (some 26) (bl 12 127) HT_.out rfl ?_
    refine un_ 7 (some 27) (bl 12 255) HT_.out rfl ?_
    refine un_ 8 (some 28) (bl 12 511) HT_.out rfl ?_
    refine un_ 9 (some 29) (bl 12 1023) HT_.out rfl ?_
    refine un_ 10 (some 30) (bl 12 2047) HT_.out rfl ?_
    refine pu_ 11 (some 31) (bl 12 4095) HT_.out rfl ?_
    refine done_ (done_of HT_.out (by kernel_rfl)) ?_
    obtain ⟨hcz18_0, hcz18_1, hfz18_0, hfz18_1⟩ := cells2 BK173.out
    try go_wp2_with (first | (refine gl_ 36 (some 35) Tryd.func36 #[.slice A172_0 ((rd_T31 l1 x15_1).f0).length c172_0] ?_; (with_reducible refine (slices_Clone_int64_int64.calls _ _ ((rd_T31 l1 x15_1).f0) t174 _ ?side1 ?side2 A8.out).mono ?_); (case side1 => exact b4_6); (case side2 => exact HC172_0.out); rintro e w19 ⟨v175, rfl, ho0, hb⟩; refine ⟨_, rfl, ?_⟩; replace HO_5 := Aside0.mk (Kd.S_elder' b4_3 (Kd.R_base ho0) hb); have HO176 := Aside0.mk (Kd.R_lower ho0 (below_size b4_2)); replace BK173 := Aside0.mk (blk_below (g := gb173) (o := .cells #[.slice A172_0 ((rd_T31 l1 x15_1).f0).length c172_0, .int .i64 ((rd_T31 l1 x15_1).f1)] 31 (0, 0)) b4_4 hb); replace HB := Aside0.mk (below_step b4_2 hb); (try clear hb); (try clear hb2); (try clear hk); (try clear hi); (try clear ho0); obtain ⟨Ao20, co20, eo20⟩ := Kd.R_slice HO176.out; subst eo20) | ((with_reducible refine gate_builtin (b := .append) (xs := #[.tmp 32, .tmp 37]) rfl ?_); at_builtin; refine Kd.S_append k31 (w0 := W1) W1.heap.size rfl (.tmp 32) (.tmp 37) 24 31 (.agg #[(.slice none 0 0), (.int .i64 0)]) 32 rfl Tryd.underlying24 info31 rfl (by decide) (by omega) u5 x5_1 (⟨t174, 0⟩ : S31) [.slice Ao20 t174.length co20, .int .i64 0] (fun k_ => k_ ≠ gb173) (fun k_ => some k_ = (.slice Ao20 t174.length co20 : Value).ownBlock) rfl rfl ?aP (fun k_ hk_ => ((Kd.R_mono (ok' := fun k_ => ((fun k_ => k_ ≠ gb173)) k_ ∧ some k_ ≠ (u5 : Value).ownBlock) (Kd.R_types (Kd.R_apart' (HO176.out) (Kd.S_typed HO_5.out) (by decide)) BK173.out (by decide)) (fun k_ hk => ⟨hk.2, hk.1.2⟩))).1 k_ hk_.symm) ?aF ?aO ?aB ?aS ?aL ?_; (case aP => exact (by exact k31_mkM _ _ _ (⟨t174, 0⟩ : S31) (Kd.R_mono (Kd.R_tight rfl (Kd.R_mono (ok' := fun k_ => ((fun k_ => k_ ≠ gb173)) k_ ∧ some k_ ≠ (u5 : Value).ownBlock) (Kd.R_types (Kd.R_apart' (HO176.out) (Kd.S_typed HO_5.out) (by decide)) BK173.out (by decide)) (fun k_ hk => ⟨hk.2, hk.1.2⟩))) (fun _ h_ => h_)))); (case aB => exact b4_2); (case aF => exact (by exact (fun k_ hk => Kd.freshB (g := gb173) (o := .cells #[.slice A172_0 ((rd_T31 l1 x15_1).f0).length c172_0, .int .i64 ((rd_T31 l1 x15_1).f1)] 31 (0, 0)) b4_4 k_ hk))); (case aO => exact (by exact (by refine cS_ ?_; exact Kd.S_mono HO_5.out (fun k_ hk => ⟨hk.1, fun e_ => hk.2 e_⟩)))); (case aS => exact (by exact (below_size b4_2))); (case aL => exact co_ LMc9.out); intro v178 w21 ho hb hg hat; rw [← Ny177.out] at ho; replace BK173 := Aside0.mk (blk_grown (g := gb173) (o := .cells #[.slice A172_0 ((rd_T31 l1 x15_1).f0).length c172_0, .int .i64 ((rd_T31 l1 x15_1).f1)] 31 (0, 0)) b4_4 hg (Kd.S_away HO_5.out (fun _ hk => hk.1))); replace HB := Aside0.mk (hb); have HO179 := Aside0.mk (ho); clear HO_5; clear HO176; clear ho hb hg hat))
    replace HO179 := Aside0.mk (Kd.S_drew HO179.out)
    replace BK173 := Aside0.mk (blk_drew BK173.out)
    replace HB := Aside0.mk (below_drew1 HB.out)
    obtain ⟨Ao23, co23, eo23⟩ := Kd.S_slice HO179.out
    (first | subst eo23 | (injection eo23 with f1_ f2_ f3_; have f4_ := f1_.symm; have f5_ := f3_.symm; clear f1_ f2_ f3_; subst f4_; subst f5_))
    have p180 : 0 ≤ ((ji10) : Int) := of_decide_eq_true ca_
    have q180 : (ji10) < (y177.length : Int) := of_decide_eq_true ca_
    obtain ⟨ad180, A180_0, c180_0, e180, hx180_0, hx180_1, hl180_0, hi180_0⟩ := at_T31 (Kd.S_reads' HO179.out).2.2 (ji10) p180 q180
    cases e180
    obtain ⟨ce180, hce180, hMe180, hcc180⟩ := Kd.S_get HO179.out z31 (ji10) p180 (by first | exact q180 | exact of_decide_eq_true ca_ | (have e_ := (Kd.S_reads' HO179.out).1; omega))
    obtain ⟨ve180_0, rfl, ge180_0⟩ := k31_openM hMe180
    have hv180_0 := hcc180 0 _ rfl
    rw [Nat.add_zero] at hv180_0
    replace hv180_0 := Option.some.inj (hv180_0.symm.trans hx180_0)
    rw [hv180_0] at ge180_0
    have HL180_0 := Aside0.mk (show Kd.R (Kd.int .i64) 2 _ _ _ _ ((rd_T31 y177 (ji10)).f0) from ge180_0)
    clear hv180_0 ge180_0
    clear hcc180 hce180
    have HR180_0 := Aside0.mk hi180_0
    have HC180_0 := Aside0.mk hl180_0
    clear hi180_0 hl180_0
    replace p180 := eq_true p180
    replace q180 := eq_true q180
    have p13 : 0 ≤ ((ji10) : Int) := of_decide_eq_true ca_
    have q13 : ((ji10) : Int) < ((y177.length : Int) : Int) := of_decide_eq_true ca_
    obtain ⟨go13, co13, eo13, gb13, gl13, cl13, HG13⟩ := Kd.S_form HO179.out (by omega)
    (first | cases eo13 | (injection eo13 with ea_ en_ ec_; (first | subst ea_ | (injection ea_ with ea_; subst ea_)); subst ec_; clear en_))
    have GB13 := Aside0.mk gb13
    have GG13 := Aside0.mk HG13
    clear gb13 gl13 HG13
    (first | simp only [add_plain] at hx180_0 | skip)
    (first | simp only [add_plain] at hx180_1 | skip)
    obtain ⟨_, ce13, hcl13, hM13, hcc13, hfr13, _, _⟩ := Kd.S_elem HO179.out z31 ((ji10) : Int) p13 q13
    obtain ⟨ve13_0, rfl, ge13_0⟩ := k31_openM hM13
    have hx13_0 : World.cell? _ ⟨go13, ((ji10) : Int).toNat * 2, none⟩ = some (ve13_0) := hcc13 0 _ rfl
    have hx13_1 : World.cell? _ ⟨go13, ((ji10) : Int).toNat * 2 + 1, none⟩ = some (.int .i64 ((rd_T31 y177 (ji10)).f1)) := hcc13 1 _ rfl
    have hf13_0 : World.frozen? _ ⟨go13, ((ji10) : Int).toNat * 2, none⟩ = false := hfr13 0
    have hf13_1 : World.frozen? _ ⟨go13, ((ji10) : Int).toNat * 2 + 1, none⟩ = false := hfr13 1
    (try clear hM13); clear hcl13 hcc13 hfr13
    replace p13 := eq_true p13
    replace q13 := eq_true q13
    have HX24 := Aside0.mk (show Kd.S k31 31 _ W1.heap.size (fun k_ => ((fun k_ => k_ ≠ gb173)) k_ ∧ ¬ (fun _ => False) k_) (.slice (some ⟨go13, 0, none⟩) y177.length co23) y177 from (by exact Kd.S_mono HO179.out (fun k_ hk => ⟨hk, fun e_ => e_⟩)))
    obtain ⟨oki24, ce24, hcl24, hM24, hcc24, hfr24, hoki24, hH24⟩ := Kd.S_elem HX24.out z31 ((ji10) : Int) (of_decide_eq_true ca_) (by have h_ : ((ji10) : Int) < ((y177.length : Int) : Int) := of_decide_eq_true ca_; first | exact h_ | (have e_ := (Kd.S_reads' HO179.out).1; omega) | simpa using h_)
    obtain ⟨ve24_0, rfl, ge24_0⟩ := k31_openM hM24
    have HP24 := (Kd.S_seg hH24 (of_decide_eq_true ca_) (by have h_ : ((ji10) : Int) < ((y177.length : Int) : Int) := of_decide_eq_true ca_; first | exact h_ | (have e_ := (Kd.S_reads' HO179.out).1; omega) | simpa using h_) (seg := [.int .i64 (wrap64 (((rd_T31 y177 (ji10)).f1) + ((rd_T31 l1 x15_1).f1)))]) (j := 1) (show 2 ≤ 2 from by decide) (x' := (⟨(rd_T31 y177 (ji10)).f0, wrap64 (((rd_T31 y177 (ji10)).f1) + ((rd_T31 l1 x15_1).f1))⟩ : S31)) (k31_mkM _ _ _ (⟨(rd_T31 y177 (ji10)).f0, wrap64 (((rd_T31 y177 (ji10)).f1) + ((rd_T31 l1 x15_1).f1))⟩ : S31) ge24_0) (fun _ hk => Or.inl hk) (fun _ hk => hk.elim)).1
    rw [← Ny181.out] at HP24
    have HQ24 := Aside0.mk HP24
    (try clear hM24); clear hcl24 hcc24 hfr24 HP24
    refine start_ (n := 13) (S := fun w' => w'.cell? ⟨gb173, 0, none⟩ = some (.slice A172_0 ((rd_T31 l1 x15_1).f0).length c172_0) ∧ w'.cell? ⟨gb173, 1, none⟩ = some (.int .i64 ((rd_T31 l1 x15_1).f1)) ∧ w'.cell? ⟨go13, ((ji10)).toNat * 2, none⟩ = some (.slice A180_0 ((rd_T31 y177 (ji10)).f0).length c180_0) ∧ w'.cell? ⟨go13, ((ji10)).toNat * 2 + 1, none⟩ = some (.int .i64 ((rd_T31 y177 (ji10)).f1))) (ds := [12]) (bl 13 0) (by kernel_rfl) rfl rfl ⟨(blk_cell BK173.out 0).trans rfl, (blk_cell BK173.out 1).trans rfl, hx180_0, hx180_1⟩ (fun hHeld => ?_); refine with_tabW impl_summed.tab8 impl_summed.bits8 (fun HT_ HW_ => ?_)
    generalize w21.drew = w22 at HO179 BK173 HB GG13 HL180_0 HQ24 HR180_0 hf13_0 hf13_1 hx13_0 hx13_1 hx180_0 hx180_1 hHeld ⊢
    refine pu_ 0 (some 39) (bl 13 1) HT_.out rfl ?_
    refine pu_ 1 (some 40) (bl 13 3) HT_.out rfl ?_
    refine pu_ 2 (some 41) (bl 13 7) HT_.out rfl ?_
    refine pu_ 3 (some 42) (bl 13 15) HT_.out rfl ?_
    refine pu_ 4 (some 43) (bl 13 31) HT_.out rfl ?_
    refine pu_ 5 (some 44) (bl 13 63) HT_.out rfl ?_
    refine pu_ 7 (some 46) (bl 13 191) HT_.out rfl ?_
    refine tw_ 6 (some 45) (bl 13 255) HT_.out HW_.out rfl hHeld (fun w' s_ => by obtain ⟨s0, s1, s2, s3⟩ := s_; go_simp; with_reducible rfl) ?_
    refine tw_ 8 (some 47) (bl 13 511) HT_.out HW_.out rfl hHeld (fun w' s_ => by obtain ⟨s0, s1, s2, s3⟩ := s_; go_simp; with_reducible rfl) ?_
    refine pu_ 9 (some 48) (bl 13 1023) HT_.out rfl ?_
    refine pu_ 10 (some 49) (bl 13 2047) HT_.out rfl ?_
    refine pu_ 11 (some 50) (bl 13 4095) HT_.out rfl ?_
    refine last_ (i := 12) (N := none) (bl 13 8191) rfl rfl (one_of HT_.out (by kernel_rfl)) (by decide) (fun K hK => ?_)
    refine skip_ (w1 := ?_) (by rfl) rfl ?_ ?_
    rotate_left
    ·go_simp
     rfl
    refine hK.out _ _ ?_
    clear hK K
    refine done_ (done_of HT_.out (by kernel_rfl)) ?_
    try go_wp2
    go_roundg k1
    case measure => have := HK1.out; omega
    case rel => exact ⟨(y181), (wrap64 (x15_1 + 1)), cs_, H', ⟨co_ HK1.out⟩, ⟨by refine cS_ ?_; exact Kd.S_mono HQ24.out (fun _ hk => trivial)⟩, ⟨cB2_ GB13.out GE173.out⟩⟩
   rw [if_neg c7] at H
   have c7b0 : (x15_1 == 0) = false := beq_eq_false_iff_ne.mpr c7
   have c7b1 : (x15_1 != 0) = true := bne_iff_ne.mpr c7
   obtain ⟨ji25, hji25⟩ : ∃ j_ : Int, (wrap64 (x15_1 - 1)) = j_ := ⟨_, rfl⟩
   replace H : (if 0 ≤ (ji25) then (if (ji25) < (l1.length : Int) then ((impl_byRow.f k1 ((rd_T31 l1 (ji25)).f0) ((rd_T31 l1 (ji25)).f1) ((rd_T31 l1 x15_1).f0) ((rd_T31 l1 x15_1).f1)).bind fun t183 => (if t183 = 0 then (if 0 ≤ (wrap64 ((x5_1.length : Int) - 1)) then (if (wrap64 ((x5_1.length : Int) - 1)) < (x5_1.length : Int) then (impl_summed.l0 k1 l1 (x5_1.set ((wrap64 ((x5_1.length : Int) - 1)) : Int).toNat (⟨(rd_T31 x5_1 (wrap64 ((x5_1.length : Int) - 1))).f0, wrap64 (((rd_T31 x5_1 (wrap64 ((x5_1.length : Int) - 1))).f1) + ((rd_T31 l1 x15_1).f1))⟩ : S31)) l1 (l1.length : Int) (wrap64 (x15_1 + 1))) else (none)) else (none)) else ((slices_Clone_int64_int64.f ((rd_T31 l1 x15_1).f0)).bind fun t186 => (if x5_1.length < 4398046511104 then ((some (x5_1 ++ [(⟨t186, 0⟩ : S31)] : List (S31))).bind fun y189 => (if 0 ≤ (wrap64 ((y189.length : Int) - 1)) then (if (wrap64 ((y189.length : Int) - 1)) < (y189.length : Int) then (impl_summed.l0 k1 l1 (y189.set ((wrap64 ((y189.length : Int) - 1)) : Int).toNat (⟨(rd_T31 y189 (wrap64 ((y189.length : Int) - 1))).f0, wrap64 (((rd_T31 y189 (wrap64 ((y189.length : Int) - 1))).f1) + ((rd_T31 l1 x15_1).f1))⟩ : S31)) l1 (l1.length : Int) (wrap64 (x15_1 + 1))) else (none)) else (none))) else (none))))) else (none)) else (none)) = some (r1, r2) := by first | (rw [hji25] at H; exact H) | (simp only [hji25] at H ⊢; exact H)
   have hji25w : (IntKind.i64.wrap (x15_1 - 1)) = ji25 := (i64_w _).trans hji25
   by_cases c26 : 0 ≤ (ji25)
   rotate_left
   ·rw [if_neg c26] at H
    exact absurd H (by simp)
   rw [if_pos c26] at H
   have c26b0 : decide (0 ≤ (ji25)) = true := decide_eq_true c26
   clear c26
   by_cases c27 : (ji25) < (l1.length : Int)
   rotate_left
   ·rw [if_neg c27] at H
    exact absurd H (by simp)
   rw [if_pos c27] at H
   have c27b0 : decide ((ji25) < (l1.length : Int)) = true := decide_eq_true c27
   clear c27
   obtain ⟨t183, A28, H⟩ := bnd_ H
   try dsimp only at H
   by_cases c29 : t183 = 0
   ·rw [if_pos c29] at H
    have c29b0 : (t183 == 0) = true := beq_iff_eq.mpr c29
    have c29b1 : (t183 != 0) = false := bne_eq_false_iff_eq.mpr c29
    clear c29
    obtain ⟨ji30, hji30⟩ : ∃ j_ : Int, (wrap64 ((x5_1.length : Int) - 1)) = j_ := ⟨_, rfl⟩
    replace H : (if 0 ≤ (ji30) then (if (ji30) < (x5_1.length : Int) then (impl_summed.l0 k1 l1 (x5_1.set ((ji30) : Int).toNat (⟨(rd_T31 x5_1 (ji30)).f0, wrap64 (((rd_T31 x5_1 (ji30)).f1) + ((rd_T31 l1 x15_1).f1))⟩ : S31)) l1 (l1.length : Int) (wrap64 (x15_1 + 1))) else (none)) else (none)) = some (r1, r2) := by first | (rw [hji30] at H; exact H) | (simp only [hji30] at H ⊢; exact H)
    (try rw [hji30] at A28)
    have hji30w : (IntKind.i64.wrap ((x5_1.length : Int) - 1)) = ji30 := (i64_w _).trans hji30
    by_cases c31 : 0 ≤ (ji30)
    rotate_left
    ·rw [if_neg c31] at H
     exact absurd H (by simp)
    rw [if_pos c31] at H
    have c31b0 : decide (0 ≤ (ji30)) = true := decide_eq_true c31
    clear c31
    by_cases c32 : (ji30) < (x5_1.length : Int)
    rotate_left
    ·rw [if_neg c32] at H
     exact absurd H (by simp)
    rw [if_pos c32] at H
    have c32b0 : decide ((ji30) < (x5_1.length : Int)) = true := decide_eq_true c32
    clear c32
    obtain ⟨y185, hy_⟩ : ∃ y_ : List (S31), y_ = (x5_1.set ((ji30) : Int).toNat (⟨(rd_T31 x5_1 (ji30)).f0, wrap64 (((rd_T31 x5_1 (ji30)).f1) + ((rd_T31 l1 x15_1).f1))⟩ : S31)) := ⟨_, rfl⟩
    replace H : (impl_summed.l0 k1 l1 y185 l1 (l1.length : Int) (wrap64 (x15_1 + 1))) = some (r1, r2) := yb_
    have Ny185 := Aside0.mk hy_
    clear hy_
    have H' := Aside0.mk H
    clear H
    have p172 : 0 ≤ (x15_1 : Int) := of_decide_eq_true ca_
    have q172 : x15_1 < (l1.length : Int) := of_decide_eq_true ca_
    obtain ⟨ad172, A172_0, c172_0, e172, hx172_0, hx172_1, hl172_0, hi172_0⟩ := at_T31 HR0.out x15_1 p172 q172
    cases e172
    replace hx172_0 := (HB.out.cell (World.block_lt_of_cell? W1 _ hx172_0)).trans hx172_0
    replace hx172_1 := (HB.out.cell (World.block_lt_of_cell? W1 _ hx172_1)).trans hx172_1
    have HR172_0 := Aside0.mk hi172_0
    have HC172_0 := Aside0.mk hl172_0
    clear hi172_0 hl172_0
    replace p172 := eq_true p172
    replace q172 := eq_true q172
    try go_wp2_with (first | (refine bx_ 7 #[.slice none 0 0, .int .i64 0] 31 ?_; intro gb173 hg w34 hbox hb; replace HO_5 := Aside0.mk (Kd.S_below (Kd.S_elderB b4_3 gb173 (Nat.le_of_eq hg.symm)) hb); have BK173 := Aside0.mk (hbox); have GW173 := Aside0.mk ((by rw [hg]; exact (below_size cB0_) : W1.heap.size ≤ gb173)); have GE173 := Aside0.mk ((by rw [hg]; exact (below_size cB0_) : W1.heap.size ≤ gb173)); replace HB := Aside0.mk (below_step cB0_ hb); clear hb hbox hg; obtain ⟨hcz35_0, hcz35_1, hfz35_0, hfz35_1⟩ := cells2 BK173.out))
    have n0_ : Aside0 (Kd.S k31 31 ((w34.setCell ⟨gb173, 0, none⟩ (.slice A172_0 ((rd_T31 l1 x15_1).f0).length c172_0)).setCell ⟨gb173, 1, none⟩ (.int .i64 ((rd_T31 l1 x15_1).f1))) W1.heap.size (fun k_ => k_ ≠ gb173) u5 x5_1) := ⟨by refine cS_ ?_; exact Kd.S_mono (Kd.S_far (p := ⟨gb173, 1, none⟩) (Kd.S_far (p := ⟨gb173, 0, none⟩) (Kd.S_mono HO_5.out (fun k_ hk => (⟨hk, hk.2⟩ : _ ∧ k_ ≠ gb173))) (fun _ hk => hk.2) (.slice A172_0 ((rd_T31 l1 x15_1).f0).length c172_0)) (fun _ hk => hk.2) (.int .i64 ((rd_T31 l1 x15_1).f1))) (fun _ hk => hk.1.2)⟩
    have n1_ : Aside0 (((w34.setCell ⟨gb173, 0, none⟩ (.slice A172_0 ((rd_T31 l1 x15_1).f0).length c172_0)).setCell ⟨gb173, 1, none⟩ (.int .i64 ((rd_T31 l1 x15_1).f1))).heap[gb173]? = some (.cells #[.slice A172_0 ((rd_T31 l1 x15_1).f0).length c172_0, .int .i64 ((rd_T31 l1 x15_1).f1)] 31 (0, 0))) := ⟨by refine cO_ ?_; refine blk_put (cs := #[.slice A172_0 ((rd_T31 l1 x15_1).f0).length c172_0, .int .i64 0]) ?_ 1 _ rfl; refine cO_ ?_; refine blk_put (cs := #[.slice none 0 0, .int .i64 0]) ?_ 0 _ rfl; refine cO_ ?_; exact BK173.out⟩
    have n2_ : Aside0 (Below W1.heap.size W1 ((w34.setCell ⟨gb173, 0, none⟩ (.slice A172_0 ((rd_T31 l1 x15_1).f0).length c172_0)).setCell ⟨gb173, 1, none⟩ (.int .i64 ((rd_T31 l1 x15_1).f1)))) := ⟨cB1_ GE173.out⟩
    (try clear HO_5)
    (try clear BK173)
    (try clear HB)
    generalize ((w34.setCell ⟨gb173, 0, none⟩ (.slice A172_0 ((rd_T31 l1 x15_1).f0).length c172_0)).setCell ⟨gb173, 1, none⟩ (.int .i64 ((rd_T31 l1 x15_1).f1))) = w36 at n0_ n1_ n2_ ⊢
    have HO_5 := n0_
    have BK173 := n1_
    have HB := n2_
    clear n0_ n1_ n2_
    replace HO_5 := Aside0.mk (Kd.S_drew HO_5.out)
    replace BK173 := Aside0.mk (blk_drew BK173.out)
    replace HB := Aside0.mk (below_drew1 HB.out)
    have p182 : 0 ≤ ((ji25) : Int) := of_decide_eq_true ca_
    have q182 : (ji25) < (l1.length : Int) := of_decide_eq_true ca_
    obtain ⟨ad182, A182_0, c182_0, e182, hx182_0, hx182_1, hl182_0, hi182_0⟩ := at_T31 HR0.out (ji25) p182 q182
    have hw182_1 := hx182_1
    have hw182_0 := hx182_0
    obtain rfl : ad172 = ad182 := (by injection e182)
    replace hx182_0 := (HB.out.cell (World.block_lt_of_cell? W1 _ hx182_0)).trans hx182_0
    replace hx182_1 := (HB.out.cell (World.block_lt_of_cell? W1 _ hx182_1)).trans hx182_1
    have HR182_0 := Aside0.mk hi182_0
    have HC182_0 := Aside0.mk hl182_0
    clear hi182_0 hl182_0
    replace p182 := eq_true p182
    replace q182 := eq_true q182
    refine start_ (n := 12) (S := fun w' => w'.cell? ⟨gb173, 0, none⟩ = some (.slice A172_0 ((rd_T31 l1 x15_1).f0).length c172_0) ∧ w'.cell? ⟨gb173, 1, none⟩ = some (.int .i64 ((rd_T31 l1 x15_1).f1)) ∧ w'.cell? (ad172.add (((ji25)).toNat * 2)) = some (.slice A182_0 ((rd_T31 l1 (ji25)).f0).length c182_0) ∧ w'.cell? ⟨(ad172.add (((ji25)).toNat * 2)).block, (ad172.add (((ji25)).toNat * 2)).off + 1, none⟩ = some (.int .i64 ((rd_T31 l1 (ji25)).f1))) (ds := []) (bl 12 0) (by kernel_rfl) rfl rfl ⟨(blk_cell BK173.out 0).trans rfl, (blk_cell BK173.out 1).trans rfl, ((HB.out.cell (World.block_lt_of_cell? W1 _ hw182_0)).trans hw182_0), ((HB.out.cell (World.block_lt_of_cell? W1 _ hw182_1)).trans hw182_1)⟩ (fun hHeld => ?_); refine with_tabW impl_summed.tab6 impl_summed.bits6 (fun HT_ HW_ => ?_)
    generalize w36.drew = w37 at HO_5 BK173 HB HR182_0 hx182_0 hx182_1 hHeld ⊢
    refine pu_ 0 (some 20) (bl 12 1) HT_.out rfl ?_
    refine pu_ 1 (some 21) (bl 12 3) HT_.out rfl ?_
    refine pu_ 2 (some 22) (bl 12 7) HT_.out rfl ?_
    refine pu_ 3 (some 23) (bl 12 15) HT_.out rfl ?_
    refine pu_ 4 (some 24) (bl 12 31) HT_.out rfl ?_
    refine pu_ 5 (some 25) (bl 12 63) HT_.out rfl ?_
    refine pu_ 6 (some 26) (bl 12 127) HT_.out rfl ?_
    refine tw_ 7 (some 27) (bl 12 255) HT_.out HW_.out rfl hHeld (fun w' s_ => by obtain ⟨s0, s1, s2, s3⟩ := s_; go_simp; with_reducible rfl) ?_
    refine tw_ 8 (some 28) (bl 12 511) HT_.out HW_.out rfl hHeld (fun w' s_ => by obtain ⟨s0, s1, s2, s3⟩ := s_; go_simp; with_reducible rfl) ?_
    refine on_ 9 (some 29) (bl 12 1023) HT_.out rfl (fun K hK => ?_)
    refine goes_ Tryd.func35 (by kernel_rfl) rfl #[.agg #[.slice A182_0 ((rd_T31 l1 (ji25)).f0).length c182_0, .int .i64 ((rd_T31 l1 (ji25)).f1)], .agg #[.slice A172_0 ((rd_T31 l1 x15_1).f0).length c172_0, .int .i64 ((rd_T31 l1 x15_1).f1)]] (by rfl) rfl rfl (by (try simp only [List.map_toArray, List.map_cons, List.map_nil]); first | done | (simp only [hji25]; rfl) | rfl | (simp only [List.length_drop, List.length_take]; rfl)) ?_
    with_reducible refine (impl_byRow.calls k1 _ _ ((rd_T31 l1 (ji25)).f0) ((rd_T31 l1 (ji25)).f1) _ _ ((rd_T31 l1 x15_1).f0) ((rd_T31 l1 x15_1).f1) t183 _ ?side1 ?side2 ?side3 ?side4 A28.out).mono ?_
    (case side1 => exact cC_ (Kd.C_below HR182_0.out HB.out))
    (case side2 => exact HC182_0.out)
    (case side3 => exact b4_6)
    (case side4 => exact HC172_0.out)
    rintro e w38 ⟨rfl, hb⟩
    refine ⟨_, rfl, ?_⟩
    replace HO_5 := Aside0.mk (Kd.S_below b4_3 hb)
    replace BK173 := Aside0.mk (blk_below (g := gb173) (o := .cells #[.slice A172_0 ((rd_T31 l1 x15_1).f0).length c172_0, .int .i64 ((rd_T31 l1 x15_1).f1)] 31 (0, 0)) b4_4 hb)
    replace HB := Aside0.mk (below_step b4_2 hb)
    (try clear hb)
    (try clear hb2)
    (try clear hk)
    (try clear hi)
    refine hK.out _ _ ⟨(blk_cell BK173.out 0).trans rfl, (blk_cell BK173.out 1).trans rfl, ((HB.out.cell (World.block_lt_of_cell? W1 _ hw182_0)).trans hw182_0), ((HB.out.cell (World.block_lt_of_cell? W1 _ hw182_1)).trans hw182_1)⟩ (fun hHeld => ?_)
    clear hK K
    refine norm_ (a' := ?_) ?_ ?_
    rotate_left
    ·show Act.put _ (some 29) _ = _
     simp only [Act.put, List.setIfInBounds_toArray, List.set_cons_zero, List.set_cons_succ, i64_w, i32_w]
     rfl
    refine pu_ 10 (some 30) (bl 12 2047) HT_.out rfl ?_
    refine pu_ 11 (some 31) (bl 12 4095) HT_.out rfl ?_
    refine done_ (done_of HT_.out (by kernel_rfl)) ?_
    try go_wp2
    replace HO_5 := Aside0.mk (Kd.S_drew HO_5.out)
    replace BK173 := Aside0.mk (blk_drew BK173.out)
    replace HB := Aside0.mk (below_drew1 HB.out)
    obtain ⟨Ao40, co40, eo40⟩ := Kd.S_slice HO_5.out
    (first | subst eo40 | (injection eo40 with f1_ f2_ f3_; have f4_ := f1_.symm; have f5_ := f3_.symm; clear f1_ f2_ f3_; subst f4_; subst f5_))
    have p184 : 0 ≤ ((ji30) : Int) := of_decide_eq_true ca_
    have q184 : (ji30) < (x5_1.length : Int) := of_decide_eq_true ca_
    obtain ⟨ad184, A184_0, c184_0, e184, hx184_0, hx184_1, hl184_0, hi184_0⟩ := at_T31 (Kd.S_reads' HO_5.out).2.2 (ji30) p184 q184
    cases e184
    obtain ⟨ce184, hce184, hMe184, hcc184⟩ := Kd.S_get HO_5.out z31 (ji30) p184 (by first | exact q184 | exact of_decide_eq_true ca_ | (have e_ := (Kd.S_reads' HO_5.out).1; omega))
    obtain ⟨ve184_0, rfl, ge184_0⟩ := k31_openM hMe184
    have hv184_0 := hcc184 0 _ rfl
    rw [Nat.add_zero] at hv184_0
    replace hv184_0 := Option.some.inj (hv184_0.symm.trans hx184_0)
    rw [hv184_0] at ge184_0
    have HL184_0 := Aside0.mk (show Kd.R (Kd.int .i64) 2 _ _ _ _ ((rd_T31 x5_1 (ji30)).f0) from ge184_0)
    clear hv184_0 ge184_0
    clear hcc184 hce184
    have HR184_0 := Aside0.mk hi184_0
    have HC184_0 := Aside0.mk hl184_0
    clear hi184_0 hl184_0
    replace p184 := eq_true p184
    replace q184 := eq_true q184
    have p33 : 0 ≤ ((ji30) : Int) := of_decide_eq_true ca_
    have q33 : ((ji30) : Int) < ((x5_1.length : Int) : Int) := of_decide_eq_true ca_
    obtain ⟨go33, co33, eo33, gb33, gl33, cl33, HG33⟩ := Kd.S_form HO_5.out (by omega)
    (first | cases eo33 | (injection eo33 with ea_ en_ ec_; (first | subst ea_ | (injection ea_ with ea_; subst ea_)); subst ec_; clear en_))
    have GB33 := Aside0.mk gb33
    have GG33 := Aside0.mk HG33
    clear gb33 gl33 HG33
    (first | simp only [add_plain] at hx184_0 | skip)
    (first | simp only [add_plain] at hx184_1 | skip)
    obtain ⟨_, ce33, hcl33, hM33, hcc33, hfr33, _, _⟩ := Kd.S_elem HO_5.out z31 ((ji30) : Int) p33 q33
    obtain ⟨ve33_0, rfl, ge33_0⟩ := k31_openM hM33
    have hx33_0 : World.cell? _ ⟨go33, ((ji30) : Int).toNat * 2, none⟩ = some (ve33_0) := hcc33 0 _ rfl
    have hx33_1 : World.cell? _ ⟨go33, ((ji30) : Int).toNat * 2 + 1, none⟩ = some (.int .i64 ((rd_T31 x5_1 (ji30)).f1)) := hcc33 1 _ rfl
    have hf33_0 : World.frozen? _ ⟨go33, ((ji30) : Int).toNat * 2, none⟩ = false := hfr33 0
    have hf33_1 : World.frozen? _ ⟨go33, ((ji30) : Int).toNat * 2 + 1, none⟩ = false := hfr33 1
    (try clear hM33); clear hcl33 hcc33 hfr33
    replace p33 := eq_true p33
    replace q33 := eq_true q33
    have HX41 := Aside0.mk (show Kd.S k31 31 _ W1.heap.size (fun k_ => ((fun k_ => k_ ≠ gb173)) k_ ∧ ¬ (fun _ => False) k_) (.slice (some ⟨go33, 0, none⟩) x5_1.length co40) x5_1 from (by exact Kd.S_mono HO_5.out (fun k_ hk => ⟨hk, fun e_ => e_⟩)))
    obtain ⟨oki41, ce41, hcl41, hM41, hcc41, hfr41, hoki41, hH41⟩ := Kd.S_elem HX41.out z31 ((ji30) : Int) (of_decide_eq_true ca_) (by have h_ : ((ji30) : Int) < ((x5_1.length : Int) : Int) := of_decide_eq_true ca_; first | exact h_ | (have e_ := (Kd.S_reads' HO_5.out).1; omega) | simpa using h_)
    obtain ⟨ve41_0, rfl, ge41_0⟩ := k31_openM hM41
    have HP41 := (Kd.S_seg hH41 (of_decide_eq_true ca_) (by have h_ : ((ji30) : Int) < ((x5_1.length : Int) : Int) := of_decide_eq_true ca_; first | exact h_ | (have e_ := (Kd.S_reads' HO_5.out).1; omega) | simpa using h_) (seg := [.int .i64 (wrap64 (((rd_T31 x5_1 (ji30)).f1) + ((rd_T31 l1 x15_1).f1)))]) (j := 1) (show 2 ≤ 2 from by decide) (x' := (⟨(rd_T31 x5_1 (ji30)).f0, wrap64 (((rd_T31 x5_1 (ji30)).f1) + ((rd_T31 l1 x15_1).f1))⟩ : S31)) (k31_mkM _ _ _ (⟨(rd_T31 x5_1 (ji30)).f0, wrap64 (((rd_T31 x5_1 (ji30)).f1) + ((rd_T31 l1 x15_1).f1))⟩ : S31) ge41_0) (fun _ hk => Or.inl hk) (fun _ hk => hk.elim)).1
    rw [← Ny185.out] at HP41
    have HQ41 := Aside0.mk HP41
    (try clear hM41); clear hcl41 hcc41 hfr41 HP41
    refine start_ (n := 13) (S := fun w' => w'.cell? ⟨gb173, 0, none⟩ = some (.slice A172_0 ((rd_T31 l1 x15_1).f0).length c172_0) ∧ w'.cell? ⟨gb173, 1, none⟩ = some (.int .i64 ((rd_T31 l1 x15_1).f1)) ∧ w'.cell? ⟨go33, ((ji30)).toNat * 2, none⟩ = some (.slice A184_0 ((rd_T31 x5_1 (ji30)).f0).length c184_0) ∧ w'.cell? ⟨go33, ((ji30)).toNat * 2 + 1, none⟩ = some (.int .i64 ((rd_T31 x5_1 (ji30)).f1))) (ds := [12]) (bl 13 0) (by kernel_rfl) rfl rfl ⟨(blk_cell BK173.out 0).trans rfl, (blk_cell BK173.out 1).trans rfl, hx184_0, hx184_1⟩ (fun hHeld => ?_); refine with_tabW impl_summed.tab8 impl_summed.bits8 (fun HT_ HW_ => ?_)
    generalize w38.drew = w39 at HO_5 BK173 HB GG33 HL184_0 HQ41 HR184_0 hf33_0 hf33_1 hx184_0 hx184_1 hx33_0 hx33_1 hHeld ⊢
    refine pu_ 0 (some 39) (bl 13 1) HT_.out rfl ?_
    refine pu_ 1 (some 40) (bl 13 3) HT_.out rfl ?_
    refine pu_ 2 (some 41) (bl 13 7) HT_.out rfl ?_
    refine pu_ 3 (some 42) (bl 13 15) HT_.out rfl ?_
    refine pu_ 4 (some 43) (bl 13 31) HT_.out rfl ?_
    refine pu_ 5 (some 44) (bl 13 63) HT_.out rfl ?_
    refine pu_ 7 (some 46) (bl 13 191) HT_.out rfl ?_
    refine tw_ 6 (some 45) (bl 13 255) HT_.out HW_.out rfl hHeld (fun w' s_ => by obtain ⟨s0, s1, s2, s3⟩ := s_; go_simp; with_reducible rfl) ?_
    refine tw_ 8 (some 47) (bl 13 511) HT_.out HW_.out rfl hHeld (fun w' s_ => by obtain ⟨s0, s1, s2, s3⟩ := s_; go_simp; with_reducible rfl) ?_
    refine pu_ 9 (some 48) (bl 13 1023) HT_.out rfl ?_
    refine pu_ 10 (some 49) (bl 13 2047) HT_.out rfl ?_
    refine pu_ 11 (some 50) (bl 13 4095) HT_.out rfl ?_
    refine last_ (i := 12) (N := none) (bl 13 8191) rfl rfl (one_of HT_.out (by kernel_rfl)) (by decide) (fun K hK => ?_)
    refine skip_ (w1 := ?_) (by rfl) rfl ?_ ?_
    rotate_left
    ·go_simp
     rfl
    refine hK.out _ _ ?_
    clear hK K
    refine done_ (done_of HT_.out (by kernel_rfl)) ?_
    try go_wp2
    go_roundg k1
    case measure => have := HK1.out; omega
    case rel => exact ⟨(y185), (wrap64 (x15_1 + 1)), cs_, H', ⟨co_ HK1.out⟩, ⟨by refine cS_ ?_; exact Kd.S_mono HQ41.out (fun _ hk => trivial)⟩, ⟨cB2_ GB33.out GE173.out⟩⟩
   rw [if_neg c29] at H
   have c29b0 : (t183 == 0) = false := beq_eq_false_iff_ne.mpr c29
   have c29b1 : (t183 != 0) = true := bne_iff_ne.mpr c29
   obtain ⟨t186, A42, H⟩ := bnd_ H
   try dsimp only at H
   by_cases c43 : x5_1.length < 4398046511104
   rotate_left
   ·rw [if_neg c43] at H
    exact absurd H (by simp)
   rw [if_pos c43] at H
   have LMc43 := Aside0.mk c43
   clear c43
   obtain ⟨y189, hy_⟩ : ∃ y_ : List (S31), y_ = (x5_1 ++ [(⟨t186, 0⟩ : S31)]) := ⟨_, rfl⟩
   replace H : (if 0 ≤ (wrap64 ((y189.length : Int) - 1)) then (if (wrap64 ((y189.length : Int) - 1)) < (y189.length : Int) then (impl_summed.l0 k1 l1 (y189.set ((wrap64 ((y189.length : Int) - 1)) : Int).toNat (⟨(rd_T31 y189 (wrap64 ((y189.length : Int) - 1))).f0, wrap64 (((rd_T31 y189 (wrap64 ((y189.length : Int) - 1))).f1) + ((rd_T31 l1 x15_1).f1))⟩ : S31)) l1 (l1.length : Int) (wrap64 (x15_1 + 1))) else (none)) else (none)) = some (r1, r2) := yb_
   have Ny189 := Aside0.mk hy_
   clear hy_
   obtain ⟨ji44, hji44⟩ : ∃ j_ : Int, (wrap64 ((y189.length : Int) - 1)) = j_ := ⟨_, rfl⟩
   replace H : (if 0 ≤ (ji44) then (if (ji44) < (y189.length : Int) then (impl_summed.l0 k1 l1 (y189.set ((ji44) : Int).toNat (⟨(rd_T31 y189 (ji44)).f0, wrap64 (((rd_T31 y189 (ji44)).f1) + ((rd_T31 l1 x15_1).f1))⟩ : S31)) l1 (l1.length : Int) (wrap64 (x15_1 + 1))) else (none)) else (none)) = some (r1, r2) := by first | (rw [hji44] at H; exact H) | (simp only [hji44] at H ⊢; exact H)
   (try rw [hji44] at A28)
   (try rw [hji44] at A42)
   have hji44w : (IntKind.i64.wrap ((y189.length : Int) - 1)) = ji44 := (i64_w _).trans hji44
   by_cases c45 : 0 ≤ (ji44)
   rotate_left
   ·rw [if_neg c45] at H
    exact absurd H (by simp)
   rw [if_pos c45] at H
   have c45b0 : decide (0 ≤ (ji44)) = true := decide_eq_true c45
   clear c45
   by_cases c46 : (ji44) < (y189.length : Int)
   rotate_left
   ·rw [if_neg c46] at H
    exact absurd H (by simp)
   rw [if_pos c46] at H
   have c46b0 : decide ((ji44) < (y189.length : Int)) = true := decide_eq_true c46
   clear c46
   obtain ⟨y193, hy_⟩ : ∃ y_ : List (S31), y_ = (y189.set ((ji44) : Int).toNat (⟨(rd_T31 y189 (ji44)).f0, wrap64 (((rd_T31 y189 (ji44)).f1) + ((rd_T31 l1 x15_1).f1))⟩ : S31)) := ⟨_, rfl⟩
   replace H : (impl_summed.l0 k1 l1 y193 l1 (l1.length : Int) (wrap64 (x15_1 + 1))) = some (r1, r2) := yb_
   have Ny193 := Aside0.mk hy_
   clear hy_
   have H' := Aside0.mk H
   clear H
   have p172 : 0 ≤ (x15_1 : Int) := of_decide_eq_true ca_
   have q172 : x15_1 < (l1.length : Int) := of_decide_eq_true ca_
   obtain ⟨ad172, A172_0, c172_0, e172, hx172_0, hx172_1, hl172_0, hi172_0⟩ := at_T31 HR0.out x15_1 p172 q172
   cases e172
   replace hx172_0 := (HB.out.cell (World.block_lt_of_cell? W1 _ hx172_0)).trans hx172_0
   replace hx172_1 := (HB.out.cell (World.block_lt_of_cell? W1 _ hx172_1)).trans hx172_1
   have HR172_0 := Aside0.mk hi172_0
   have HC172_0 := Aside0.mk hl172_0
   clear hi172_0 hl172_0
   replace p172 := eq_true p172
   replace q172 := eq_true q172
   try go_wp2_with (first | (refine bx_ 7 #[.slice none 0 0, .int .i64 0] 31 ?_; intro gb173 hg w48 hbox hb; replace HO_5 := Aside0.mk (Kd.S_below (Kd.S_elderB b4_3 gb173 (Nat.le_of_eq hg.symm)) hb); have BK173 := Aside0.mk (hbox); have GW173 := Aside0.mk ((by rw [hg]; exact (below_size cB0_) : W1.heap.size ≤ gb173)); have GE173 := Aside0.mk ((by rw [hg]; exact (below_size cB0_) : W1.heap.size ≤ gb173)); replace HB := Aside0.mk (below_step cB0_ hb); clear hb hbox hg; obtain ⟨hcz49_0, hcz49_1, hfz49_0, hfz49_1⟩ := cells2 BK173.out))
   have n0_ : Aside0 (Kd.S k31 31 ((w48.setCell ⟨gb173, 0, none⟩ (.slice A172_0 ((rd_T31 l1 x15_1).f0).length c172_0)).setCell ⟨gb173, 1, none⟩ (.int .i64 ((rd_T31 l1 x15_1).f1))) W1.heap.size (fun k_ => k_ ≠ gb173) u5 x5_1) := ⟨by refine cS_ ?_; exact Kd.S_mono (Kd.S_far (p := ⟨gb173, 1, none⟩) (Kd.S_far (p := ⟨gb173, 0, none⟩) (Kd.S_mono HO_5.out (fun k_ hk => (⟨hk, hk.2⟩ : _ ∧ k_ ≠ gb173))) (fun _ hk => hk.2) (.slice A172_0 ((rd_T31 l1 x15_1).f0).length c172_0)) (fun _ hk => hk.2) (.int .i64 ((rd_T31 l1 x15_1).f1))) (fun _ hk => hk.1.2)⟩
   have n1_ : Aside0 (((w48.setCell ⟨gb173, 0, none⟩ (.slice A172_0 ((rd_T31 l1 x15_1).f0).length c172_0)).setCell ⟨gb173, 1, none⟩ (.int .i64 ((rd_T31 l1 x15_1).f1))).heap[gb173]? = some (.cells #[.slice A172_0 ((rd_T31 l1 x15_1).f0).length c172_0, .int .i64 ((rd_T31 l1 x15_1).f1)] 31 (0, 0))) := ⟨by refine cO_ ?_; refine blk_put (cs := #[.slice A172_0 ((rd_T31 l1 x15_1).f0).length c172_0, .int .i64 0]) ?_ 1 _ rfl; refine cO_ ?_; refine blk_put (cs := #[.slice none 0 0, .int .i64 0]) ?_ 0 _ rfl; refine cO_ ?_; exact BK173.out⟩
   have n2_ : Aside0 (Below W1.heap.size W1 ((w48.setCell ⟨gb173, 0, none⟩ (.slice A172_0 ((rd_T31 l1 x15_1).f0).length c172_0)).setCell ⟨gb173, 1, none⟩ (.int .i64 ((rd_T31 l1 x15_1).f1)))) := ⟨cB1_ GE173.out⟩
   (try clear HO_5)
   (try clear BK173)
   (try clear HB)
   generalize ((w48.setCell ⟨gb173, 0, none⟩ (.slice A172_0 ((rd_T31 l1 x15_1).f0).length c172_0)).setCell ⟨gb173, 1, none⟩ (.int .i64 ((rd_T31 l1 x15_1).f1))) = w50 at n0_ n1_ n2_ ⊢
   have HO_5 := n0_
   have BK173 := n1_
   have HB := n2_
   clear n0_ n1_ n2_
   replace HO_5 := Aside0.mk (Kd.S_drew HO_5.out)
   replace BK173 := Aside0.mk (blk_drew BK173.out)
   replace HB := Aside0.mk (below_drew1 HB.out)
   have p182 : 0 ≤ ((ji25) : Int) := of_decide_eq_true ca_
   have q182 : (ji25) < (l1.length : Int) := of_decide_eq_true ca_
   obtain ⟨ad182, A182_0, c182_0, e182, hx182_0, hx182_1, hl182_0, hi182_0⟩ := at_T31 HR0.out (ji25) p182 q182
   have hw182_1 := hx182_1
   have hw182_0 := hx182_0
   obtain rfl : ad172 = ad182 := (by injection e182)
   replace hx182_0 := (HB.out.cell (World.block_lt_of_cell? W1 _ hx182_0)).trans hx182_0
   replace hx182_1 := (HB.out.cell (World.block_lt_of_cell? W1 _ hx182_1)).trans hx182_1
   have HR182_0 := Aside0.mk hi182_0
   have HC182_0 := Aside0.mk hl182_0
   clear hi182_0 hl182_0
   replace p182 := eq_true p182
   replace q182 := eq_true q182
   refine start_ (n := 12) (S := fun w' => w'.cell? ⟨gb173, 0, none⟩ = some (.slice A172_0 ((rd_T31 l1 x15_1).f0).length c172_0) ∧ w'.cell? ⟨gb173, 1, none⟩ = some (.int .i64 ((rd_T31 l1 x15_1).f1)) ∧ w'.cell? (ad172.add (((ji25)).toNat * 2)) = some (.slice A182_0 ((rd_T31 l1 (ji25)).f0).length c182_0) ∧ w'.cell? ⟨(ad172.add (((ji25)).toNat * 2)).block, (ad172.add (((ji25)).toNat * 2)).off + 1, none⟩ = some (.int .i64 ((rd_T31 l1 (ji25)).f1))) (ds := []) (bl 12 0) (by kernel_rfl) rfl rfl ⟨(blk_cell BK173.out 0).trans rfl, (blk_cell BK173.out 1).trans rfl, ((HB.out.cell (World.block_lt_of_cell? W1 _ hw182_0)).trans hw182_0), ((HB.out.cell (World.block_lt_of_cell? W1 _ hw182_1)).trans hw182_1)⟩ (fun hHeld => ?_); refine with_tabW impl_summed.tab6 impl_summed.bits6 (fun HT_ HW_ => ?_)
   generalize w50.drew = w51 at HO_5 BK173 HB HR182_0 hx182_0 hx182_1 hHeld ⊢
   refine pu_ 0 (some 20) (bl 12 1) HT_.out rfl ?_
   refine pu_ 1 (some 21) (bl 12 3) HT_.out rfl ?_
   refine pu_ 2 (some 22) (bl 12 7) HT_.out rfl ?_
   refine pu_ 3 (some 23) (bl 12 15) HT_.out rfl ?_
   refine pu_ 4 (some 24) (bl 12 31) HT_.out rfl ?_
   refine pu_ 5 (some 25) (bl 12 63) HT_.out rfl ?_
   refine pu_ 6 (some 26) (bl 12 127) HT_.out rfl ?_
   refine tw_ 7 (some 27) (bl 12 255) HT_.out HW_.out rfl hHeld (fun w' s_ => by obtain ⟨s0, s1, s2, s3⟩ := s_; go_simp; with_reducible rfl) ?_
   refine tw_ 8 (some 28) (bl 12 511) HT_.out HW_.out rfl hHeld (fun w' s_ => by obtain ⟨s0, s1, s2, s3⟩ := s_; go_simp; with_reducible rfl) ?_
   refine on_ 9 (some 29) (bl 12 1023) HT_.out rfl (fun K hK => ?_)
   refine goes_ Tryd.func35 (by kernel_rfl) rfl #[.agg #[.slice A182_0 ((rd_T31 l1 (ji25)).f0).length c182_0, .int .i64 ((rd_T31 l1 (ji25)).f1)], .agg #[.slice A172_0 ((rd_T31 l1 x15_1).f0).length c172_0, .int .i64 ((rd_T31 l1 x15_1).f1)]] (by rfl) rfl rfl (by (try simp only [List.map_toArray, List.map_cons, List.map_nil]); first | done | (simp only [hji25]; rfl) | rfl | (simp only [List.length_drop, List.length_take]; rfl)) ?_
   with_reducible refine (impl_byRow.calls k1 _ _ ((rd_T31 l1 (ji25)).f0) ((rd_T31 l1 (ji25)).f1) _ _ ((rd_T31 l1 x15_1).f0) ((rd_T31 l1 x15_1).f1) t183 _ ?side1 ?side2 ?side3 ?side4 A28.out).mono ?_
   (case side1 => exact cC_ (Kd.C_below HR182_0.out HB.out))
   (case side2 => exact HC182_0.out)
   (case side3 => exact b4_6)
   (case side4 => exact HC172_0.out)
   rintro e w52 ⟨rfl, hb⟩
   refine ⟨_, rfl, ?_⟩
   replace HO_5 := Aside0.mk (Kd.S_below b4_3 hb)
   replace BK173 := Aside0.mk (blk_below (g := gb173) (o := .cells #[.slice A172_0 ((rd_T31 l1 x15_1).f0).length c172_0, .int .i64 ((rd_T31 l1 x15_1).f1)] 31 (0, 0)) b4_4 hb)
   replace HB := Aside0.mk (below_step b4_2 hb)
   (try clear hb)
   (try clear hb2)
   (try clear hk)
   (try clear hi)
   refine hK.out _ _ ⟨(blk_cell BK173.out 0).trans rfl, (blk_cell BK173.out 1).trans rfl, ((HB.out.cell (World.block_lt_of_cell? W1 _ hw182_0)).trans hw182_0), ((HB.out.cell (World.block_lt_of_cell? W1 _ hw182_1)).trans hw182_1)⟩ (fun hHeld => ?_)
   clear hK K
   refine norm_ (a' := ?_) ?_ ?_
   rotate_left
   ·show Act.put _ (some 29) _ = _
    simp only [Act.put, List.setIfInBounds_toArray, List.set_cons_zero, List.set_cons_succ, i64_w, i32_w]
    rfl
   refine pu_ 10 (some 30) (bl 12 2047) HT_.out rfl ?_
   refine pu_ 11 (some 31) (bl 12 4095) HT_.out rfl ?_
   refine done_ (done_of HT_.out (by kernel_rfl)) ?_
   obtain ⟨hcz53_0, hcz53_1, hfz53_0, hfz53_1⟩ := cells2 BK173.out
   try go_wp2_with (first | (refine gl_ 36 (some 35) Tryd.func36 #[.slice A172_0 ((rd_T31 l1 x15_1).f0).length c172_0] ?_; (with_reducible refine (slices_Clone_int64_int64.calls _ _ ((rd_T31 l1 x15_1).f0) t186 _ ?side1 ?side2 A42.out).mono ?_); (case side1 => exact b4_6); (case side2 => exact HC172_0.out); rintro e w54 ⟨v187, rfl, ho0, hb⟩; refine ⟨_, rfl, ?_⟩; replace HO_5 := Aside0.mk (Kd.S_elder' b4_3 (Kd.R_base ho0) hb); have HO188 := Aside0.mk (Kd.R_lower ho0 (below_size b4_2)); replace BK173 := Aside0.mk (blk_below (g := gb173) (o := .cells #[.slice A172_0 ((rd_T31 l1 x15_1).f0).length c172_0, .int .i64 ((rd_T31 l1 x15_1).f1)] 31 (0, 0)) b4_4 hb); replace HB := Aside0.mk (below_step b4_2 hb); (try clear hb); (try clear hb2); (try clear hk); (try clear hi); (try clear ho0); obtain ⟨Ao55, co55, eo55⟩ := Kd.R_slice HO188.out; subst eo55) | ((with_reducible refine gate_builtin (b := .append) (xs := #[.tmp 32, .tmp 37]) rfl ?_); at_builtin; refine Kd.S_append k31 (w0 := W1) W1.heap.size rfl (.tmp 32) (.tmp 37) 24 31 (.agg #[(.slice none 0 0), (.int .i64 0)]) 32 rfl Tryd.underlying24 info31 rfl (by decide) (by omega) u5 x5_1 (⟨t186, 0⟩ : S31) [.slice Ao55 t186.length co55, .int .i64 0] (fun k_ => k_ ≠ gb173) (fun k_ => some k_ = (.slice Ao55 t186.length co55 : Value).ownBlock) rfl rfl ?aP (fun k_ hk_ => ((Kd.R_mono (ok' := fun k_ => ((fun k_ => k_ ≠ gb173)) k_ ∧ some k_ ≠ (u5 : Value).ownBlock) (Kd.R_types (Kd.R_apart' (HO188.out) (Kd.S_typed HO_5.out) (by decide)) BK173.out (by decide)) (fun k_ hk => ⟨hk.2, hk.1.2⟩))).1 k_ hk_.symm) ?aF ?aO ?aB ?aS ?aL ?_; (case aP => exact (by exact k31_mkM _ _ _ (⟨t186, 0⟩ : S31) (Kd.R_mono (Kd.R_tight rfl (Kd.R_mono (ok' := fun k_ => ((fun k_ => k_ ≠ gb173)) k_ ∧ some k_ ≠ (u5 : Value).ownBlock) (Kd.R_types (Kd.R_apart' (HO188.out) (Kd.S_typed HO_5.out) (by decide)) BK173.out (by decide)) (fun k_ hk => ⟨hk.2, hk.1.2⟩))) (fun _ h_ => h_)))); (case aB => exact b4_2); (case aF => exact (by exact (fun k_ hk => Kd.freshB (g := gb173) (o := .cells #[.slice A172_0 ((rd_T31 l1 x15_1).f0).length c172_0, .int .i64 ((rd_T31 l1 x15_1).f1)] 31 (0, 0)) b4_4 k_ hk))); (case aO => exact (by exact (by refine cS_ ?_; exact Kd.S_mono HO_5.out (fun k_ hk => ⟨hk.1, fun e_ => hk.2 e_⟩)))); (case aS => exact (by exact (below_size b4_2))); (case aL => exact co_ LMc43.out); intro v190 w56 ho hb hg hat; rw [← Ny189.out] at ho; replace BK173 := Aside0.mk (blk_grown (g := gb173) (o := .cells #[.slice A172_0 ((rd_T31 l1 x15_1).f0).length c172_0, .int .i64 ((rd_T31 l1 x15_1).f1)] 31 (0, 0)) b4_4 hg (Kd.S_away HO_5.out (fun _ hk => hk.1))); replace HB := Aside0.mk (hb); have HO191 := Aside0.mk (ho); clear HO_5; clear HO188; clear ho hb hg hat))
   replace HO191 := Aside0.mk (Kd.S_drew HO191.out)
   replace BK173 := Aside0.mk (blk_drew BK173.out)
   replace HB := Aside0.mk (below_drew1 HB.out)
   obtain ⟨Ao58, co58, eo58⟩ := Kd.S_slice HO191.out
   (first | subst eo58 | (injection eo58 with f1_ f2_ f3_; have f4_ := f1_.symm; have f5_ := f3_.symm; clear f1_ f2_ f3_; subst f4_; subst f5_))
   have p192 : 0 ≤ ((ji44) : Int) := of_decide_eq_true ca_
   have q192 : (ji44) < (y189.length : Int) := of_decide_eq_true ca_
   obtain ⟨ad192, A192_0, c192_0, e192, hx192_0, hx192_1, hl192_0, hi192_0⟩ := at_T31 (Kd.S_reads' HO191.out).2.2 (ji44) p192 q192
   cases e192
   obtain ⟨ce192, hce192, hMe192, hcc192⟩ := Kd.S_get HO191.out z31 (ji44) p192 (by first | exact q192 | exact of_decide_eq_true ca_ | (have e_ := (Kd.S_reads' HO191.out).1; omega))
   obtain ⟨ve192_0, rfl, ge192_0⟩ := k31_openM hMe192
   have hv192_0 := hcc192 0 _ rfl
   rw [Nat.add_zero] at hv192_0
   replace hv192_0 := Option.some.inj (hv192_0.symm.trans hx192_0)
   rw [hv192_0] at ge192_0
   have HL192_0 := Aside0.mk (show Kd.R (Kd.int .i64) 2 _ _ _ _ ((rd_T31 y189 (ji44)).f0) from ge192_0)
   clear hv192_0 ge192_0
   clear hcc192 hce192
   have HR192_0 := Aside0.mk hi192_0
   have HC192_0 := Aside0.mk hl192_0
   clear hi192_0 hl192_0
   replace p192 := eq_true p192
   replace q192 := eq_true q192
   have p47 : 0 ≤ ((ji44) : Int) := of_decide_eq_true ca_
   have q47 : ((ji44) : Int) < ((y189.length : Int) : Int) := of_decide_eq_true ca_
   obtain ⟨go47, co47, eo47, gb47, gl47, cl47, HG47⟩ := Kd.S_form HO191.out (by omega)
   (first | cases eo47 | (injection eo47 with ea_ en_ ec_; (first | subst ea_ | (injection ea_ with ea_; subst ea_)); subst ec_; clear en_))
   have GB47 := Aside0.mk gb47
   have GG47 := Aside0.mk HG47
   clear gb47 gl47 HG47
   (first | simp only [add_plain] at hx192_0 | skip)
   (first | simp only [add_plain] at hx192_1 | skip)
   obtain ⟨_, ce47, hcl47, hM47, hcc47, hfr47, _, _⟩ := Kd.S_elem HO191.out z31 ((ji44) : Int) p47 q47
   obtain ⟨ve47_0, rfl, ge47_0⟩ := k31_openM hM47
   have hx47_0 : World.cell? _ ⟨go47, ((ji44) : Int).toNat * 2, none⟩ = some (ve47_0) := hcc47 0 _ rfl
   have hx47_1 : World.cell? _ ⟨go47, ((ji44) : Int).toNat * 2 + 1, none⟩ = some (.int .i64 ((rd_T31 y189 (ji44)).f1)) := hcc47 1 _ rfl
   have hf47_0 : World.frozen? _ ⟨go47, ((ji44) : Int).toNat * 2, none⟩ = false := hfr47 0
   have hf47_1 : World.frozen? _ ⟨go47, ((ji44) : Int).toNat * 2 + 1, none⟩ = false := hfr47 1
   (try clear hM47); clear hcl47 hcc47 hfr47
   replace p47 := eq_true p47
   replace q47 := eq_true q47
   have HX59 := Aside0.mk (show Kd.S k31 31 _ W1.heap.size (fun k_ => ((fun k_ => k_ ≠ gb173)) k_ ∧ ¬ (fun _ => False) k_) (.slice (some ⟨go47, 0, none⟩) y189.length co58) y189 from (by exact Kd.S_mono HO191.out (fun k_ hk => ⟨hk, fun e_ => e_⟩)))
   obtain ⟨oki59, ce59, hcl59, hM59, hcc59, hfr59, hoki59, hH59⟩ := Kd.S_elem HX59.out z31 ((ji44) : Int) (of_decide_eq_true ca_) (by have h_ : ((ji44) : Int) < ((y189.length : Int) : Int) := of_decide_eq_true ca_; first | exact h_ | (have e_ := (Kd.S_reads' HO191.out).1; omega) | simpa using h_)
   obtain ⟨ve59_0, rfl, ge59_0⟩ := k31_openM hM59
   have HP59 := (Kd.S_seg hH59 (of_decide_eq_true ca_) (by have h_ : ((ji44) : Int) < ((y189.length : Int) : Int) := of_decide_eq_true ca_; first | exact h_ | (have e_ := (Kd.S_reads' HO191.out).1; omega) | simpa using h_) (seg := [.int .i64 (wrap64 (((rd_T31 y189 (ji44)).f1) + ((rd_T31 l1 x15_1).f1)))]) (j := 1) (show 2 ≤ 2 from by decide) (x' := (⟨(rd_T31 y189 (ji44)).f0, wrap64 (((rd_T31 y189 (ji44)).f1) + ((rd_T31 l1 x15_1).f1))⟩ : S31)) (k31_mkM _ _ _ (⟨(rd_T31 y189 (ji44)).f0, wrap64 (((rd_T31 y189 (ji44)).f1) + ((rd_T31 l1 x15_1).f1))⟩ : S31) ge59_0) (fun _ hk => Or.inl hk) (fun _ hk => hk.elim)).1
   rw [← Ny193.out] at HP59
   have HQ59 := Aside0.mk HP59
   (try clear hM59); clear hcl59 hcc59 hfr59 HP59
   refine start_ (n := 13) (S := fun w' => w'.cell? ⟨gb173, 0, none⟩ = some (.slice A172_0 ((rd_T31 l1 x15_1).f0).length c172_0) ∧ w'.cell? ⟨gb173, 1, none⟩ = some (.int .i64 ((rd_T31 l1 x15_1).f1)) ∧ w'.cell? ⟨go47, ((ji44)).toNat * 2, none⟩ = some (.slice A192_0 ((rd_T31 y189 (ji44)).f0).length c192_0) ∧ w'.cell? ⟨go47, ((ji44)).toNat * 2 + 1, none⟩ = some (.int .i64 ((rd_T31 y189 (ji44)).f1))) (ds := [12]) (bl 13 0) (by kernel_rfl) rfl rfl ⟨(blk_cell BK173.out 0).trans rfl, (blk_cell BK173.out 1).trans rfl, hx192_0, hx192_1⟩ (fun hHeld => ?_); refine with_tabW impl_summed.tab8 impl_summed.bits8 (fun HT_ HW_ => ?_)
   generalize w56.drew = w57 at HO191 BK173 HB GG47 HL192_0 HQ59 HR192_0 hf47_0 hf47_1 hx192_0 hx192_1 hx47_0 hx47_1 hHeld ⊢
   refine pu_ 0 (some 39) (bl 13 1) HT_.out rfl ?_
   refine pu_ 1 (some 40) (bl 13 3) HT_.out rfl ?_
   refine pu_ 2 (some 41) (bl 13 7) HT_.out rfl ?_
   refine pu_ 3 (some 42) (bl 13 15) HT_.out rfl ?_
   refine pu_ 4 (some 43) (bl 13 31) HT_.out rfl ?_
   refine pu_ 5 (some 44) (bl 13 63) HT_.out rfl ?_
   refine pu_ 7 (some 46) (bl 13 191) HT_.out rfl ?_
   refine tw_ 6 (some 45) (bl 13 255) HT_.out HW_.out rfl hHeld (fun w' s_ => by obtain ⟨s0, s1, s2, s3⟩ := s_; go_simp; with_reducible rfl) ?_
   refine tw_ 8 (some 47) (bl 13 511) HT_.out HW_.out rfl hHeld (fun w' s_ => by obtain ⟨s0, s1, s2, s3⟩ := s_; go_simp; with_reducible rfl) ?_
   refine pu_ 9 (some 48) (bl 13 1023) HT_.out rfl ?_
   refine pu_ 10 (some 49) (bl 13 2047) HT_.out rfl ?_
   refine pu_ 11 (some 50) (bl 13 4095) HT_.out rfl ?_
   refine last_ (i := 12) (N := none) (bl 13 8191) rfl rfl (one_of HT_.out (by kernel_rfl)) (by decide) (fun K hK => ?_)
   refine skip_ (w1 := ?_) (by rfl) rfl ?_ ?_
   rotate_left
   ·go_simp
    rfl
   refine hK.out _ _ ?_
   clear hK K
   refine done_ (done_of HT_.out (by kernel_rfl)) ?_
   try go_wp2
   go_roundg k1
   case measure => have := HK1.out; omega
   case rel => exact ⟨(y193), (wrap64 (x15_1 + 1)), cs_, H', ⟨co_ HK1.out⟩, ⟨by refine cS_ ?_; exact Kd.S_mono HQ59.out (fun _ hk => trivial)⟩, ⟨cB2_ GB47.out GE173.out⟩⟩

end Go.Proofs.YthgmicingbjemaaDoor.PFnSums
