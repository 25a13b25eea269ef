-- Written by fprint, a program of this session, out of Lean's own print of the translation. Lean checks it.
import Derived.Test.YthgmicingbjemaaDense
import Derived.Test.YthgmicingbjemaaPFnJoinsx0
import Derived.Test.YthgmicingbjemaaPFnJoinsx5
import Derived.Test.YthgmicingbjemaaPFnJoinsx6
import Derived.Test.YthgmicingbjemaaPFnJoinsx9
namespace Go.Proofs.Ythgmicingbjemaa.PFnJoins
open Go.RowKit Go.Proofs.YthgmicingbjemaaW.PrintWords Go.Proofs.YthgmicingbjemaaW.PrintLast Go.Proofs.YthgmicingbjemaaW.PrintMore
attribute [local go_sem] max2_int min2_int max_two min_two max_three min_three max_four min_four
set_option linter.unusedVariables false
set_option maxHeartbeats 8000000
set_option maxRecDepth 100000
set_option linter.unusedSimpArgs false

theorem b10_0 {p : Prop} (h : p := by first | exact ⟨rfl, _, World.drewN_drewN _ _ _⟩ | exact ⟨rfl, _, Eq.trans (World.drewN_drewN _ _ _) (congrArg (World.drewN _) (Nat.add_assoc _ _ _))⟩) : p := h
theorem b10_2 {p : Prop} (h : p := by exact cB1_ GE229.out) : p := h
theorem b10_3 {p : Prop} (h : p := by exact cC_ (Kd.C_below HR0.out HB.out)) : p := h
theorem b10_4 {p : Prop} (h : p := by exact cC_ (Kd.C_below HR0.out b10_2)) : p := h
theorem b10_5 {p : Prop} (h : p := by exact cC_ (Kd.C_below HR1.out b10_2)) : p := h
theorem q10_0 {p : Prop} (h : p := by first | exact Kd.S_nil _ _ _ _ _ | exact Kd.N_nil _ _ _ _ _ | exact Kd.V_nil _ _ _ _ _ | exact Kd.Q_nil _ _ _ _ _ | exact Kd.R_nil _ _ _ _ _) : p := h
theorem q10_1 {p : Prop} (h : p := by first | rfl | (simp [*]; done)) : p := h
/-! ### spec_JoinSets: function 39 -/
mutual
def spec_JoinSets.j0 : Nat → List (S42) → List (S42) → Int → Bool → Option (Int × (List (S42)))
 | 0, _, _, _, _ => none
 | k + 1, x0, x1, x2, x36 => if x36 = true then (some (1, ([] : List (S42)))) else (spec_JoinSets.l0 k x0 x1 x2 0)
def spec_JoinSets.l0 : Nat → List (S42) → List (S42) → Int → Int → Option (Int × (List (S42)))
 | 0, _, _, _, _ => none
 | k + 1, x0, x1, x2, x9 => if x9 < (x0.length : Int) then (spec_JoinSets.l1 k x0 x1 x2 x9 0) else ((spec_l4Join.f k x0 x1 x2).bind fun bt235 => (some (bt235.2, bt235.1)))
def spec_JoinSets.l1 : Nat → List (S42) → List (S42) → Int → Int → Int → Option (Int × (List (S42)))
 | 0, _, _, _, _, _ => none
 | k + 1, x0, x1, x2, x9, x10 => if x10 < (x1.length : Int) then (if 0 ≤ x9 then (if x9 < (x0.length : Int) then (if 0 ≤ x10 then (if (wrap64 ((wrap64 ((((rd_T42 x0 x9).f0).length : Int) + (((rd_T42 x1 x10).f0).length : Int))) - x2)) > 4 then (some (2, ([] : List (S42)))) else (spec_JoinSets.l1 k x0 x1 x2 x9 (wrap64 (x10 + 1)))) else (none)) else (none)) else (none)) else (spec_JoinSets.l0 k x0 x1 x2 (wrap64 (x9 + 1)))
end
def spec_JoinSets.f (k : Nat) (l0 : List (S42)) (l1 : List (S42)) (a2 : Int) : Option (Int × (List (S42))) := (spec_l1In.f a2 1 4).bind fun t230 => (if t230 = true then ((spec_SetFault.f k l0).bind fun t231 => (if t231 = 0 then ((spec_SetFault.f k l1).bind fun t232 => (if t232 = 0 then ((spec_l4Short.f k l0 a2).bind fun t233 => (if t233 = true then (spec_JoinSets.j0 k l0 l1 a2 true) else ((spec_l4Short.f k l1 a2).bind fun t234 => (spec_JoinSets.j0 k l0 l1 a2 t234)))) else (some (t232, ([] : List (S42)))))) else (some (t231, ([] : List (S42)))))) else (some (3, ([] : List (S42)))))
theorem spec_JoinSets.mono_l : ∀ k, (∀ y0 y1 y2 y3, LeO (spec_JoinSets.j0 k y0 y1 y2 y3) (spec_JoinSets.j0 (k + 1) y0 y1 y2 y3)) ∧ (∀ y0 y1 y2 y3, LeO (spec_JoinSets.l0 k y0 y1 y2 y3) (spec_JoinSets.l0 (k + 1) y0 y1 y2 y3)) ∧ (∀ y0 y1 y2 y3 y4, LeO (spec_JoinSets.l1 k y0 y1 y2 y3 y4) (spec_JoinSets.l1 (k + 1) y0 y1 y2 y3 y4))
 | 0 => ⟨fun _ _ _ _ r h => by simp [spec_JoinSets.j0] at h, fun _ _ _ _ r h => by simp [spec_JoinSets.l0] at h, fun _ _ _ _ _ r h => by simp [spec_JoinSets.l1] at h⟩
 | k + 1 => by
  obtain ⟨ih0, ih1, ih2⟩ := spec_JoinSets.mono_l k
  refine ⟨?_, ?_, ?_⟩
  ·intro y0 y1 y2 y3
   unfold spec_JoinSets.j0
   repeat' first
   | (with_reducible exact ih0 _ _ _ _)
   | (with_reducible exact ih1 _ _ _ _)
   | (with_reducible exact ih2 _ _ _ _ _)
   | (with_reducible exact spec_SetFault.mono _ _)
   | (with_reducible exact spec_l4Join.mono _ _ _ _)
   | (with_reducible exact spec_l4Short.mono _ _ _)
   | (with_reducible exact LeO.refl _)
   | (with_reducible exact LeO.none _)
   | (with_reducible refine LeO.ite ?_ ?_)
   | (with_reducible refine LeO.bind ?_ (fun _ => ?_))
   | refine LeO.ite ?_ ?_
   | refine LeO.bind ?_ (fun _ => ?_)
  ·intro y0 y1 y2 y3
   unfold spec_JoinSets.l0
   repeat' first
   | (with_reducible exact ih0 _ _ _ _)
   | (with_reducible exact ih1 _ _ _ _)
   | (with_reducible exact ih2 _ _ _ _ _)
   | (with_reducible exact spec_SetFault.mono _ _)
   | (with_reducible exact spec_l4Join.mono _ _ _ _)
   | (with_reducible exact spec_l4Short.mono _ _ _)
   | (with_reducible exact LeO.refl _)
   | (with_reducible exact LeO.none _)
   | (with_reducible refine LeO.ite ?_ ?_)
   | (with_reducible refine LeO.bind ?_ (fun _ => ?_))
   | refine LeO.ite ?_ ?_
   | refine LeO.bind ?_ (fun _ => ?_)
  ·intro y0 y1 y2 y3 y4
   unfold spec_JoinSets.l1
   repeat' first
   | (with_reducible exact ih0 _ _ _ _)
   | (with_reducible exact ih1 _ _ _ _)
   | (with_reducible exact ih2 _ _ _ _ _)
   | (with_reducible exact spec_SetFault.mono _ _)
   | (with_reducible exact spec_l4Join.mono _ _ _ _)
   | (with_reducible exact spec_l4Short.mono _ _ _)
   | (with_reducible exact LeO.refl _)
   | (with_reducible exact LeO.none _)
   | (with_reducible refine LeO.ite ?_ ?_)
   | (with_reducible refine LeO.bind ?_ (fun _ => ?_))
   | refine LeO.ite ?_ ?_
   | refine LeO.bind ?_ (fun _ => ?_)
theorem spec_JoinSets.mono : ∀ a0 a1 a2 k, LeO (spec_JoinSets.f k a0 a1 a2) (spec_JoinSets.f (k + 1) a0 a1 a2) := by
 intro a0 a1 a2 k
 obtain ⟨ih0, ih1, ih2⟩ := spec_JoinSets.mono_l k
 unfold spec_JoinSets.f
 repeat' first
   | (with_reducible exact ih0 _ _ _ _)
   | (with_reducible exact ih1 _ _ _ _)
   | (with_reducible exact ih2 _ _ _ _ _)
   | (with_reducible exact spec_SetFault.mono _ _)
   | (with_reducible exact spec_l4Join.mono _ _ _ _)
   | (with_reducible exact spec_l4Short.mono _ _ _)
   | (with_reducible exact LeO.refl _)
   | (with_reducible exact LeO.none _)
   | (with_reducible refine LeO.ite ?_ ?_)
   | (with_reducible refine LeO.bind ?_ (fun _ => ?_))
   | refine LeO.ite ?_ ?_
   | refine LeO.bind ?_ (fun _ => ?_)
theorem spec_JoinSets.calls (k : Nat) (A0 : Option Addr) (c0 : Nat) (l0 : List (S42)) (A1 : Option Addr) (c1 : Nat) (l1 : List (S42)) (a2 : Int) (r1 : Int) (r2 : List (S42)) (w : World) (hr0 : Kd.C k42 w A0 l0.length l0) (hc0 : l0.length ≤ c0) (hr1 : Kd.C k42 w A1 l1.length l1) (hc1 : l1.length ≤ c1) (h : spec_JoinSets.f k l0 l1 a2 = some (r1, r2)) :
  Calls Try.prog 39 #[.slice A0 l0.length c0, .slice A1 l1.length c1, .int .i64 a2] w fun e w' => ∃ v1_ : Value, e = .returned (.agg #[.int .i64 r1, v1_]) ∧ Kd.N k42 42 w' w.heap.size (fun k_ => (w.heap.size ≤ k_)) v1_ r2 ∧ Below w.heap.size w w' := by
 have hu26 := Try.underlying26
 have HR0 := Aside0.mk hr0
 have HC0 := Aside0.mk hc0
 clear hr0 hc0
 have HR1 := Aside0.mk hr1
 have HC1 := Aside0.mk hc1
 clear hr1 hc1
 have HB := Aside0.mk (Below.refl w.heap.size w)
 have H : ((spec_l1In.f a2 1 4).bind fun t230 => (if t230 = true then ((spec_SetFault.f k l0).bind fun t231 => (if t231 = 0 then ((spec_SetFault.f k l1).bind fun t232 => (if t232 = 0 then ((spec_l4Short.f k l0 a2).bind fun t233 => (if t233 = true then (spec_JoinSets.j0 k l0 l1 a2 true) else ((spec_l4Short.f k l1 a2).bind fun t234 => (spec_JoinSets.j0 k l0 l1 a2 t234)))) else (some (t232, ([] : List (S42)))))) else (some (t231, ([] : List (S42)))))) else (some (3, ([] : List (S42)))))) = some (r1, r2) := h
 clear h
 obtain ⟨t230, A4, H⟩ := bnd_ H
 try dsimp only at H
 by_cases c5 : t230 = true
 rotate_left
 ·replace c5 := Bool.eq_false_iff.mpr c5
  subst c5
  rw [if_neg (show ¬ (false = true) by decide)] at H
  simp only [Option.some.injEq, Prod.mk.injEq] at H
  obtain ⟨rfl, rfl⟩ := H
  go_enter Try.func39, Try.ntmps39
  go_wp2_with (first | (refine bx_ 6 #[.int .i64 0, .slice none 0 0] 26 ?_; intro gb229 hg w32 hbox hb; have BK229 := Aside0.mk (hbox); have GW229 := Aside0.mk ((by rw [hg]; exact (below_size cB0_) : w.heap.size ≤ gb229)); have GE229 := Aside0.mk ((by rw [hg]; exact (below_size cB0_) : w.heap.size ≤ gb229)); replace HB := Aside0.mk (below_step cB0_ hb); clear hb hbox hg) | (go_at_call 54; (with_reducible refine (spec_l1In.calls a2 1 4 false _ A4.out).mono ?_); rintro e w' ⟨rfl, ⟨nd, rfl⟩⟩; (try exact b10_0); obtain ⟨hcz33_0, hcz33_1, hfz33_0, hfz33_1⟩ := cells2 BK229.out))
  repeat (go_quiet (fail); try go_wp2)
  refine bodyPost_ret (results_cell_row rfl _ _ gb229 26 #[.int .i64 3, .slice none 0 0] (0, 0) _ rfl (by refine cO_ ?_; refine blk_put (cs := #[.int .i64 3, .slice none 0 0]) ?_ 1 _ rfl; refine cO_ ?_; refine blk_put (cs := #[.int .i64 0, .slice none 0 0]) ?_ 0 _ rfl; refine cO_ ?_; exact BK229.out) Try.underlying26 rfl (by kernel_rfl)) rfl ?_
  exact ⟨_, ce_, q10_0, cB1_ GE229.out⟩
 subst c5
 rw [if_pos rfl] at H
 obtain ⟨t231, A6, H⟩ := bnd_ H
 try dsimp only at H
 by_cases c7 : t231 = 0
 rotate_left
 ·rw [if_neg c7] at H
  have c7b0 : (t231 == 0) = false := beq_eq_false_iff_ne.mpr c7
  have c7b1 : (t231 != 0) = true := bne_iff_ne.mpr c7
  simp only [Option.some.injEq, Prod.mk.injEq] at H
  obtain ⟨rfl, rfl⟩ := H
  go_enter Try.func39, Try.ntmps39
  go_wp2_with (first | (refine bx_ 6 #[.int .i64 0, .slice none 0 0] 26 ?_; intro gb229 hg w30 hbox hb; have BK229 := Aside0.mk (hbox); have GW229 := Aside0.mk ((by rw [hg]; exact (below_size cB0_) : w.heap.size ≤ gb229)); have GE229 := Aside0.mk ((by rw [hg]; exact (below_size cB0_) : w.heap.size ≤ gb229)); replace HB := Aside0.mk (below_step cB0_ hb); clear hb hbox hg) | (go_at_call 54; (with_reducible refine (spec_l1In.calls a2 1 4 true _ A4.out).mono ?_); rintro e w' ⟨rfl, ⟨nd, rfl⟩⟩; (try exact b10_0)) | (go_at_call 55; (with_reducible refine (spec_SetFault.calls k _ _ l0 t231 _ ?side1 ?side2 A6.out).mono ?_); (case side1 => exact b10_4); (case side2 => exact HC0.out); rintro e w' ⟨rfl, ⟨nd, rfl⟩⟩; (try exact b10_0); obtain ⟨hcz31_0, hcz31_1, hfz31_0, hfz31_1⟩ := cells2 BK229.out))
  repeat (go_quiet (fail); try go_wp2)
  refine bodyPost_ret (results_cell_row rfl _ _ gb229 26 #[.int .i64 t231, .slice none 0 0] (0, 0) _ rfl (by refine cO_ ?_; refine blk_put (cs := #[.int .i64 t231, .slice none 0 0]) ?_ 1 _ rfl; refine cO_ ?_; refine blk_put (cs := #[.int .i64 0, .slice none 0 0]) ?_ 0 _ rfl; refine cO_ ?_; exact BK229.out) Try.underlying26 rfl (by kernel_rfl)) rfl ?_
  exact ⟨_, ce_, q10_0, cB1_ GE229.out⟩
 rw [if_pos c7] at H
 have c7b0 : (t231 == 0) = true := beq_iff_eq.mpr c7
 have c7b1 : (t231 != 0) = false := bne_eq_false_iff_eq.mpr c7
 clear c7
 obtain ⟨t232, A8, H⟩ := bnd_ H
 try dsimp only at H
 by_cases c9 : t232 = 0
 rotate_left
 ·rw [if_neg c9] at H
  have c9b0 : (t232 == 0) = false := beq_eq_false_iff_ne.mpr c9
  have c9b1 : (t232 != 0) = true := bne_iff_ne.mpr c9
  simp only [Option.some.injEq, Prod.mk.injEq] at H
  obtain ⟨rfl, rfl⟩ := H
  go_enter Try.func39, Try.ntmps39
  go_wp2_with (first | (refine bx_ 6 #[.int .i64 0, .slice none 0 0] 26 ?_; intro gb229 hg w28 hbox hb; have BK229 := Aside0.mk (hbox); have GW229 := Aside0.mk ((by rw [hg]; exact (below_size cB0_) : w.heap.size ≤ gb229)); have GE229 := Aside0.mk ((by rw [hg]; exact (below_size cB0_) : w.heap.size ≤ gb229)); replace HB := Aside0.mk (below_step cB0_ hb); clear hb hbox hg) | (go_at_call 54; (with_reducible refine (spec_l1In.calls a2 1 4 true _ A4.out).mono ?_); rintro e w' ⟨rfl, ⟨nd, rfl⟩⟩; (try exact b10_0)) | (go_at_call 55; (with_reducible refine (spec_SetFault.calls k _ _ l0 t231 _ ?side1 ?side2 A6.out).mono ?_); (case side1 => exact b10_4); (case side2 => exact HC0.out); rintro e w' ⟨rfl, ⟨nd, rfl⟩⟩; (try exact b10_0)) | (go_at_call 55; (with_reducible refine (spec_SetFault.calls k _ _ l1 t232 _ ?side1 ?side2 A8.out).mono ?_); (case side1 => exact b10_5); (case side2 => exact HC1.out); rintro e w' ⟨rfl, ⟨nd, rfl⟩⟩; (try exact b10_0); obtain ⟨hcz29_0, hcz29_1, hfz29_0, hfz29_1⟩ := cells2 BK229.out))
  repeat (go_quiet (fail); try go_wp2)
  refine bodyPost_ret (results_cell_row rfl _ _ gb229 26 #[.int .i64 t232, .slice none 0 0] (0, 0) _ rfl (by refine cO_ ?_; refine blk_put (cs := #[.int .i64 t232, .slice none 0 0]) ?_ 1 _ rfl; refine cO_ ?_; refine blk_put (cs := #[.int .i64 0, .slice none 0 0]) ?_ 0 _ rfl; refine cO_ ?_; exact BK229.out) Try.underlying26 rfl (by kernel_rfl)) rfl ?_
  exact ⟨_, ce_, q10_0, cB1_ GE229.out⟩
 rw [if_pos c9] at H
 have c9b0 : (t232 == 0) = true := beq_iff_eq.mpr c9
 have c9b1 : (t232 != 0) = false := bne_eq_false_iff_eq.mpr c9
 clear c9
 have HC10 := Aside0.mk H
 clear H
 go_enter Try.func39, Try.ntmps39
 go_upto_region 9 with (first | (refine bx_ 6 #[.int .i64 0, .slice none 0 0] 26 ?_; intro gb229 hg w11 hbox hb; have BK229 := Aside0.mk (hbox); have GW229 := Aside0.mk ((by rw [hg]; exact (below_size cB0_) : w.heap.size ≤ gb229)); have GE229 := Aside0.mk ((by rw [hg]; exact (below_size cB0_) : w.heap.size ≤ gb229)); replace HB := Aside0.mk (below_step cB0_ hb); clear hb hbox hg) | (go_at_call 54; (with_reducible refine (spec_l1In.calls a2 1 4 true _ A4.out).mono ?_); rintro e w' ⟨rfl, ⟨nd, rfl⟩⟩; (try exact b10_0)) | (go_at_call 55; (with_reducible refine (spec_SetFault.calls k _ _ l0 t231 _ ?side1 ?side2 A6.out).mono ?_); (case side1 => exact b10_4); (case side2 => exact HC0.out); rintro e w' ⟨rfl, ⟨nd, rfl⟩⟩; (try exact b10_0)) | (go_at_call 55; (with_reducible refine (spec_SetFault.calls k _ _ l1 t232 _ ?side1 ?side2 A8.out).mono ?_); (case side1 => exact b10_5); (case side2 => exact HC1.out); rintro e w' ⟨rfl, ⟨nd, rfl⟩⟩; (try exact b10_0)))
 repeat (go_quiet (fail); go_upto_region 9 with (first | (refine bx_ 6 #[.int .i64 0, .slice none 0 0] 26 ?_; intro gb229 hg w11 hbox hb; have BK229 := Aside0.mk (hbox); have GW229 := Aside0.mk ((by rw [hg]; exact (below_size cB0_) : w.heap.size ≤ gb229)); have GE229 := Aside0.mk ((by rw [hg]; exact (below_size cB0_) : w.heap.size ≤ gb229)); replace HB := Aside0.mk (below_step cB0_ hb); clear hb hbox hg) | (go_at_call 54; (with_reducible refine (spec_l1In.calls a2 1 4 true _ A4.out).mono ?_); rintro e w' ⟨rfl, ⟨nd, rfl⟩⟩; (try exact b10_0)) | (go_at_call 55; (with_reducible refine (spec_SetFault.calls k _ _ l0 t231 _ ?side1 ?side2 A6.out).mono ?_); (case side1 => exact b10_4); (case side2 => exact HC0.out); rintro e w' ⟨rfl, ⟨nd, rfl⟩⟩; (try exact b10_0)) | (go_at_call 55; (with_reducible refine (spec_SetFault.calls k _ _ l1 t232 _ ?side1 ?side2 A8.out).mono ?_); (case side1 => exact b10_5); (case side2 => exact HC1.out); rintro e w' ⟨rfl, ⟨nd, rfl⟩⟩; (try exact b10_0))))
 (try simp only [Act.put, List.setIfInBounds_toArray, List.set_cons_zero, List.set_cons_succ])
 go_cut [36] (fun v36 wc => ∃ (kq : Nat) (x36_9 : Bool), v36 = .bool x36_9 ∧ Aside0 (spec_JoinSets.j0 kq l0 l1 a2 x36_9 = some (r1, r2)) ∧ Aside0 (kq ≤ k) ∧ Aside0 (wc.heap[gb229]? = some (.cells #[.int .i64 0, (.slice none 0 0)] 26 (0, 0))) ∧ Aside0 (Below w.heap.size w wc))
 case first =>
  have H := HC10.out
  clear HC10
  obtain ⟨t233, A12, H⟩ := bnd_ H
  try dsimp only at H
  by_cases c13 : t233 = true
  ·subst c13
   rw [if_pos rfl] at H
   have H' := Aside0.mk H
   clear H
   go_wp2_with (first | (go_at_call 56; (with_reducible refine (spec_l4Short.calls k _ _ l0 a2 true _ ?side1 ?side2 A12.out).mono ?_); (case side1 => exact b10_3); (case side2 => exact HC0.out); rintro e w' ⟨rfl, ⟨nd, rfl⟩⟩; (try exact b10_0)))
   repeat (go_quiet (fail); try go_wp2)
   go_meet
   case rel => exact ⟨_, (true), cs_, H', ⟨cm_⟩, ⟨cO_ BK229.out⟩, ⟨cB1_ GE229.out⟩⟩
  replace c13 := Bool.eq_false_iff.mpr c13
  subst c13
  rw [if_neg (show ¬ (false = true) by decide)] at H
  obtain ⟨t234, A14, H⟩ := bnd_ H
  try dsimp only at H
  have H' := Aside0.mk H
  clear H
  go_wp2_with (first | (go_at_call 56; (with_reducible refine (spec_l4Short.calls k _ _ l0 a2 false _ ?side1 ?side2 A12.out).mono ?_); (case side1 => exact b10_3); (case side2 => exact HC0.out); rintro e w' ⟨rfl, ⟨nd, rfl⟩⟩; (try exact b10_0)) | (go_at_call 56; (with_reducible refine (spec_l4Short.calls k _ _ l1 a2 t234 _ ?side1 ?side2 A14.out).mono ?_); (case side1 => exact b10_5); (case side2 => exact HC1.out); rintro e w' ⟨rfl, ⟨nd, rfl⟩⟩; (try exact b10_0)))
  repeat (go_quiet (fail); try go_wp2)
  go_meet
  case rel => exact ⟨_, (t234), cs_, H', ⟨cm_⟩, ⟨cO_ BK229.out⟩, ⟨cB1_ GE229.out⟩⟩
 case rest =>
  clear HC10
  try clear c1
  try clear p2
  try clear c3
  try clear c5
  try clear c7
  try clear c7b0
  try clear c7b1
  try clear c9
  try clear c9b0
  try clear c9b1
  try clear c13
  obtain ⟨kq, x36_9, rfl, HA, HJ9, BK229, HB⟩ := hcut
  cases kq with
  | zero => exact absurd HA.out (by simp [spec_JoinSets.j0])
  | succ kj9 =>
   have H := HA.out
   clear HA
   simp only [spec_JoinSets.j0] at H
   by_cases c15 : x36_9 = true
   ·subst c15
    rw [if_pos rfl] at H
    simp only [Option.some.injEq, Prod.mk.injEq] at H
    obtain ⟨rfl, rfl⟩ := H
    obtain ⟨hcz16_0, hcz16_1, hfz16_0, hfz16_1⟩ := cells2 BK229.out
    go_wp2
    repeat (go_quiet (fail); try go_wp2)
    refine bodyPost_ret (results_cell_row rfl _ _ gb229 26 #[.int .i64 1, .slice none 0 0] (0, 0) _ rfl (by refine cO_ ?_; refine blk_put (cs := #[.int .i64 1, .slice none 0 0]) ?_ 1 _ rfl; refine cO_ ?_; refine blk_put (cs := #[.int .i64 0, .slice none 0 0]) ?_ 0 _ rfl; refine cO_ ?_; exact BK229.out) Try.underlying26 rfl (by kernel_rfl)) rfl ?_
    exact ⟨_, ce_, q10_0, cB1_ GE229.out⟩
   replace c15 := Bool.eq_false_iff.mpr c15
   subst c15
   rw [if_neg (show ¬ (false = true) by decide)] at H
   have H' := Aside0.mk H
   clear H
   go_wp2
   repeat (go_quiet (fail); try go_wp2)
   go_loopg [9] kj9 (fun kq v9 w' => ∃ (x9_2 : Int) (x230000_2 : Int), v9 = .int .i64 x9_2 ∧ Aside0 (spec_JoinSets.l0 kq l0 l1 a2 x9_2 = some (r1, r2)) ∧ Aside0 (kq ≤ kj9) ∧ Aside0 (w'.heap[gb229]? = some (.cells #[.int .i64 x230000_2, (.slice none 0 0)] 26 (0, 0))) ∧ Aside0 (Below w.heap.size w w'))
   case atStart => exact ⟨(0), (0), cs_, H', ⟨Nat.le_refl _⟩, ⟨cO_ BK229.out⟩, ⟨cB1_ GE229.out⟩⟩
   case round =>
    clear H'
    try clear c1
    try clear p2
    try clear c3
    try clear c5
    try clear c7
    try clear c7b0
    try clear c7b1
    try clear c9
    try clear c9b0
    try clear c9b1
    try clear c13
    try clear c15
    try clear hcz16_0
    try clear hcz16_1
    try clear hfz16_0
    try clear hfz16_1
    try clear p2
    obtain ⟨x9_2, x230000_2, rfl, HA, HK2, BK229, HB⟩ := hrel
    cases gk with
    | zero => exact absurd HA.out (by simp [spec_JoinSets.l0])
    | succ k2 =>
     have H := HA.out
     clear HA
     simp only [spec_JoinSets.l0] at H
     by_cases c17 : x9_2 < (l0.length : Int)
     rotate_left
     ·rw [if_neg c17] at H
      have c17b0 := decide_eq_false c17
      clear c17
      obtain ⟨⟨t235, t238⟩, A24, H⟩ := bnd_ H
      try dsimp only at H
      simp only [Option.some.injEq, Prod.mk.injEq] at H
      obtain ⟨rfl, rfl⟩ := H
      go_wp2_with (first | (go_at_call 84; (with_reducible refine (spec_l4Join.calls k2 _ _ l0 _ _ l1 a2 t235 t238 _ ?side1 ?side2 ?side3 ?side4 A24.out).mono ?_); (case side1 => exact b10_3); (case side2 => exact HC0.out); (case side3 => exact cC_ (Kd.C_below HR1.out HB.out)); (case side4 => exact HC1.out); rintro e w25 ⟨v236, rfl, ho0, hb⟩; have HO237 := Aside0.mk (Kd.N_lower (Kd.N_mono (ok' := fun k_ => (w.heap.size ≤ k_) ∧ k_ ≠ gb229) ho0 (fun k_ hk_ => ⟨(Nat.le_trans (below_size b10_2) hk_), (Kd.freshB (g := gb229) (o := .cells #[.int .i64 x230000_2, .slice none 0 0] 26 (0, 0)) (cO_ BK229.out) k_ hk_)⟩)) (below_size b10_2)); replace BK229 := Aside0.mk (blk_below (g := gb229) (o := .cells #[.int .i64 x230000_2, .slice none 0 0] 26 (0, 0)) (cO_ BK229.out) hb); replace HB := Aside0.mk (below_step b10_2 hb); (try clear hb); (try clear hb2); (try clear hk); (try clear hi); (try clear ho0); obtain ⟨Ao26, co26, eo26⟩ := Kd.N_slice HO237.out; subst eo26; obtain ⟨hcz27_0, hcz27_1, hfz27_0, hfz27_1⟩ := cells2 BK229.out))
      repeat (go_quiet (fail); try go_wp2)
      refine bodyPost_ret (results_cell_row rfl _ _ gb229 26 #[.int .i64 t238, .slice Ao26 t235.length co26] (0, 0) _ rfl (by refine cO_ ?_; refine blk_put (cs := #[.int .i64 t238, .slice none 0 0]) ?_ 1 _ rfl; refine cO_ ?_; refine blk_put (cs := #[.int .i64 x230000_2, .slice none 0 0]) ?_ 0 _ rfl; refine cO_ ?_; exact BK229.out) Try.underlying26 rfl (by kernel_rfl)) rfl ?_
      exact ⟨_, ce_, by refine cN_ ?_; exact Kd.N_mono (Kd.N_far (p := ⟨gb229, 1, none⟩) (Kd.N_far (p := ⟨gb229, 0, none⟩) (Kd.N_mono HO237.out (fun k_ hk => (⟨hk, hk.2⟩ : _ ∧ k_ ≠ gb229))) (fun _ hk => hk.2) (.int .i64 t238)) (fun _ hk => hk.2) (.slice Ao26 t235.length co26)) (fun _ hk => hk.1.1), cB1_ GE229.out⟩
     rw [if_pos c17] at H
     have c17b0 := decide_eq_true c17
     clear c17
     have H' := Aside0.mk H
     clear H
     go_wp2
     repeat (go_quiet (fail); try go_wp2)
     go_loopg [10] k2 (fun kq v10 w' => ∃ (x10_3 : Int) (x230000_3 : Int), v10 = .int .i64 x10_3 ∧ Aside0 (spec_JoinSets.l1 kq l0 l1 a2 x9_2 x10_3 = some (r1, r2)) ∧ Aside0 (kq ≤ k2) ∧ Aside0 (w'.heap[gb229]? = some (.cells #[.int .i64 x230000_3, (.slice none 0 0)] 26 (0, 0))) ∧ Aside0 (Below w.heap.size w w'))
     case atStart => exact ⟨(0), (x230000_2), cs_, H', ⟨Nat.le_refl _⟩, ⟨cO_ BK229.out⟩, ⟨cB1_ GE229.out⟩⟩
     case round =>
      clear H'
      try clear c1
      try clear p2
      try clear c3
      try clear c5
      try clear c7
      try clear c7b0
      try clear c7b1
      try clear c9
      try clear c9b0
      try clear c9b1
      try clear c13
      try clear c15
      try clear c17
      try clear c17b0
      try clear hcz16_0
      try clear hcz16_1
      try clear hfz16_0
      try clear hfz16_1
      try clear p2
      obtain ⟨x10_3, x230000_3, rfl, HA, HK3, BK229, HB⟩ := hrel
      cases gk with
      | zero => exact absurd HA.out (by simp [spec_JoinSets.l1])
      | succ k3 =>
       have H := HA.out
       clear HA
       simp only [spec_JoinSets.l1] at H
       by_cases c18 : x10_3 < (l1.length : Int)
       rotate_left
       ·rw [if_neg c18] at H
        have c18b0 := decide_eq_false c18
        clear c18
        have H' := Aside0.mk H
        clear H
        go_wp2
        repeat (go_quiet (fail); try go_wp2)
        go_roundg k3
        case measure => have := HJ9.out; have := HK2.out; have := HK3.out; omega
        case rel => exact ⟨(wrap64 (x9_2 + 1)), (x230000_3), cs_, H', ⟨by have := HJ9.out; have := HK2.out; have := HK3.out; omega⟩, ⟨cO_ BK229.out⟩, ⟨cB1_ GE229.out⟩⟩
       rw [if_pos c18] at H
       have c18b0 := decide_eq_true c18
       clear c18
       by_cases c19 : 0 ≤ x9_2
       rotate_left
       ·rw [if_neg c19] at H
        exact absurd H (by simp)
       rw [if_pos c19] at H
       have c19b0 := decide_eq_true c19
       clear c19
       by_cases c20 : x9_2 < (l0.length : Int)
       rotate_left
       ·rw [if_neg c20] at H
        exact absurd H (by simp)
       rw [if_pos c20] at H
       have c20b0 := decide_eq_true c20
       clear c20
       by_cases c21 : 0 ≤ x10_3
       rotate_left
       ·rw [if_neg c21] at H
        exact absurd H (by simp)
       rw [if_pos c21] at H
       have c21b0 := decide_eq_true c21
       clear c21
       by_cases c22 : (wrap64 ((wrap64 ((((rd_T42 l0 x9_2).f0).length : Int) + (((rd_T42 l1 x10_3).f0).length : Int))) - a2)) > 4
       ·rw [if_pos c22] at H
        have c22b0 : decide (4 < (wrap64 ((wrap64 ((((rd_T42 l0 x9_2).f0).length : Int) + (((rd_T42 l1 x10_3).f0).length : Int))) - a2))) = true := decide_eq_true c22
        clear c22
        simp only [Option.some.injEq, Prod.mk.injEq] at H
        obtain ⟨rfl, rfl⟩ := H
        have p239 : 0 ≤ (x9_2 : Int) := cd_
        have q239 : x9_2 < (l0.length : Int) := cd_
        obtain ⟨ad239, A239_0, c239_0, e239, hx239_0, hx239_1, hl239_0, hi239_0⟩ := at_T42 HR0.out x9_2 p239 q239
        cases e239
        replace hx239_0 := pw_cell_below HB.out hx239_0
        replace hx239_1 := pw_cell_below HB.out hx239_1
        have HR239_0 := Aside0.mk hi239_0
        have HC239_0 := Aside0.mk hl239_0
        clear hi239_0 hl239_0
        replace p239 := eq_true p239
        replace q239 := eq_true q239
        have p240 : 0 ≤ (x10_3 : Int) := cd_
        have q240 : x10_3 < (l1.length : Int) := cd_
        obtain ⟨ad240, A240_0, c240_0, e240, hx240_0, hx240_1, hl240_0, hi240_0⟩ := at_T42 HR1.out x10_3 p240 q240
        cases e240
        replace hx240_0 := pw_cell_below HB.out hx240_0
        replace hx240_1 := pw_cell_below HB.out hx240_1
        have HR240_0 := Aside0.mk hi240_0
        have HC240_0 := Aside0.mk hl240_0
        clear hi240_0 hl240_0
        replace p240 := eq_true p240
        replace q240 := eq_true q240
        obtain ⟨hcz23_0, hcz23_1, hfz23_0, hfz23_1⟩ := cells2 BK229.out
        go_wp2
        repeat (go_quiet (fail); try go_wp2)
        refine bodyPost_ret (results_cell_row rfl _ _ gb229 26 #[.int .i64 2, .slice none 0 0] (0, 0) _ rfl (by refine cO_ ?_; refine blk_put (cs := #[.int .i64 2, .slice none 0 0]) ?_ 1 _ rfl; refine cO_ ?_; refine blk_put (cs := #[.int .i64 x230000_3, .slice none 0 0]) ?_ 0 _ rfl; refine cO_ ?_; exact BK229.out) Try.underlying26 rfl (by kernel_rfl)) rfl ?_
        exact ⟨_, ce_, q10_0, cB1_ GE229.out⟩
       rw [if_neg c22] at H
       have c22b0 : decide (4 < (wrap64 ((wrap64 ((((rd_T42 l0 x9_2).f0).length : Int) + (((rd_T42 l1 x10_3).f0).length : Int))) - a2))) = false := decide_eq_false c22
       clear c22
       have H' := Aside0.mk H
       clear H
       have p239 : 0 ≤ (x9_2 : Int) := cd_
       have q239 : x9_2 < (l0.length : Int) := cd_
       obtain ⟨ad239, A239_0, c239_0, e239, hx239_0, hx239_1, hl239_0, hi239_0⟩ := at_T42 HR0.out x9_2 p239 q239
       cases e239
       replace hx239_0 := pw_cell_below HB.out hx239_0
       replace hx239_1 := pw_cell_below HB.out hx239_1
       have HR239_0 := Aside0.mk hi239_0
       have HC239_0 := Aside0.mk hl239_0
       clear hi239_0 hl239_0
       replace p239 := eq_true p239
       replace q239 := eq_true q239
       have p240 : 0 ≤ (x10_3 : Int) := cd_
       have q240 : x10_3 < (l1.length : Int) := cd_
       obtain ⟨ad240, A240_0, c240_0, e240, hx240_0, hx240_1, hl240_0, hi240_0⟩ := at_T42 HR1.out x10_3 p240 q240
       cases e240
       replace hx240_0 := pw_cell_below HB.out hx240_0
       replace hx240_1 := pw_cell_below HB.out hx240_1
       have HR240_0 := Aside0.mk hi240_0
       have HC240_0 := Aside0.mk hl240_0
       clear hi240_0 hl240_0
       replace p240 := eq_true p240
       replace q240 := eq_true q240
       go_wp2
       repeat (go_quiet (fail); try go_wp2)
       go_roundg k3
       case measure => have := HJ9.out; have := HK2.out; have := HK3.out; omega
       case rel => exact ⟨(wrap64 (x10_3 + 1)), (x230000_3), cs_, H', ⟨by have := HJ9.out; have := HK2.out; have := HK3.out; omega⟩, ⟨cO_ BK229.out⟩, ⟨cB1_ GE229.out⟩⟩

/-! ### impl_size_int64: function 74 -/
def impl_size_int64.f (l0 : List Int) : Option (Int) := some (l0.length : Int)
theorem impl_size_int64.calls (A0 : Option Addr) (c0 : Nat) (l0 : List Int) (r : Int) (w : World) (hr0 : Kd.C (Kd.int .i64) w A0 l0.length l0) (hc0 : l0.length ≤ c0) (h : impl_size_int64.f l0 = some r) :
  Calls Try.prog 74 #[.slice A0 l0.length c0] w fun e w' => e = .returned (.int .i64 r) ∧ Drawn0 w w' := by
 have HR0 := Aside0.mk hr0
 have HC0 := Aside0.mk hc0
 clear hr0 hc0
 have H : (some (l0.length : Int)) = some r := h
 clear h
 obtain rfl := Option.some.inj H
 go_enter Try.func74, Try.ntmps74
 go_wp2
 go_ret
 exact ⟨cs_, cD_⟩

-- NOT PRINTED: function 102 (impl_areLong_1)

/-! ### impl_areLong: function 60 -/
/-- slices.IndexFunc over entries, whatever function value. -/
def indexE.l0 (p : Nat → List Int → Int → Option Bool) : Nat → List (S42) → Int → Int → Option (Int)
 | 0, _, _, _ => none
 | k + 1, x0, x7, x8 => if x8 < x7 then (if 0 ≤ x8 then (if x8 < (x0.length : Int) then ((p k ((rd_T42 x0 x8).f0) ((rd_T42 x0 x8).f1)).bind fun t202 => (if t202 = true then (some x8) else (indexE.l0 p k x0 x7 (wrap64 (x8 + 1))))) else (none)) else (none)) else (some (-1))
def indexE.f (p : Nat → List Int → Int → Option Bool) (k : Nat) (l0 : List (S42)) : Option (Int) := indexE.l0 p k l0 (l0.length : Int) 0
theorem indexE.mono_l (p : Nat → List Int → Int → Option Bool) (hp : ∀ l x k, LeO (p k l x) (p (k + 1) l x)) : ∀ k, (∀ y0 y1 y2, LeO (indexE.l0 p k y0 y1 y2) (indexE.l0 p (k + 1) y0 y1 y2))
 | 0 => fun _ _ _ r h => by simp [indexE.l0] at h
 | k + 1 => by
  have ih0 := indexE.mono_l p hp k
  ·intro y0 y1 y2
   unfold indexE.l0
   repeat' first
   | (with_reducible exact ih0 _ _ _)
   | (with_reducible exact LeO.refl _)
   | (with_reducible exact LeO.none _)
   | (with_reducible exact hp _ _ _)
   | (with_reducible refine LeO.ite ?_ ?_)
   | (with_reducible refine LeO.bind ?_ (fun _ => ?_))
/-- What is asked of the function value: at every entry, in every world in which all that lay in w lies unturned. -/
abbrev FnE (P : Program) (g : Nat) (cap : Array Value) (p : Nat → List Int → Int → Option Bool) (w : World) : Prop :=
 ∀ (k : Nat) (W : World) (A : Option Addr) (c : Nat) (l : List Int) (x : Int) (b : Bool), Below w.heap.size w W → Kd.C (Kd.int .i64) W A l.length l → l.length ≤ c → p k l x = some b → Calls P g (#[.agg #[.slice A l.length c, .int .i64 x]] ++ cap) W fun e w' => e = .returned (.bool b) ∧ Below W.heap.size W w'
theorem indexE.calls (g : Nat) (gfn : Func) (hgf : Try.prog.funcs[g]? = some gfn) (hgn : (gfn.name == "runtime.NumGoroutine") = false) (hgb : gfn.body.isSome = true) (cap : Array Value) (p : Nat → List Int → Int → Option Bool) (k : Nat) (A0 : Option Addr) (c0 : Nat) (l0 : List (S42)) (r : Int) (w : World) (hp : FnE Try.prog g cap p w) (hr0 : Kd.C k42 w A0 l0.length l0) (hc0 : l0.length ≤ c0) (h : indexE.f p k l0 = some r) :
  Calls Try.prog 118 #[.slice A0 l0.length c0, .func (.func g) #[] cap] w fun e w' => e = .returned (.int .i64 r) ∧ Below w.heap.size w w' := by
 have hu := Try.underlying42
 have HR0 := Aside0.mk hr0
 have HC0 := Aside0.mk hc0
 have HP := Aside0.mk hp
 have HGF := Aside0.mk hgf
 have HGN := Aside0.mk hgn
 have HGB := Aside0.mk hgb
 clear hr0 hc0 hp hgf hgn hgb
 have HB := Aside0.mk (Below.refl w.heap.size w)
 have H : (indexE.l0 p k l0 (l0.length : Int) 0) = some r := h
 clear h
 have H' := Aside0.mk H
 clear H
 go_enter Try.func118, Try.ntmps118
 go_wp2
 go_loopg [8] k (fun kq v8 w' => ∃ (x8_1 : Int), v8 = .int .i64 x8_1 ∧ Aside0 (indexE.l0 p kq l0 (l0.length : Int) x8_1 = some r) ∧ Aside0 (kq ≤ k) ∧ Aside0 (Below w.heap.size w w'))
 case atStart => exact ⟨(0), cs_, H', ⟨Nat.le_refl _⟩, ⟨cB0_⟩⟩
 case round =>
  clear H'
  obtain ⟨x8_1, rfl, HA, HK1, HB⟩ := hrel
  cases gk with
  | zero => exact absurd HA.out (by simp [indexE.l0])
  | succ k1 =>
   have H := HA.out
   clear HA
   simp only [indexE.l0] at H
   by_cases c3 : x8_1 < (l0.length : Int)
   rotate_left
   ·rw [if_neg c3] at H
    have c3b0 := decide_eq_false c3
    clear c3
    obtain rfl := Option.some.inj H
    go_wp2
    go_ret
    exact ⟨q10_1, HB.out⟩
   rw [if_pos c3] at H
   have c3b0 := decide_eq_true c3
   clear c3
   by_cases c4 : 0 ≤ x8_1
   rotate_left
   ·rw [if_neg c4] at H
    exact absurd H (by simp)
   rw [if_pos c4] at H
   have c4b0 := decide_eq_true c4
   clear c4
   by_cases c5 : x8_1 < (l0.length : Int)
   rotate_left
   ·rw [if_neg c5] at H
    exact absurd H (by simp)
   rw [if_pos c5] at H
   have c5b0 := decide_eq_true c5
   clear c5
   obtain ⟨t202, A6, H⟩ := bnd_ H
   try dsimp only at H
   have p201 : 0 ≤ (x8_1 : Int) := cd_
   have q201 : x8_1 < (l0.length : Int) := cd_
   obtain ⟨ad201, A201_0, c201_0, e201, hx201_0, hx201_1, hl201_0, hi201_0⟩ := at_T42 HR0.out x8_1 p201 q201
   cases e201
   replace hx201_0 := pw_cell_below HB.out hx201_0
   replace hx201_1 := pw_cell_below HB.out hx201_1
   have HR201_0 := Aside0.mk hi201_0
   have HC201_0 := Aside0.mk hl201_0
   clear hi201_0 hl201_0
   replace p201 := eq_true p201
   replace q201 := eq_true q201
   by_cases c7 : t202 = true
   ·subst c7
    have H1 : (some x8_1) = some r := by rw [if_pos rfl] at H; exact H
    clear H
    obtain rfl := Option.some.inj H1
    clear H1
    go_wp2_with (first | ((refine gate_fnc_ (f := g) (cap := cap) (by with_reducible rfl) (by rfl) ?_); refine goesC_ (some 16) rfl rfl HGF.out HGN.out HGB.out #[.agg #[.slice A201_0 ((rd_T42 l0 x8_1).f0).length c201_0, .int .i64 ((rd_T42 l0 x8_1).f1)]] rfl (by rfl) cx_ ?_; (with_reducible refine (HP.out k1 _ A201_0 c201_0 ((rd_T42 l0 x8_1).f0) ((rd_T42 l0 x8_1).f1) true HB.out (Kd.C_below HR201_0.out HB.out) HC201_0.out A6.out).mono ?_); rintro e w8 ⟨rfl, hb⟩; refine ⟨_, rfl, ?_⟩; have n0_ := Aside0.mk (below_step HB.out hb); clear HB; have HB := n0_; clear n0_ hb))
    go_ret
    exact ⟨q10_1, HB.out⟩
   replace c7 := Bool.eq_false_iff.mpr c7
   subst c7
   have H1 : (indexE.l0 p k1 l0 (l0.length : Int) (wrap64 (x8_1 + 1))) = some r := by rw [if_neg (show ¬ (false = true) by decide)] at H; exact H
   clear H
   have H' := Aside0.mk H1
   clear H1
   go_wp2_with (first | ((refine gate_fnc_ (f := g) (cap := cap) (by with_reducible rfl) (by rfl) ?_); refine goesC_ (some 16) rfl rfl HGF.out HGN.out HGB.out #[.agg #[.slice A201_0 ((rd_T42 l0 x8_1).f0).length c201_0, .int .i64 ((rd_T42 l0 x8_1).f1)]] rfl (by rfl) cx_ ?_; (with_reducible refine (HP.out k1 _ A201_0 c201_0 ((rd_T42 l0 x8_1).f0) ((rd_T42 l0 x8_1).f1) false HB.out (Kd.C_below HR201_0.out HB.out) HC201_0.out A6.out).mono ?_); rintro e w8 ⟨rfl, hb⟩; refine ⟨_, rfl, ?_⟩; have n0_ := Aside0.mk (below_step HB.out hb); clear HB; have HB := n0_; clear n0_ hb))
   go_roundg k1
   case measure => have := HK1.out; omega
   case rel => exact ⟨(wrap64 (x8_1 + 1)), cs_, H', ⟨co_ HK1.out⟩, HB⟩
/-- slices.ContainsFunc over entries, whatever function value. -/
def containsE.f (p : Nat → List Int → Int → Option Bool) (k : Nat) (l0 : List (S42)) : Option (Bool) := (indexE.f p k l0).bind fun t => some (decide (t ≥ 0))
theorem containsE.calls (g : Nat) (gfn : Func) (hgf : Try.prog.funcs[g]? = some gfn) (hgn : (gfn.name == "runtime.NumGoroutine") = false) (hgb : gfn.body.isSome = true) (cap : Array Value) (p : Nat → List Int → Int → Option Bool) (k : Nat) (A0 : Option Addr) (c0 : Nat) (l0 : List (S42)) (r : Bool) (w : World) (hp : FnE Try.prog g cap p w) (hr0 : Kd.C k42 w A0 l0.length l0) (hc0 : l0.length ≤ c0) (h : containsE.f p k l0 = some r) :
  Calls Try.prog 96 #[.slice A0 l0.length c0, .func (.func g) #[] cap] w fun e w' => e = .returned (.bool r) ∧ Below w.heap.size w w' := by
 obtain ⟨t, ht, hr⟩ := Option.bind_eq_some_iff.mp h
 obtain rfl := Option.some.inj hr
 have HR0 := Aside0.mk hr0
 have HC0 := Aside0.mk hc0
 have HP := Aside0.mk hp
 have HT := Aside0.mk ht
 have HGF := Aside0.mk hgf
 have HGN := Aside0.mk hgn
 have HGB := Aside0.mk hgb
 clear hr0 hc0 hp hgf hgn hgb ht hr h
 go_enter Try.func96, Try.ntmps96
 go_wp2_with (first | ((with_reducible refine gate_callee (f := 118) rfl ?_); refine goesL_ (some 7) rfl rfl Try.func118 (by kernel_rfl) rfl #[.slice A0 l0.length c0, .func (.func g) #[] cap] rfl (by (try simp only [List.map_toArray, List.map_cons, List.map_nil]); first | done | rfl) ?_; (with_reducible refine (indexE.calls g _ HGF.out HGN.out HGB.out cap p k A0 c0 l0 t _ HP.out HR0.out HC0.out HT.out).mono ?_); rintro e w2 ⟨rfl, hb⟩; refine ⟨_, rfl, ?_⟩; have HB := Aside0.mk hb; clear hb))
 go_ret
 exact ⟨q10_1, HB.out⟩
theorem impl_areLong1.calls (A : Option Addr) (c : Nat) (l : List Int) (x : Int) (g1 : Nat) (a1 : Int) (w : World) (hr : Kd.C (Kd.int .i64) w A l.length l) (hc : l.length ≤ c) (hcap : w.cell? ⟨g1, 0, none⟩ = some (.int .i64 a1)) :
  Calls Try.prog 102 #[.agg #[.slice A l.length c, .int .i64 x], .pointer (some ⟨g1, 0, none⟩)] w fun e w' => e = .returned (.bool (decide ((l.length : Int) < a1))) ∧ Below w.heap.size w w' := by
 have hu := Try.underlying42
 have HR := Aside0.mk hr
 have HC := Aside0.mk hc
 clear hr hc
 go_enter Try.func102, Try.ntmps102
 go_wp2_with (first | (refine bx_ 2 #[.slice A l.length c, .int .i64 x] 42 ?_; intro gb hg w5 hbox hb; have HB := Aside0.mk hb; replace hcap := pw_cell_below hb hcap; have hcz0 : w5.cell? ⟨gb, 0, none⟩ = some (.slice A l.length c) := (blk_cell hbox 0).trans rfl; have hfz0 := blk_frozen hbox 0; clear hbox hb hg))
 repeat (go_quiet (first | (go_at_call 74; (with_reducible refine (impl_size_int64.calls _ _ l (l.length : Int) _ ?side1 HC.out rfl).mono ?_); (case side1 => exact cC_ (Kd.C_below HR.out HB.out)); rintro e w' ⟨rfl, ⟨nd, rfl⟩⟩; (try exact b10_0))); try go_wp2)
 go_ret
 exact ⟨q10_1, cB0_⟩
def impl_areLong.p (a1 : Int) : Nat → List Int → Int → Option Bool := fun _ l _ => some (decide ((l.length : Int) < a1))
def impl_areLong.f (k : Nat) (l0 : List (S42)) (a1 : Int) : Option (Bool) := (containsE.f (impl_areLong.p a1) k l0).bind fun t => some (!t)
theorem impl_areLong.mono : ∀ a0 a1 k, LeO (impl_areLong.f k a0 a1) (impl_areLong.f (k + 1) a0 a1) := by
 intro a0 a1 k
 unfold impl_areLong.f containsE.f indexE.f
 exact LeO.bind (LeO.bind (indexE.mono_l _ (fun _ _ _ => LeO.refl _) k _ _ _) (fun _ => LeO.refl _)) (fun _ => LeO.refl _)
theorem impl_areLong.calls (k : Nat) (A0 : Option Addr) (c0 : Nat) (l0 : List (S42)) (a1 : Int) (r : Bool) (w : World) (hr0 : Kd.C k42 w A0 l0.length l0) (hc0 : l0.length ≤ c0) (h : impl_areLong.f k l0 a1 = some r) :
  Calls Try.prog 60 #[.slice A0 l0.length c0, .int .i64 a1] w fun e w' => e = .returned (.bool r) ∧ Below w.heap.size w w' := by
 obtain ⟨t, ht, hr⟩ := Option.bind_eq_some_iff.mp h
 obtain rfl := Option.some.inj hr
 have HR0 := Aside0.mk hr0
 have HC0 := Aside0.mk hc0
 have HT := Aside0.mk ht
 clear hr0 hc0 ht hr h
 go_enter Try.func60, Try.ntmps60
 go_wp2_with (first | (refine bx_ 3 #[.int .i64 a1] 2 ?_; intro gb hg w5 hbox hb; have HB := Aside0.mk hb; have HCAP := Aside0.mk (show w5.cell? ⟨gb, 0, none⟩ = some (.int .i64 a1) from (blk_cell hbox 0).trans rfl); clear hbox hb hg) | ((with_reducible refine gate_callee (f := 96) rfl ?_); refine goesL_ (some 7) rfl rfl Try.func96 (by kernel_rfl) rfl #[.slice A0 l0.length c0, .func (.func 102) #[] #[.pointer (some ⟨gb, 0, none⟩)]] rfl (by (try simp only [List.map_toArray, List.map_cons, List.map_nil]); first | done | rfl) ?_; (with_reducible refine (containsE.calls 102 _ Try.func102 (by kernel_rfl) rfl #[.pointer (some ⟨gb, 0, none⟩)] (impl_areLong.p a1) k A0 c0 l0 t _ ?sidep (Kd.C_below HR0.out HB.out) HC0.out HT.out).mono ?_); (case sidep => exact (fun k_ W_ A_ c_ l_ x_ b_ hb_ hr_ hc_ hp_ => by obtain rfl := Option.some.inj hp_; exact impl_areLong1.calls A_ c_ l_ x_ gb a1 W_ hr_ hc_ (pw_cell_below hb_ HCAP.out))); rintro e w2 ⟨rfl, hb⟩; refine ⟨_, rfl, ?_⟩; have HB2 := Aside0.mk (below_step HB.out hb); clear hb))
 go_ret
 exact ⟨q10_1, HB2.out⟩

/-! ### impl_longest: function 85 -/
def impl_longest.l0 : Nat → Int → List (S42) → Int → Int → Option (Int)
 | 0, _, _, _, _ => none
 | k + 1, x3, x6, x7, x8 => if x8 < x7 then (if 0 ≤ x8 then (if x8 < (x6.length : Int) then ((impl_size_int64.f ((rd_T42 x6 x8).f0)).bind fun t245 => (impl_longest.l0 k (mx x3 t245) x6 x7 (wrap64 (x8 + 1)))) else (none)) else (none)) else (some x3)
def impl_longest.f (k : Nat) (l0 : List (S42)) : Option (Int) := impl_longest.l0 k 0 l0 (l0.length : Int) 0
theorem impl_longest.mono_l : ∀ k, (∀ y0 y1 y2 y3, LeO (impl_longest.l0 k y0 y1 y2 y3) (impl_longest.l0 (k + 1) y0 y1 y2 y3))
 | 0 => fun _ _ _ _ r h => by simp [impl_longest.l0] at h
 | k + 1 => by
  have ih0 := impl_longest.mono_l k
  ·intro y0 y1 y2 y3
   unfold impl_longest.l0
   repeat' first
   | (with_reducible exact ih0 _ _ _ _)
   | (with_reducible exact LeO.refl _)
   | (with_reducible exact LeO.none _)
   | (with_reducible refine LeO.ite ?_ ?_)
   | (with_reducible refine LeO.bind ?_ (fun _ => ?_))
   | refine LeO.ite ?_ ?_
   | refine LeO.bind ?_ (fun _ => ?_)
theorem impl_longest.mono : ∀ a0 k, LeO (impl_longest.f k a0) (impl_longest.f (k + 1) a0) := by
 intro a0 k
 have ih0 := impl_longest.mono_l k
 unfold impl_longest.f
 repeat' first
   | (with_reducible exact ih0 _ _ _ _)
   | (with_reducible exact LeO.refl _)
   | (with_reducible exact LeO.none _)
   | (with_reducible refine LeO.ite ?_ ?_)
   | (with_reducible refine LeO.bind ?_ (fun _ => ?_))
   | refine LeO.ite ?_ ?_
   | refine LeO.bind ?_ (fun _ => ?_)
theorem impl_longest.calls (k : Nat) (A0 : Option Addr) (c0 : Nat) (l0 : List (S42)) (r : Int) (w : World) (hr0 : Kd.C k42 w A0 l0.length l0) (hc0 : l0.length ≤ c0) (h : impl_longest.f k l0 = some r) :
  Calls Try.prog 85 #[.slice A0 l0.length c0] w fun e w' => e = .returned (.int .i64 r) ∧ Below w.heap.size w w' := by
 have hu42 := Try.underlying42
 have HR0 := Aside0.mk hr0
 have HC0 := Aside0.mk hc0
 clear hr0 hc0
 have HB := Aside0.mk (Below.refl w.heap.size w)
 have H : (impl_longest.l0 k 0 l0 (l0.length : Int) 0) = some r := h
 clear h
 have H' := Aside0.mk H
 clear H
 go_enter Try.func85, Try.ntmps85
 go_wp2
 go_loopg [3, 8] k (fun kq v3 v8 w' => ∃ (x3_1 : Int) (x8_1 : Int), v3 = .int .i64 x3_1 ∧ v8 = .int .i64 x8_1 ∧ Aside0 (impl_longest.l0 kq x3_1 l0 (l0.length : Int) x8_1 = some r) ∧ Aside0 (kq ≤ k) ∧ Aside0 (Below w.heap.size w w'))
 case atStart => exact ⟨(0), (0), cs_, cs_, H', ⟨Nat.le_refl _⟩, ⟨cB0_⟩⟩
 case round =>
  clear H'
  obtain ⟨x3_1, x8_1, rfl, rfl, HA, HK1, HB⟩ := hrel
  cases gk with
  | zero => exact absurd HA.out (by simp [impl_longest.l0])
  | succ k1 =>
   have H := HA.out
   clear HA
   simp only [impl_longest.l0] at H
   by_cases c2 : x8_1 < (l0.length : Int)
   rotate_left
   ·rw [if_neg c2] at H
    have c2b0 := decide_eq_false c2
    clear c2
    obtain rfl := Option.some.inj H
    go_wp2
    go_ret
    exact ⟨ce_, cB0_⟩
   rw [if_pos c2] at H
   have c2b0 := decide_eq_true c2
   clear c2
   by_cases c3 : 0 ≤ x8_1
   rotate_left
   ·rw [if_neg c3] at H
    exact absurd H (by simp)
   rw [if_pos c3] at H
   have c3b0 := decide_eq_true c3
   clear c3
   by_cases c4 : x8_1 < (l0.length : Int)
   rotate_left
   ·rw [if_neg c4] at H
    exact absurd H (by simp)
   rw [if_pos c4] at H
   have c4b0 := decide_eq_true c4
   clear c4
   obtain ⟨t245, A5, H⟩ := bnd_ H
   try dsimp only at H
   obtain ⟨ji6, hji6⟩ : ∃ j_ : Int, (mx x3_1 t245) = j_ := ⟨_, rfl⟩
   replace H : (impl_longest.l0 k1 ji6 l0 (l0.length : Int) (wrap64 (x8_1 + 1))) = some r := by first | (rw [hji6] at H; exact H) | (simp only [hji6] at H ⊢; exact H)
   (try rw [hji6] at A5)
   have hji6_ : (if x3_1 < t245 then t245 else x3_1) = ji6 := hji6
   have H' := Aside0.mk H
   clear H
   have p243 : 0 ≤ (x8_1 : Int) := cd_
   have q243 : x8_1 < (l0.length : Int) := cd_
   obtain ⟨ad243, A243_0, c243_0, e243, hx243_0, hx243_1, hl243_0, hi243_0⟩ := at_T42 HR0.out x8_1 p243 q243
   cases e243
   replace hx243_0 := pw_cell_below HB.out hx243_0
   replace hx243_1 := pw_cell_below HB.out hx243_1
   have HR243_0 := Aside0.mk hi243_0
   have HC243_0 := Aside0.mk hl243_0
   clear hi243_0 hl243_0
   replace p243 := eq_true p243
   replace q243 := eq_true q243
   go_wp2_with (first | (refine bx_ 5 #[.slice none 0 0, .int .i64 0] 42 ?_; intro gb244 hg w7 hbox hb; have BK244 := Aside0.mk (hbox); have GW244 := Aside0.mk ((by rw [hg]; exact (below_size cB0_) : w.heap.size ≤ gb244)); have GE244 := Aside0.mk ((by rw [hg]; exact (below_size cB0_) : w.heap.size ≤ gb244)); replace HB := Aside0.mk (below_step cB0_ hb); clear hb hbox hg; obtain ⟨hcz8_0, hcz8_1, hfz8_0, hfz8_1⟩ := cells2 BK244.out) | (refine gl_ 74 (some 15) Try.func74 #[.slice A243_0 ((rd_T42 l0 x8_1).f0).length c243_0] ?_; (with_reducible refine (impl_size_int64.calls _ _ ((rd_T42 l0 x8_1).f0) t245 _ ?side1 ?side2 A5.out).mono ?_); (case side1 => exact (by exact Kd.C_below HR243_0.out (cB1_ GE244.out))); (case side2 => exact HC243_0.out); rintro e w' ⟨rfl, ⟨nd, rfl⟩⟩; refine ⟨_, rfl, ?_⟩))
   go_roundg k1
   case measure => have := HK1.out; omega
   case rel => exact ⟨(ji6), (wrap64 (x8_1 + 1)), (by first | rfl | (simp; done) | (simp only [← hji6] <;> (first | rfl | simp)) | (simp [*]; done)), cs_, H', ⟨co_ HK1.out⟩, ⟨cB1_ GE244.out⟩⟩

-- NOT PRINTED: function 116 (slices_Grow_int64_int64)

/-! ### slices_Concat_int64_int64: function 88 -/
/-- Two rows, one behind the other (of other numbers of rows nothing is said). -/
def slices_Concat_int64_int64.f (l0 : List (List Int)) : Option (List Int) := match l0 with
 | [a, b] => if a.length + b.length < 17592186044416 then some (a ++ b) else none
 | _ => none
theorem slices_Concat_int64_int64.calls (A0 : Option Addr) (c0 : Nat) (l0 : List (List Int)) (r : List Int) (w : World) (hA0 : ∀ ad, A0 = some ad → ∃ g, ad = ⟨g, 0, none⟩) (hr0 : Kd.C (Kd.slice 2 (Kd.int .i64)) w A0 l0.length l0) (hc0 : l0.length ≤ c0) (h : slices_Concat_int64_int64.f l0 = some r) :
  Calls Try.prog 88 #[.slice A0 l0.length c0] w fun e w' => ∃ v0_ : Value, e = .returned (v0_) ∧ Kd.R (Kd.int .i64) 2 w' w.heap.size (fun _ => True) v0_ r ∧ Below w.heap.size w w' := by
 unfold slices_Concat_int64_int64.f at h
 match l0, h, hr0, hc0 with
 | [a, b], h, hr0, hc0 =>
  simp only at h
  by_cases c : a.length + b.length < 17592186044416
  ·rw [if_pos c] at h
   obtain rfl := Option.some.inj h
   obtain ⟨ad, A1, c1, A2, c2, rfl, x0, _, r0, x1, _, r1⟩ := Concat.two_of_C hr0
   obtain ⟨g, rfl⟩ := hA0 ad rfl
   rw [add_plain] at x0 x1
   exact Concat.concatI g c0 A1 A2 c1 c2 a b w x0 x1 r0 r1 (by omega)
  ·rw [if_neg c] at h
   exact absurd h (by simp)

end Go.Proofs.Ythgmicingbjemaa.PFnJoins
