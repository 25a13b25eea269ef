-- Written by fprint, a program of this session, out of Lean's own print of the translation. Lean checks it.
import Derived.Test.YteibdjkfkcckkaaDense
import Derived.Test.YteibdjkfkcckkaaPFnFeedsx0
import Derived.Test.YteibdjkfkcckkaaPFnFeedsx4
import Derived.Test.YteibdjkfkcckkaaPFnFeedsx6
namespace Go.Proofs.Yteibdjkfkcckkaa.PFnFeeds
open Go.RowKit Go.Proofs.YteibdjkfkcckkaaW.PrintWords Go.Proofs.YteibdjkfkcckkaaW.PrintLast Go.Proofs.YteibdjkfkcckkaaW.PrintMore
attribute [local go_sem] max2_int min2_int max_two min_two max_three min_three max_four min_four   -- for this text's walks alone
set_option linter.unusedVariables false
set_option linter.unusedSimpArgs false

theorem b7_1 {p : Prop} (h : p := by first | exact ⟨rfl, _, World.drewN_drewN _ _ _⟩ | exact ⟨rfl, _, Eq.trans (World.drewN_drewN _ _ _) (congrArg (World.drewN _) (Nat.add_assoc _ _ _))⟩) : p := h
theorem b7_3 {p : Prop} (h : p := by exact cB1_ GE158.out) : p := h
theorem b7_4 {p : Prop} (h : p := by exact cC_ (Kd.C_below HR0_6.out HB.out)) : p := h
theorem b7_5 {p : Prop} (h : p := by exact cC_ (Kd.C_below HR0_6.out b7_3)) : p := h
theorem b7_6 {p : Prop} (h : p := by exact cC_ (Kd.C_below HR1.out b7_3)) : p := h
theorem q7_0 {p : Prop} (h : p := by first | rfl | (simp [errW_none, errW_some] <;> rfl) | (simp only [← hji59]; first | rfl | (simp [errW_none, errW_some] <;> rfl)) | (simp [*, errW_none, errW_some] <;> rfl)) : p := h
theorem q7_1 {p : Prop} (h : p := by first | rfl | (simp [errW_none, errW_some] <;> rfl) | (simp only [← hji75]; first | rfl | (simp [errW_none, errW_some] <;> rfl)) | (simp [*, errW_none, errW_some] <;> rfl)) : p := h
/-! ### impl_Node_fault: function 78 -/
mutual
def impl_Node_fault.l0 : Nat → List Int → List Int → Int → Int → Int → Int → Int → Int → Int → Int → List Int → Option (Int)
 | 0, _, _, _, _, _, _, _, _, _, _, _ => none
 | k + 1, x1, x47, x48, x49, x159000, x159001, x159002, x159003, x159004, x159005, x159006 => if x49 < x48 then (if 0 ≤ x49 then (if x49 < (x47.length : Int) then (if 0 ≤ x159001 then (if x159001 < (x1.length : Int) then ((impl_in.f (rd x47 x49) 0 (wrap64 ((rd x1 x159001) - 1))).bind fun t168 => (if t168 = true then (impl_Node_fault.l0 k x1 x47 x48 (wrap64 (x49 + 1)) x159000 x159001 x159002 x159003 x159004 x159005 x159006) else (some 3))) else (none)) else (none)) else (none)) else (none)) else (some 0)
def impl_Node_fault.j1 : Nat → List Int → Bool → Int → Int → Int → Int → Int → Int → List Int → Option (Int)
 | 0, _, _, _, _, _, _, _, _, _ => none
 | k + 1, x1, x109, x159000, x159001, x159002, x159003, x159004, x159005, x159006 => if x109 = true then (if 0 ≤ x159001 then (if x159001 < (x1.length : Int) then ((impl_in.f x159003 0 (wrap64 ((rd x1 x159001) - 1))).bind fun t178 => (if t178 = true then (some 0) else (some 3))) else (none)) else (none)) else (some 0)
end
def impl_Node_fault.f (k : Nat) (a0_0 : Int) (a0_1 : Int) (a0_2 : Int) (a0_3 : Int) (a0_4 : Int) (a0_5 : Int) (l0_6 : List Int) (l1 : List Int) : Option (Int) := if a0_0 = 1 then ((impl_in.f a0_3 1 3).bind fun t159 => (if t159 = true then (some 0) else (some 3))) else (if a0_0 = 2 then (if 0 ≤ a0_1 then (if a0_1 < (l1.length : Int) then ((impl_in.f a0_3 0 (wrap64 ((rd l1 a0_1) - 1))).bind fun t161 => (if t161 = true then ((impl_in.f a0_4 0 2).bind fun t162 => (if t162 = true then ((impl_in.f a0_5 (-1000000000) 1000000000).bind fun t163 => (if t163 = true then (some 0) else (some 3))) else (some 3))) else (some 3))) else (none)) else (none)) else (if a0_0 = 3 then ((impl_size_int64.f l0_6).bind fun t164 => ((impl_in.f t164 1 4).bind fun t165 => (if t165 = true then (impl_Node_fault.l0 k l1 l0_6 (l0_6.length : Int) 0 a0_0 a0_1 a0_2 a0_3 a0_4 a0_5 l0_6) else (some 2)))) else (if a0_0 = 4 then (if 0 ≤ a0_1 then (if a0_1 < (l1.length : Int) then (if 0 ≤ a0_2 then (if a0_2 < (l1.length : Int) then (if (rd l1 a0_1) = (rd l1 a0_2) then (some 0) else (some 1)) else (none)) else (none)) else (none)) else (none)) else (if a0_0 = 6 then (if 0 ≤ a0_1 then (if a0_1 < (l1.length : Int) then (if 0 ≤ a0_2 then (if a0_2 < (l1.length : Int) then ((impl_in.f a0_3 1 (mn (rd l1 a0_1) (rd l1 a0_2))).bind fun t173 => (if t173 = true then ((impl_Node_width.f a0_0 a0_1 a0_2 a0_3 a0_4 a0_5 l0_6 l1).bind fun t174 => (if t174 > 4 then (some 2) else (some 0))) else (some 3))) else (none)) else (none)) else (none)) else (none)) else (if a0_0 = 7 then (if 0 ≤ a0_1 then (if a0_1 < (l1.length : Int) then ((impl_in.f a0_3 0 (mn (rd l1 a0_1) 3)).bind fun t176 => (if t176 = true then (some 0) else (some 3))) else (none)) else (none)) else (if a0_0 = 8 then (impl_Node_fault.j1 k l1 (a0_0 == 8) a0_0 a0_1 a0_2 a0_3 a0_4 a0_5 l0_6) else (if a0_0 = 9 then (impl_Node_fault.j1 k l1 (a0_0 == 9) a0_0 a0_1 a0_2 a0_3 a0_4 a0_5 l0_6) else (impl_Node_fault.j1 k l1 (a0_0 == 10) a0_0 a0_1 a0_2 a0_3 a0_4 a0_5 l0_6))))))))
theorem impl_Node_fault.mono_l : ∀ k, (∀ y0 y1 y2 y3 y4 y5 y6 y7 y8 y9 y10, LeO (impl_Node_fault.l0 k y0 y1 y2 y3 y4 y5 y6 y7 y8 y9 y10) (impl_Node_fault.l0 (k + 1) y0 y1 y2 y3 y4 y5 y6 y7 y8 y9 y10)) ∧ (∀ y0 y1 y2 y3 y4 y5 y6 y7 y8, LeO (impl_Node_fault.j1 k y0 y1 y2 y3 y4 y5 y6 y7 y8) (impl_Node_fault.j1 (k + 1) y0 y1 y2 y3 y4 y5 y6 y7 y8))
 | 0 => ⟨fun _ _ _ _ _ _ _ _ _ _ _ r h => by simp [impl_Node_fault.l0] at h, fun _ _ _ _ _ _ _ _ _ r h => by simp [impl_Node_fault.j1] at h⟩
 | k + 1 => by
  obtain ⟨ih0, ih1⟩ := impl_Node_fault.mono_l k
  refine ⟨?_, ?_⟩
  ·intro y0 y1 y2 y3 y4 y5 y6 y7 y8 y9 y10
   unfold impl_Node_fault.l0
   repeat' first
   | (with_reducible exact ih0 _ _ _ _ _ _ _ _ _ _ _)
   | (with_reducible exact ih1 _ _ _ _ _ _ _ _ _)
   | (with_reducible exact LeO.refl _)
   | (with_reducible exact LeO.none _)
   | (with_reducible refine LeO.ite ?_ ?_)
   | (with_reducible refine LeO.bind ?_ (fun _ => ?_))
   | exact ih0 _ _ _ _ _ _ _ _ _ _ _
   | exact ih1 _ _ _ _ _ _ _ _ _
   | exact LeO.none _
   | refine LeO.ite ?_ ?_
   | refine LeO.bind ?_ (fun _ => ?_)
  ·intro y0 y1 y2 y3 y4 y5 y6 y7 y8
   unfold impl_Node_fault.j1
   repeat' first
   | (with_reducible exact ih0 _ _ _ _ _ _ _ _ _ _ _)
   | (with_reducible exact ih1 _ _ _ _ _ _ _ _ _)
   | (with_reducible exact LeO.refl _)
   | (with_reducible exact LeO.none _)
   | (with_reducible refine LeO.ite ?_ ?_)
   | (with_reducible refine LeO.bind ?_ (fun _ => ?_))
   | exact ih0 _ _ _ _ _ _ _ _ _ _ _
   | exact ih1 _ _ _ _ _ _ _ _ _
   | exact LeO.none _
   | refine LeO.ite ?_ ?_
   | refine LeO.bind ?_ (fun _ => ?_)
theorem impl_Node_fault.mono : ∀ a0 a1 a2 a3 a4 a5 a6 a7 k, LeO (impl_Node_fault.f k a0 a1 a2 a3 a4 a5 a6 a7) (impl_Node_fault.f (k + 1) a0 a1 a2 a3 a4 a5 a6 a7) := by
 intro a0 a1 a2 a3 a4 a5 a6 a7 k
 obtain ⟨ih0, ih1⟩ := impl_Node_fault.mono_l k
 unfold impl_Node_fault.f
 repeat' first
   | (with_reducible exact ih0 _ _ _ _ _ _ _ _ _ _ _)
   | (with_reducible exact ih1 _ _ _ _ _ _ _ _ _)
   | (with_reducible exact LeO.refl _)
   | (with_reducible exact LeO.none _)
   | (with_reducible refine LeO.ite ?_ ?_)
   | (with_reducible refine LeO.bind ?_ (fun _ => ?_))
   | exact ih0 _ _ _ _ _ _ _ _ _ _ _
   | exact ih1 _ _ _ _ _ _ _ _ _
   | exact LeO.none _
   | refine LeO.ite ?_ ?_
   | refine LeO.bind ?_ (fun _ => ?_)
set_option maxHeartbeats 8000000 in
set_option maxRecDepth 100000 in
theorem impl_Node_fault.calls (k : Nat) (a0_0 : Int) (a0_1 : Int) (a0_2 : Int) (a0_3 : Int) (a0_4 : Int) (a0_5 : Int) (A0_6 : Option Addr) (c0_6 : Nat) (l0_6 : List Int) (A1 : Option Addr) (c1 : Nat) (l1 : List Int) (r : Int) (w : World) (hr0_6 : Kd.C (Kd.int .i64) w A0_6 l0_6.length l0_6) (hc0_6 : l0_6.length ≤ c0_6) (hr1 : Kd.C (Kd.int .i64) w A1 l1.length l1) (hc1 : l1.length ≤ c1) (h : impl_Node_fault.f k a0_0 a0_1 a0_2 a0_3 a0_4 a0_5 l0_6 l1 = some r) :
  Calls Try.prog 78 #[.agg #[.int .i64 a0_0, .int .i64 a0_1, .int .i64 a0_2, .int .i64 a0_3, .int .i64 a0_4, .int .i64 a0_5, .slice A0_6 l0_6.length c0_6], .slice A1 l1.length c1] w fun e w' => e = .returned (.int .i64 r) ∧ Below w.heap.size w w' := by
 have hu58 := Try.underlying58
 have HR0_6 := Aside0.mk hr0_6
 have HC0_6 := Aside0.mk hc0_6
 clear hr0_6 hc0_6
 have HR1 := Aside0.mk hr1
 have HC1 := Aside0.mk hc1
 clear hr1 hc1
 have HB := Aside0.mk (Below.refl w.heap.size w)
 have H : (if a0_0 = 1 then ((impl_in.f a0_3 1 3).bind fun t159 => (if t159 = true then (some 0) else (some 3))) else (if a0_0 = 2 then (if 0 ≤ a0_1 then (if a0_1 < (l1.length : Int) then ((impl_in.f a0_3 0 (wrap64 ((rd l1 a0_1) - 1))).bind fun t161 => (if t161 = true then ((impl_in.f a0_4 0 2).bind fun t162 => (if t162 = true then ((impl_in.f a0_5 (-1000000000) 1000000000).bind fun t163 => (if t163 = true then (some 0) else (some 3))) else (some 3))) else (some 3))) else (none)) else (none)) else (if a0_0 = 3 then ((impl_size_int64.f l0_6).bind fun t164 => ((impl_in.f t164 1 4).bind fun t165 => (if t165 = true then (impl_Node_fault.l0 k l1 l0_6 (l0_6.length : Int) 0 a0_0 a0_1 a0_2 a0_3 a0_4 a0_5 l0_6) else (some 2)))) else (if a0_0 = 4 then (if 0 ≤ a0_1 then (if a0_1 < (l1.length : Int) then (if 0 ≤ a0_2 then (if a0_2 < (l1.length : Int) then (if (rd l1 a0_1) = (rd l1 a0_2) then (some 0) else (some 1)) else (none)) else (none)) else (none)) else (none)) else (if a0_0 = 6 then (if 0 ≤ a0_1 then (if a0_1 < (l1.length : Int) then (if 0 ≤ a0_2 then (if a0_2 < (l1.length : Int) then ((impl_in.f a0_3 1 (mn (rd l1 a0_1) (rd l1 a0_2))).bind fun t173 => (if t173 = true then ((impl_Node_width.f a0_0 a0_1 a0_2 a0_3 a0_4 a0_5 l0_6 l1).bind fun t174 => (if t174 > 4 then (some 2) else (some 0))) else (some 3))) else (none)) else (none)) else (none)) else (none)) else (if a0_0 = 7 then (if 0 ≤ a0_1 then (if a0_1 < (l1.length : Int) then ((impl_in.f a0_3 0 (mn (rd l1 a0_1) 3)).bind fun t176 => (if t176 = true then (some 0) else (some 3))) else (none)) else (none)) else (if a0_0 = 8 then (impl_Node_fault.j1 k l1 (a0_0 == 8) a0_0 a0_1 a0_2 a0_3 a0_4 a0_5 l0_6) else (if a0_0 = 9 then (impl_Node_fault.j1 k l1 (a0_0 == 9) a0_0 a0_1 a0_2 a0_3 a0_4 a0_5 l0_6) else (impl_Node_fault.j1 k l1 (a0_0 == 10) a0_0 a0_1 a0_2 a0_3 a0_4 a0_5 l0_6))))))))) = some r := h
 clear h
 by_cases c3 : a0_0 = 1
 ·rw [if_pos c3] at H
  have c3b0 : (a0_0 == 1) = true := beq_iff_eq.mpr c3
  have c3b1 : (a0_0 != 1) = false := bne_eq_false_iff_eq.mpr c3
  clear c3
  obtain ⟨t159, A4, H⟩ := bnd_ H
  try dsimp only at H
  by_cases c5 : t159 = true
  ·subst c5
   rw [if_pos rfl] at H
   obtain rfl := Option.some.inj H
   go_enter Try.func78, Try.ntmps78
   go_wp2_with (first | (refine bx_ 2 #[.int .i64 a0_0, .int .i64 a0_1, .int .i64 a0_2, .int .i64 a0_3, .int .i64 a0_4, .int .i64 a0_5, .slice A0_6 l0_6.length c0_6] 58 ?_; intro gb158 hg w6 hbox hb; have BK158 := Aside0.mk (hbox); have GW158 := Aside0.mk ((by rw [hg]; exact (below_size cB0_) : w.heap.size ≤ gb158)); have GE158 := Aside0.mk ((by rw [hg]; exact (below_size cB0_) : w.heap.size ≤ gb158)); replace HB := Aside0.mk (below_step cB0_ hb); clear hb hbox hg; obtain ⟨hcz7_0, hcz7_1, hcz7_2, hcz7_3, hcz7_4, hcz7_5, hcz7_6, hfz7_0, hfz7_1, hfz7_2, hfz7_3, hfz7_4, hfz7_5, hfz7_6⟩ := cells7 BK158.out) | (go_at_call 47; (with_reducible refine (impl_in.calls a0_3 1 3 true _ A4.out).mono ?_); rintro e w' ⟨rfl, ⟨nd, rfl⟩⟩; (try exact b7_1)))
   repeat (go_quiet (first | (refine bx_ 2 #[.int .i64 a0_0, .int .i64 a0_1, .int .i64 a0_2, .int .i64 a0_3, .int .i64 a0_4, .int .i64 a0_5, .slice A0_6 l0_6.length c0_6] 58 ?_; intro gb158 hg w6 hbox hb; have BK158 := Aside0.mk (hbox); have GW158 := Aside0.mk ((by rw [hg]; exact (below_size cB0_) : w.heap.size ≤ gb158)); have GE158 := Aside0.mk ((by rw [hg]; exact (below_size cB0_) : w.heap.size ≤ gb158)); replace HB := Aside0.mk (below_step cB0_ hb); clear hb hbox hg; obtain ⟨hcz7_0, hcz7_1, hcz7_2, hcz7_3, hcz7_4, hcz7_5, hcz7_6, hfz7_0, hfz7_1, hfz7_2, hfz7_3, hfz7_4, hfz7_5, hfz7_6⟩ := cells7 BK158.out) | (go_at_call 47; (with_reducible refine (impl_in.calls a0_3 1 3 true _ A4.out).mono ?_); rintro e w' ⟨rfl, ⟨nd, rfl⟩⟩; (try exact b7_1))); try go_wp2_with (first | (refine bx_ 2 #[.int .i64 a0_0, .int .i64 a0_1, .int .i64 a0_2, .int .i64 a0_3, .int .i64 a0_4, .int .i64 a0_5, .slice A0_6 l0_6.length c0_6] 58 ?_; intro gb158 hg w6 hbox hb; have BK158 := Aside0.mk (hbox); have GW158 := Aside0.mk ((by rw [hg]; exact (below_size cB0_) : w.heap.size ≤ gb158)); have GE158 := Aside0.mk ((by rw [hg]; exact (below_size cB0_) : w.heap.size ≤ gb158)); replace HB := Aside0.mk (below_step cB0_ hb); clear hb hbox hg; obtain ⟨hcz7_0, hcz7_1, hcz7_2, hcz7_3, hcz7_4, hcz7_5, hcz7_6, hfz7_0, hfz7_1, hfz7_2, hfz7_3, hfz7_4, hfz7_5, hfz7_6⟩ := cells7 BK158.out) | (go_at_call 47; (with_reducible refine (impl_in.calls a0_3 1 3 true _ A4.out).mono ?_); rintro e w' ⟨rfl, ⟨nd, rfl⟩⟩; (try exact b7_1))))
   go_ret
   exact ⟨ce_, cB1_ GE158.out⟩
  replace c5 := Bool.eq_false_iff.mpr c5
  subst c5
  rw [if_neg (show ¬ (false = true) by decide)] at H
  obtain rfl := Option.some.inj H
  go_enter Try.func78, Try.ntmps78
  go_wp2_with (first | (refine bx_ 2 #[.int .i64 a0_0, .int .i64 a0_1, .int .i64 a0_2, .int .i64 a0_3, .int .i64 a0_4, .int .i64 a0_5, .slice A0_6 l0_6.length c0_6] 58 ?_; intro gb158 hg w8 hbox hb; have BK158 := Aside0.mk (hbox); have GW158 := Aside0.mk ((by rw [hg]; exact (below_size cB0_) : w.heap.size ≤ gb158)); have GE158 := Aside0.mk ((by rw [hg]; exact (below_size cB0_) : w.heap.size ≤ gb158)); replace HB := Aside0.mk (below_step cB0_ hb); clear hb hbox hg; obtain ⟨hcz9_0, hcz9_1, hcz9_2, hcz9_3, hcz9_4, hcz9_5, hcz9_6, hfz9_0, hfz9_1, hfz9_2, hfz9_3, hfz9_4, hfz9_5, hfz9_6⟩ := cells7 BK158.out) | (go_at_call 47; (with_reducible refine (impl_in.calls a0_3 1 3 false _ A4.out).mono ?_); rintro e w' ⟨rfl, ⟨nd, rfl⟩⟩; (try exact b7_1)))
  repeat (go_quiet (first | (refine bx_ 2 #[.int .i64 a0_0, .int .i64 a0_1, .int .i64 a0_2, .int .i64 a0_3, .int .i64 a0_4, .int .i64 a0_5, .slice A0_6 l0_6.length c0_6] 58 ?_; intro gb158 hg w8 hbox hb; have BK158 := Aside0.mk (hbox); have GW158 := Aside0.mk ((by rw [hg]; exact (below_size cB0_) : w.heap.size ≤ gb158)); have GE158 := Aside0.mk ((by rw [hg]; exact (below_size cB0_) : w.heap.size ≤ gb158)); replace HB := Aside0.mk (below_step cB0_ hb); clear hb hbox hg; obtain ⟨hcz9_0, hcz9_1, hcz9_2, hcz9_3, hcz9_4, hcz9_5, hcz9_6, hfz9_0, hfz9_1, hfz9_2, hfz9_3, hfz9_4, hfz9_5, hfz9_6⟩ := cells7 BK158.out) | (go_at_call 47; (with_reducible refine (impl_in.calls a0_3 1 3 false _ A4.out).mono ?_); rintro e w' ⟨rfl, ⟨nd, rfl⟩⟩; (try exact b7_1))); try go_wp2_with (first | (refine bx_ 2 #[.int .i64 a0_0, .int .i64 a0_1, .int .i64 a0_2, .int .i64 a0_3, .int .i64 a0_4, .int .i64 a0_5, .slice A0_6 l0_6.length c0_6] 58 ?_; intro gb158 hg w8 hbox hb; have BK158 := Aside0.mk (hbox); have GW158 := Aside0.mk ((by rw [hg]; exact (below_size cB0_) : w.heap.size ≤ gb158)); have GE158 := Aside0.mk ((by rw [hg]; exact (below_size cB0_) : w.heap.size ≤ gb158)); replace HB := Aside0.mk (below_step cB0_ hb); clear hb hbox hg; obtain ⟨hcz9_0, hcz9_1, hcz9_2, hcz9_3, hcz9_4, hcz9_5, hcz9_6, hfz9_0, hfz9_1, hfz9_2, hfz9_3, hfz9_4, hfz9_5, hfz9_6⟩ := cells7 BK158.out) | (go_at_call 47; (with_reducible refine (impl_in.calls a0_3 1 3 false _ A4.out).mono ?_); rintro e w' ⟨rfl, ⟨nd, rfl⟩⟩; (try exact b7_1))))
  go_ret
  exact ⟨ce_, cB1_ GE158.out⟩
 rw [if_neg c3] at H
 have c3b0 : (a0_0 == 1) = false := beq_eq_false_iff_ne.mpr c3
 have c3b1 : (a0_0 != 1) = true := bne_iff_ne.mpr c3
 by_cases c10 : a0_0 = 2
 ·rw [if_pos c10] at H
  have c10b0 : (a0_0 == 2) = true := beq_iff_eq.mpr c10
  have c10b1 : (a0_0 != 2) = false := bne_eq_false_iff_eq.mpr c10
  clear c10
  by_cases c11 : 0 ≤ a0_1
  rotate_left
  ·rw [if_neg c11] at H
   exact absurd H (by simp)
  rw [if_pos c11] at H
  have c11b0 : decide (0 ≤ a0_1) = true := decide_eq_true c11
  clear c11
  by_cases c12 : a0_1 < (l1.length : Int)
  rotate_left
  ·rw [if_neg c12] at H
   exact absurd H (by simp)
  rw [if_pos c12] at H
  have c12b0 : decide (a0_1 < (l1.length : Int)) = true := decide_eq_true c12
  clear c12
  obtain ⟨t161, A13, H⟩ := bnd_ H
  try dsimp only at H
  by_cases c14 : t161 = true
  rotate_left
  ·replace c14 := Bool.eq_false_iff.mpr c14
   subst c14
   rw [if_neg (show ¬ (false = true) by decide)] at H
   obtain rfl := Option.some.inj H
   go_enter Try.func78, Try.ntmps78
   go_wp2_with (first | (refine bx_ 2 #[.int .i64 a0_0, .int .i64 a0_1, .int .i64 a0_2, .int .i64 a0_3, .int .i64 a0_4, .int .i64 a0_5, .slice A0_6 l0_6.length c0_6] 58 ?_; intro gb158 hg w25 hbox hb; have BK158 := Aside0.mk (hbox); have GW158 := Aside0.mk ((by rw [hg]; exact (below_size cB0_) : w.heap.size ≤ gb158)); have GE158 := Aside0.mk ((by rw [hg]; exact (below_size cB0_) : w.heap.size ≤ gb158)); replace HB := Aside0.mk (below_step cB0_ hb); clear hb hbox hg; obtain ⟨hcz26_0, hcz26_1, hcz26_2, hcz26_3, hcz26_4, hcz26_5, hcz26_6, hfz26_0, hfz26_1, hfz26_2, hfz26_3, hfz26_4, hfz26_5, hfz26_6⟩ := cells7 BK158.out; have p160 : 0 ≤ (a0_1 : Int) := of_decide_eq_true ca_; have q160 : a0_1 < (l1.length : Int) := of_decide_eq_true ca_; obtain ⟨ad160, e160, hx160_0⟩ := Kd.at_int HR1.out a0_1 p160 q160; cases e160; replace hx160_0 := (HB.out.cell (World.block_lt_of_cell? w _ hx160_0)).trans hx160_0; replace p160 := eq_true p160; replace q160 := eq_true q160) | (go_at_call 47; (with_reducible refine (impl_in.calls a0_3 0 (wrap64 ((rd l1 a0_1) - 1)) false _ A13.out).mono ?_); rintro e w' ⟨rfl, ⟨nd, rfl⟩⟩; (try exact b7_1)))
   repeat (go_quiet (first | (refine bx_ 2 #[.int .i64 a0_0, .int .i64 a0_1, .int .i64 a0_2, .int .i64 a0_3, .int .i64 a0_4, .int .i64 a0_5, .slice A0_6 l0_6.length c0_6] 58 ?_; intro gb158 hg w25 hbox hb; have BK158 := Aside0.mk (hbox); have GW158 := Aside0.mk ((by rw [hg]; exact (below_size cB0_) : w.heap.size ≤ gb158)); have GE158 := Aside0.mk ((by rw [hg]; exact (below_size cB0_) : w.heap.size ≤ gb158)); replace HB := Aside0.mk (below_step cB0_ hb); clear hb hbox hg; obtain ⟨hcz26_0, hcz26_1, hcz26_2, hcz26_3, hcz26_4, hcz26_5, hcz26_6, hfz26_0, hfz26_1, hfz26_2, hfz26_3, hfz26_4, hfz26_5, hfz26_6⟩ := cells7 BK158.out; have p160 : 0 ≤ (a0_1 : Int) := of_decide_eq_true ca_; have q160 : a0_1 < (l1.length : Int) := of_decide_eq_true ca_; obtain ⟨ad160, e160, hx160_0⟩ := Kd.at_int HR1.out a0_1 p160 q160; cases e160; replace hx160_0 := (HB.out.cell (World.block_lt_of_cell? w _ hx160_0)).trans hx160_0; replace p160 := eq_true p160; replace q160 := eq_true q160) | (go_at_call 47; (with_reducible refine (impl_in.calls a0_3 0 (wrap64 ((rd l1 a0_1) - 1)) false _ A13.out).mono ?_); rintro e w' ⟨rfl, ⟨nd, rfl⟩⟩; (try exact b7_1))); try go_wp2_with (first | (refine bx_ 2 #[.int .i64 a0_0, .int .i64 a0_1, .int .i64 a0_2, .int .i64 a0_3, .int .i64 a0_4, .int .i64 a0_5, .slice A0_6 l0_6.length c0_6] 58 ?_; intro gb158 hg w25 hbox hb; have BK158 := Aside0.mk (hbox); have GW158 := Aside0.mk ((by rw [hg]; exact (below_size cB0_) : w.heap.size ≤ gb158)); have GE158 := Aside0.mk ((by rw [hg]; exact (below_size cB0_) : w.heap.size ≤ gb158)); replace HB := Aside0.mk (below_step cB0_ hb); clear hb hbox hg; obtain ⟨hcz26_0, hcz26_1, hcz26_2, hcz26_3, hcz26_4, hcz26_5, hcz26_6, hfz26_0, hfz26_1, hfz26_2, hfz26_3, hfz26_4, hfz26_5, hfz26_6⟩ := cells7 BK158.out; have p160 : 0 ≤ (a0_1 : Int) := of_decide_eq_true ca_; have q160 : a0_1 < (l1.length : Int) := of_decide_eq_true ca_; obtain ⟨ad160, e160, hx160_0⟩ := Kd.at_int HR1.out a0_1 p160 q160; cases e160; replace hx160_0 := (HB.out.cell (World.block_lt_of_cell? w _ hx160_0)).trans hx160_0; replace p160 := eq_true p160; replace q160 := eq_true q160) | (go_at_call 47; (with_reducible refine (impl_in.calls a0_3 0 (wrap64 ((rd l1 a0_1) - 1)) false _ A13.out).mono ?_); rintro e w' ⟨rfl, ⟨nd, rfl⟩⟩; (try exact b7_1))))
   go_ret
   exact ⟨ce_, cB1_ GE158.out⟩
  subst c14
  rw [if_pos rfl] at H
  obtain ⟨t162, A15, H⟩ := bnd_ H
  try dsimp only at H
  by_cases c16 : t162 = true
  rotate_left
  ·replace c16 := Bool.eq_false_iff.mpr c16
   subst c16
   rw [if_neg (show ¬ (false = true) by decide)] at H
   obtain rfl := Option.some.inj H
   go_enter Try.func78, Try.ntmps78
   go_wp2_with (first | (refine bx_ 2 #[.int .i64 a0_0, .int .i64 a0_1, .int .i64 a0_2, .int .i64 a0_3, .int .i64 a0_4, .int .i64 a0_5, .slice A0_6 l0_6.length c0_6] 58 ?_; intro gb158 hg w23 hbox hb; have BK158 := Aside0.mk (hbox); have GW158 := Aside0.mk ((by rw [hg]; exact (below_size cB0_) : w.heap.size ≤ gb158)); have GE158 := Aside0.mk ((by rw [hg]; exact (below_size cB0_) : w.heap.size ≤ gb158)); replace HB := Aside0.mk (below_step cB0_ hb); clear hb hbox hg; obtain ⟨hcz24_0, hcz24_1, hcz24_2, hcz24_3, hcz24_4, hcz24_5, hcz24_6, hfz24_0, hfz24_1, hfz24_2, hfz24_3, hfz24_4, hfz24_5, hfz24_6⟩ := cells7 BK158.out; have p160 : 0 ≤ (a0_1 : Int) := of_decide_eq_true ca_; have q160 : a0_1 < (l1.length : Int) := of_decide_eq_true ca_; obtain ⟨ad160, e160, hx160_0⟩ := Kd.at_int HR1.out a0_1 p160 q160; cases e160; replace hx160_0 := (HB.out.cell (World.block_lt_of_cell? w _ hx160_0)).trans hx160_0; replace p160 := eq_true p160; replace q160 := eq_true q160) | (go_at_call 47; (with_reducible refine (impl_in.calls a0_3 0 (wrap64 ((rd l1 a0_1) - 1)) true _ A13.out).mono ?_); rintro e w' ⟨rfl, ⟨nd, rfl⟩⟩; (try exact b7_1)) | (go_at_call 47; (with_reducible refine (impl_in.calls a0_4 0 2 false _ A15.out).mono ?_); rintro e w' ⟨rfl, ⟨nd, rfl⟩⟩; (try exact b7_1)))
   repeat (go_quiet (first | (refine bx_ 2 #[.int .i64 a0_0, .int .i64 a0_1, .int .i64 a0_2, .int .i64 a0_3, .int .i64 a0_4, .int .i64 a0_5, .slice A0_6 l0_6.length c0_6] 58 ?_; intro gb158 hg w23 hbox hb; have BK158 := Aside0.mk (hbox); have GW158 := Aside0.mk ((by rw [hg]; exact (below_size cB0_) : w.heap.size ≤ gb158)); have GE158 := Aside0.mk ((by rw [hg]; exact (below_size cB0_) : w.heap.size ≤ gb158)); replace HB := Aside0.mk (below_step cB0_ hb); clear hb hbox hg; obtain ⟨hcz24_0, hcz24_1, hcz24_2, hcz24_3, hcz24_4, hcz24_5, hcz24_6, hfz24_0, hfz24_1, hfz24_2, hfz24_3, hfz24_4, hfz24_5, hfz24_6⟩ := cells7 BK158.out; have p160 : 0 ≤ (a0_1 : Int) := of_decide_eq_true ca_; have q160 : a0_1 < (l1.length : Int) := of_decide_eq_true ca_; obtain ⟨ad160, e160, hx160_0⟩ := Kd.at_int HR1.out a0_1 p160 q160; cases e160; replace hx160_0 := (HB.out.cell (World.block_lt_of_cell? w _ hx160_0)).trans hx160_0; replace p160 := eq_true p160; replace q160 := eq_true q160) | (go_at_call 47; (with_reducible refine (impl_in.calls a0_3 0 (wrap64 ((rd l1 a0_1) - 1)) true _ A13.out).mono ?_); rintro e w' ⟨rfl, ⟨nd, rfl⟩⟩; (try exact b7_1)) | (go_at_call 47; (with_reducible refine (impl_in.calls a0_4 0 2 false _ A15.out).mono ?_); rintro e w' ⟨rfl, ⟨nd, rfl⟩⟩; (try exact b7_1))); try go_wp2_with (first | (refine bx_ 2 #[.int .i64 a0_0, .int .i64 a0_1, .int .i64 a0_2, .int .i64 a0_3, .int .i64 a0_4, .int .i64 a0_5, .slice A0_6 l0_6.length c0_6] 58 ?_; intro gb158 hg w23 hbox hb; have BK158 := Aside0.mk (hbox); have GW158 := Aside0.mk ((by rw [hg]; exact (below_size cB0_) : w.heap.size ≤ gb158)); have GE158 := Aside0.mk ((by rw [hg]; exact (below_size cB0_) : w.heap.size ≤ gb158)); replace HB := Aside0.mk (below_step cB0_ hb); clear hb hbox hg; obtain ⟨hcz24_0, hcz24_1, hcz24_2, hcz24_3, hcz24_4, hcz24_5, hcz24_6, hfz24_0, hfz24_1, hfz24_2, hfz24_3, hfz24_4, hfz24_5, hfz24_6⟩ := cells7 BK158.out; have p160 : 0 ≤ (a0_1 : Int) := of_decide_eq_true ca_; have q160 : a0_1 < (l1.length : Int) := of_decide_eq_true ca_; obtain ⟨ad160, e160, hx160_0⟩ := Kd.at_int HR1.out a0_1 p160 q160; cases e160; replace hx160_0 := (HB.out.cell (World.block_lt_of_cell? w _ hx160_0)).trans hx160_0; replace p160 := eq_true p160; replace q160 := eq_true q160) | (go_at_call 47; (with_reducible refine (impl_in.calls a0_3 0 (wrap64 ((rd l1 a0_1) - 1)) true _ A13.out).mono ?_); rintro e w' ⟨rfl, ⟨nd, rfl⟩⟩; (try exact b7_1)) | (go_at_call 47; (with_reducible refine (impl_in.calls a0_4 0 2 false _ A15.out).mono ?_); rintro e w' ⟨rfl, ⟨nd, rfl⟩⟩; (try exact b7_1))))
   go_ret
   exact ⟨ce_, cB1_ GE158.out⟩
  subst c16
  rw [if_pos rfl] at H
  obtain ⟨t163, A17, H⟩ := bnd_ H
  try dsimp only at H
  by_cases c18 : t163 = true
  ·subst c18
   rw [if_pos rfl] at H
   obtain rfl := Option.some.inj H
   go_enter Try.func78, Try.ntmps78
   go_wp2_with (first | (refine bx_ 2 #[.int .i64 a0_0, .int .i64 a0_1, .int .i64 a0_2, .int .i64 a0_3, .int .i64 a0_4, .int .i64 a0_5, .slice A0_6 l0_6.length c0_6] 58 ?_; intro gb158 hg w19 hbox hb; have BK158 := Aside0.mk (hbox); have GW158 := Aside0.mk ((by rw [hg]; exact (below_size cB0_) : w.heap.size ≤ gb158)); have GE158 := Aside0.mk ((by rw [hg]; exact (below_size cB0_) : w.heap.size ≤ gb158)); replace HB := Aside0.mk (below_step cB0_ hb); clear hb hbox hg; obtain ⟨hcz20_0, hcz20_1, hcz20_2, hcz20_3, hcz20_4, hcz20_5, hcz20_6, hfz20_0, hfz20_1, hfz20_2, hfz20_3, hfz20_4, hfz20_5, hfz20_6⟩ := cells7 BK158.out; have p160 : 0 ≤ (a0_1 : Int) := of_decide_eq_true ca_; have q160 : a0_1 < (l1.length : Int) := of_decide_eq_true ca_; obtain ⟨ad160, e160, hx160_0⟩ := Kd.at_int HR1.out a0_1 p160 q160; cases e160; replace hx160_0 := (HB.out.cell (World.block_lt_of_cell? w _ hx160_0)).trans hx160_0; replace p160 := eq_true p160; replace q160 := eq_true q160) | (go_at_call 47; (with_reducible refine (impl_in.calls a0_3 0 (wrap64 ((rd l1 a0_1) - 1)) true _ A13.out).mono ?_); rintro e w' ⟨rfl, ⟨nd, rfl⟩⟩; (try exact b7_1)) | (go_at_call 47; (with_reducible refine (impl_in.calls a0_4 0 2 true _ A15.out).mono ?_); rintro e w' ⟨rfl, ⟨nd, rfl⟩⟩; (try exact b7_1)) | (go_at_call 47; (with_reducible refine (impl_in.calls a0_5 (-1000000000) 1000000000 true _ A17.out).mono ?_); rintro e w' ⟨rfl, ⟨nd, rfl⟩⟩; (try exact b7_1)))
   repeat (go_quiet (first | (refine bx_ 2 #[.int .i64 a0_0, .int .i64 a0_1, .int .i64 a0_2, .int .i64 a0_3, .int .i64 a0_4, .int .i64 a0_5, .slice A0_6 l0_6.length c0_6] 58 ?_; intro gb158 hg w19 hbox hb; have BK158 := Aside0.mk (hbox); have GW158 := Aside0.mk ((by rw [hg]; exact (below_size cB0_) : w.heap.size ≤ gb158)); have GE158 := Aside0.mk ((by rw [hg]; exact (below_size cB0_) : w.heap.size ≤ gb158)); replace HB := Aside0.mk (below_step cB0_ hb); clear hb hbox hg; obtain ⟨hcz20_0, hcz20_1, hcz20_2, hcz20_3, hcz20_4, hcz20_5, hcz20_6, hfz20_0, hfz20_1, hfz20_2, hfz20_3, hfz20_4, hfz20_5, hfz20_6⟩ := cells7 BK158.out; have p160 : 0 ≤ (a0_1 : Int) := of_decide_eq_true ca_; have q160 : a0_1 < (l1.length : Int) := of_decide_eq_true ca_; obtain ⟨ad160, e160, hx160_0⟩ := Kd.at_int HR1.out a0_1 p160 q160; cases e160; replace hx160_0 := (HB.out.cell (World.block_lt_of_cell? w _ hx160_0)).trans hx160_0; replace p160 := eq_true p160; replace q160 := eq_true q160) | (go_at_call 47; (with_reducible refine (impl_in.calls a0_3 0 (wrap64 ((rd l1 a0_1) - 1)) true _ A13.out).mono ?_); rintro e w' ⟨rfl, ⟨nd, rfl⟩⟩; (try exact b7_1)) | (go_at_call 47; (with_reducible refine (impl_in.calls a0_4 0 2 true _ A15.out).mono ?_); rintro e w' ⟨rfl, ⟨nd, rfl⟩⟩; (try exact b7_1)) | (go_at_call 47; (with_reducible refine (impl_in.calls a0_5 (-1000000000) 1000000000 true _ A17.out).mono ?_); rintro e w' ⟨rfl, ⟨nd, rfl⟩⟩; (try exact b7_1))); try go_wp2_with (first | (refine bx_ 2 #[.int .i64 a0_0, .int .i64 a0_1, .int .i64 a0_2, .int .i64 a0_3, .int .i64 a0_4, .int .i64 a0_5, .slice A0_6 l0_6.length c0_6] 58 ?_; intro gb158 hg w19 hbox hb; have BK158 := Aside0.mk (hbox); have GW158 := Aside0.mk ((by rw [hg]; exact (below_size cB0_) : w.heap.size ≤ gb158)); have GE158 := Aside0.mk ((by rw [hg]; exact (below_size cB0_) : w.heap.size ≤ gb158)); replace HB := Aside0.mk (below_step cB0_ hb); clear hb hbox hg; obtain ⟨hcz20_0, hcz20_1, hcz20_2, hcz20_3, hcz20_4, hcz20_5, hcz20_6, hfz20_0, hfz20_1, hfz20_2, hfz20_3, hfz20_4, hfz20_5, hfz20_6⟩ := cells7 BK158.out; have p160 : 0 ≤ (a0_1 : Int) := of_decide_eq_true ca_; have q160 : a0_1 < (l1.length : Int) := of_decide_eq_true ca_; obtain ⟨ad160, e160, hx160_0⟩ := Kd.at_int HR1.out a0_1 p160 q160; cases e160; replace hx160_0 := (HB.out.cell (World.block_lt_of_cell? w _ hx160_0)).trans hx160_0; replace p160 := eq_true p160; replace q160 := eq_true q160) | (go_at_call 47; (with_reducible refine (impl_in.calls a0_3 0 (wrap64 ((rd l1 a0_1) - 1)) true _ A13.out).mono ?_); rintro e w' ⟨rfl, ⟨nd, rfl⟩⟩; (try exact b7_1)) | (go_at_call 47; (with_reducible refine (impl_in.calls a0_4 0 2 true _ A15.out).mono ?_); rintro e w' ⟨rfl, ⟨nd, rfl⟩⟩; (try exact b7_1)) | (go_at_call 47; (with_reducible refine (impl_in.calls a0_5 (-1000000000) 1000000000 true _ A17.out).mono ?_); rintro e w' ⟨rfl, ⟨nd, rfl⟩⟩; (try exact b7_1))))
   go_ret
   exact ⟨ce_, cB1_ GE158.out⟩
  replace c18 := Bool.eq_false_iff.mpr c18
  subst c18
  rw [if_neg (show ¬ (false = true) by decide)] at H
  obtain rfl := Option.some.inj H
  go_enter Try.func78, Try.ntmps78
  go_wp2_with (first | (refine bx_ 2 #[.int .i64 a0_0, .int .i64 a0_1, .int .i64 a0_2, .int .i64 a0_3, .int .i64 a0_4, .int .i64 a0_5, .slice A0_6 l0_6.length c0_6] 58 ?_; intro gb158 hg w21 hbox hb; have BK158 := Aside0.mk (hbox); have GW158 := Aside0.mk ((by rw [hg]; exact (below_size cB0_) : w.heap.size ≤ gb158)); have GE158 := Aside0.mk ((by rw [hg]; exact (below_size cB0_) : w.heap.size ≤ gb158)); replace HB := Aside0.mk (below_step cB0_ hb); clear hb hbox hg; obtain ⟨hcz22_0, hcz22_1, hcz22_2, hcz22_3, hcz22_4, hcz22_5, hcz22_6, hfz22_0, hfz22_1, hfz22_2, hfz22_3, hfz22_4, hfz22_5, hfz22_6⟩ := cells7 BK158.out; have p160 : 0 ≤ (a0_1 : Int) := of_decide_eq_true ca_; have q160 : a0_1 < (l1.length : Int) := of_decide_eq_true ca_; obtain ⟨ad160, e160, hx160_0⟩ := Kd.at_int HR1.out a0_1 p160 q160; cases e160; replace hx160_0 := (HB.out.cell (World.block_lt_of_cell? w _ hx160_0)).trans hx160_0; replace p160 := eq_true p160; replace q160 := eq_true q160) | (go_at_call 47; (with_reducible refine (impl_in.calls a0_3 0 (wrap64 ((rd l1 a0_1) - 1)) true _ A13.out).mono ?_); rintro e w' ⟨rfl, ⟨nd, rfl⟩⟩; (try exact b7_1)) | (go_at_call 47; (with_reducible refine (impl_in.calls a0_4 0 2 true _ A15.out).mono ?_); rintro e w' ⟨rfl, ⟨nd, rfl⟩⟩; (try exact b7_1)) | (go_at_call 47; (with_reducible refine (impl_in.calls a0_5 (-1000000000) 1000000000 false _ A17.out).mono ?_); rintro e w' ⟨rfl, ⟨nd, rfl⟩⟩; (try exact b7_1)))
  repeat (go_quiet (first | (refine bx_ 2 #[.int .i64 a0_0, .int .i64 a0_1, .int .i64 a0_2, .int .i64 a0_3, .int .i64 a0_4, .int .i64 a0_5, .slice A0_6 l0_6.length c0_6] 58 ?_; intro gb158 hg w21 hbox hb; have BK158 := Aside0.mk (hbox); have GW158 := Aside0.mk ((by rw [hg]; exact (below_size cB0_) : w.heap.size ≤ gb158)); have GE158 := Aside0.mk ((by rw [hg]; exact (below_size cB0_) : w.heap.size ≤ gb158)); replace HB := Aside0.mk (below_step cB0_ hb); clear hb hbox hg; obtain ⟨hcz22_0, hcz22_1, hcz22_2, hcz22_3, hcz22_4, hcz22_5, hcz22_6, hfz22_0, hfz22_1, hfz22_2, hfz22_3, hfz22_4, hfz22_5, hfz22_6⟩ := cells7 BK158.out; have p160 : 0 ≤ (a0_1 : Int) := of_decide_eq_true ca_; have q160 : a0_1 < (l1.length : Int) := of_decide_eq_true ca_; obtain ⟨ad160, e160, hx160_0⟩ := Kd.at_int HR1.out a0_1 p160 q160; cases e160; replace hx160_0 := (HB.out.cell (World.block_lt_of_cell? w _ hx160_0)).trans hx160_0; replace p160 := eq_true p160; replace q160 := eq_true q160) | (go_at_call 47; (with_reducible refine (impl_in.calls a0_3 0 (wrap64 ((rd l1 a0_1) - 1)) true _ A13.out).mono ?_); rintro e w' ⟨rfl, ⟨nd, rfl⟩⟩; (try exact b7_1)) | (go_at_call 47; (with_reducible refine (impl_in.calls a0_4 0 2 true _ A15.out).mono ?_); rintro e w' ⟨rfl, ⟨nd, rfl⟩⟩; (try exact b7_1)) | (go_at_call 47; (with_reducible refine (impl_in.calls a0_5 (-1000000000) 1000000000 false _ A17.out).mono ?_); rintro e w' ⟨rfl, ⟨nd, rfl⟩⟩; (try exact b7_1))); try go_wp2_with (first | (refine bx_ 2 #[.int .i64 a0_0, .int .i64 a0_1, .int .i64 a0_2, .int .i64 a0_3, .int .i64 a0_4, .int .i64 a0_5, .slice A0_6 l0_6.length c0_6] 58 ?_; intro gb158 hg w21 hbox hb; have BK158 := Aside0.mk (hbox); have GW158 := Aside0.mk ((by rw [hg]; exact (below_size cB0_) : w.heap.size ≤ gb158)); have GE158 := Aside0.mk ((by rw [hg]; exact (below_size cB0_) : w.heap.size ≤ gb158)); replace HB := Aside0.mk (below_step cB0_ hb); clear hb hbox hg; obtain ⟨hcz22_0, hcz22_1, hcz22_2, hcz22_3, hcz22_4, hcz22_5, hcz22_6, hfz22_0, hfz22_1, hfz22_2, hfz22_3, hfz22_4, hfz22_5, hfz22_6⟩ := cells7 BK158.out; have p160 : 0 ≤ (a0_1 : Int) := of_decide_eq_true ca_; have q160 : a0_1 < (l1.length : Int) := of_decide_eq_true ca_; obtain ⟨ad160, e160, hx160_0⟩ := Kd.at_int HR1.out a0_1 p160 q160; cases e160; replace hx160_0 := (HB.out.cell (World.block_lt_of_cell? w _ hx160_0)).trans hx160_0; replace p160 := eq_true p160; replace q160 := eq_true q160) | (go_at_call 47; (with_reducible refine (impl_in.calls a0_3 0 (wrap64 ((rd l1 a0_1) - 1)) true _ A13.out).mono ?_); rintro e w' ⟨rfl, ⟨nd, rfl⟩⟩; (try exact b7_1)) | (go_at_call 47; (with_reducible refine (impl_in.calls a0_4 0 2 true _ A15.out).mono ?_); rintro e w' ⟨rfl, ⟨nd, rfl⟩⟩; (try exact b7_1)) | (go_at_call 47; (with_reducible refine (impl_in.calls a0_5 (-1000000000) 1000000000 false _ A17.out).mono ?_); rintro e w' ⟨rfl, ⟨nd, rfl⟩⟩; (try exact b7_1))))
  go_ret
  exact ⟨ce_, cB1_ GE158.out⟩
 rw [if_neg c10] at H
 have c10b0 : (a0_0 == 2) = false := beq_eq_false_iff_ne.mpr c10
 have c10b1 : (a0_0 != 2) = true := bne_iff_ne.mpr c10
 by_cases c27 : a0_0 = 3
 ·rw [if_pos c27] at H
  have c27b0 : (a0_0 == 3) = true := beq_iff_eq.mpr c27
  have c27b1 : (a0_0 != 3) = false := bne_eq_false_iff_eq.mpr c27
  clear c27
  obtain ⟨t164, A28, H⟩ := bnd_ H
  try dsimp only at H
  obtain ⟨t165, A29, H⟩ := bnd_ H
  try dsimp only at H
  by_cases c30 : t165 = true
  rotate_left
  ·replace c30 := Bool.eq_false_iff.mpr c30
   subst c30
   rw [if_neg (show ¬ (false = true) by decide)] at H
   obtain rfl := Option.some.inj H
   go_enter Try.func78, Try.ntmps78
   go_wp2_with (first | (refine bx_ 2 #[.int .i64 a0_0, .int .i64 a0_1, .int .i64 a0_2, .int .i64 a0_3, .int .i64 a0_4, .int .i64 a0_5, .slice A0_6 l0_6.length c0_6] 58 ?_; intro gb158 hg w42 hbox hb; have BK158 := Aside0.mk (hbox); have GW158 := Aside0.mk ((by rw [hg]; exact (below_size cB0_) : w.heap.size ≤ gb158)); have GE158 := Aside0.mk ((by rw [hg]; exact (below_size cB0_) : w.heap.size ≤ gb158)); replace HB := Aside0.mk (below_step cB0_ hb); clear hb hbox hg; obtain ⟨hcz43_0, hcz43_1, hcz43_2, hcz43_3, hcz43_4, hcz43_5, hcz43_6, hfz43_0, hfz43_1, hfz43_2, hfz43_3, hfz43_4, hfz43_5, hfz43_6⟩ := cells7 BK158.out) | (go_at_call 90; (with_reducible refine (impl_size_int64.calls _ _ l0_6 t164 _ ?side1 ?side2 A28.out).mono ?_); (case side1 => exact b7_4); (case side2 => exact HC0_6.out); rintro e w' ⟨rfl, ⟨nd, rfl⟩⟩; (try exact b7_1)) | (go_at_call 47; (with_reducible refine (impl_in.calls t164 1 4 false _ A29.out).mono ?_); rintro e w' ⟨rfl, ⟨nd, rfl⟩⟩; (try exact b7_1)))
   repeat (go_quiet (first | (refine bx_ 2 #[.int .i64 a0_0, .int .i64 a0_1, .int .i64 a0_2, .int .i64 a0_3, .int .i64 a0_4, .int .i64 a0_5, .slice A0_6 l0_6.length c0_6] 58 ?_; intro gb158 hg w42 hbox hb; have BK158 := Aside0.mk (hbox); have GW158 := Aside0.mk ((by rw [hg]; exact (below_size cB0_) : w.heap.size ≤ gb158)); have GE158 := Aside0.mk ((by rw [hg]; exact (below_size cB0_) : w.heap.size ≤ gb158)); replace HB := Aside0.mk (below_step cB0_ hb); clear hb hbox hg; obtain ⟨hcz43_0, hcz43_1, hcz43_2, hcz43_3, hcz43_4, hcz43_5, hcz43_6, hfz43_0, hfz43_1, hfz43_2, hfz43_3, hfz43_4, hfz43_5, hfz43_6⟩ := cells7 BK158.out) | (go_at_call 90; (with_reducible refine (impl_size_int64.calls _ _ l0_6 t164 _ ?side1 ?side2 A28.out).mono ?_); (case side1 => exact b7_4); (case side2 => exact HC0_6.out); rintro e w' ⟨rfl, ⟨nd, rfl⟩⟩; (try exact b7_1)) | (go_at_call 47; (with_reducible refine (impl_in.calls t164 1 4 false _ A29.out).mono ?_); rintro e w' ⟨rfl, ⟨nd, rfl⟩⟩; (try exact b7_1))); try go_wp2_with (first | (refine bx_ 2 #[.int .i64 a0_0, .int .i64 a0_1, .int .i64 a0_2, .int .i64 a0_3, .int .i64 a0_4, .int .i64 a0_5, .slice A0_6 l0_6.length c0_6] 58 ?_; intro gb158 hg w42 hbox hb; have BK158 := Aside0.mk (hbox); have GW158 := Aside0.mk ((by rw [hg]; exact (below_size cB0_) : w.heap.size ≤ gb158)); have GE158 := Aside0.mk ((by rw [hg]; exact (below_size cB0_) : w.heap.size ≤ gb158)); replace HB := Aside0.mk (below_step cB0_ hb); clear hb hbox hg; obtain ⟨hcz43_0, hcz43_1, hcz43_2, hcz43_3, hcz43_4, hcz43_5, hcz43_6, hfz43_0, hfz43_1, hfz43_2, hfz43_3, hfz43_4, hfz43_5, hfz43_6⟩ := cells7 BK158.out) | (go_at_call 90; (with_reducible refine (impl_size_int64.calls _ _ l0_6 t164 _ ?side1 ?side2 A28.out).mono ?_); (case side1 => exact b7_4); (case side2 => exact HC0_6.out); rintro e w' ⟨rfl, ⟨nd, rfl⟩⟩; (try exact b7_1)) | (go_at_call 47; (with_reducible refine (impl_in.calls t164 1 4 false _ A29.out).mono ?_); rintro e w' ⟨rfl, ⟨nd, rfl⟩⟩; (try exact b7_1))))
   go_ret
   exact ⟨ce_, cB1_ GE158.out⟩
  subst c30
  rw [if_pos rfl] at H
  have H' := Aside0.mk H
  clear H
  go_enter Try.func78, Try.ntmps78
  go_wp2_with (first | (refine bx_ 2 #[.int .i64 a0_0, .int .i64 a0_1, .int .i64 a0_2, .int .i64 a0_3, .int .i64 a0_4, .int .i64 a0_5, .slice A0_6 l0_6.length c0_6] 58 ?_; intro gb158 hg w31 hbox hb; have BK158 := Aside0.mk (hbox); have GW158 := Aside0.mk ((by rw [hg]; exact (below_size cB0_) : w.heap.size ≤ gb158)); have GE158 := Aside0.mk ((by rw [hg]; exact (below_size cB0_) : w.heap.size ≤ gb158)); replace HB := Aside0.mk (below_step cB0_ hb); clear hb hbox hg; obtain ⟨hcz32_0, hcz32_1, hcz32_2, hcz32_3, hcz32_4, hcz32_5, hcz32_6, hfz32_0, hfz32_1, hfz32_2, hfz32_3, hfz32_4, hfz32_5, hfz32_6⟩ := cells7 BK158.out) | (go_at_call 90; (with_reducible refine (impl_size_int64.calls _ _ l0_6 t164 _ ?side1 ?side2 A28.out).mono ?_); (case side1 => exact b7_4); (case side2 => exact HC0_6.out); rintro e w' ⟨rfl, ⟨nd, rfl⟩⟩; (try exact b7_1)) | (go_at_call 47; (with_reducible refine (impl_in.calls t164 1 4 true _ A29.out).mono ?_); rintro e w' ⟨rfl, ⟨nd, rfl⟩⟩; (try exact b7_1)))
  repeat (go_quiet (first | (refine bx_ 2 #[.int .i64 a0_0, .int .i64 a0_1, .int .i64 a0_2, .int .i64 a0_3, .int .i64 a0_4, .int .i64 a0_5, .slice A0_6 l0_6.length c0_6] 58 ?_; intro gb158 hg w31 hbox hb; have BK158 := Aside0.mk (hbox); have GW158 := Aside0.mk ((by rw [hg]; exact (below_size cB0_) : w.heap.size ≤ gb158)); have GE158 := Aside0.mk ((by rw [hg]; exact (below_size cB0_) : w.heap.size ≤ gb158)); replace HB := Aside0.mk (below_step cB0_ hb); clear hb hbox hg; obtain ⟨hcz32_0, hcz32_1, hcz32_2, hcz32_3, hcz32_4, hcz32_5, hcz32_6, hfz32_0, hfz32_1, hfz32_2, hfz32_3, hfz32_4, hfz32_5, hfz32_6⟩ := cells7 BK158.out) | (go_at_call 90; (with_reducible refine (impl_size_int64.calls _ _ l0_6 t164 _ ?side1 ?side2 A28.out).mono ?_); (case side1 => exact b7_4); (case side2 => exact HC0_6.out); rintro e w' ⟨rfl, ⟨nd, rfl⟩⟩; (try exact b7_1)) | (go_at_call 47; (with_reducible refine (impl_in.calls t164 1 4 true _ A29.out).mono ?_); rintro e w' ⟨rfl, ⟨nd, rfl⟩⟩; (try exact b7_1))); try go_wp2_with (first | (refine bx_ 2 #[.int .i64 a0_0, .int .i64 a0_1, .int .i64 a0_2, .int .i64 a0_3, .int .i64 a0_4, .int .i64 a0_5, .slice A0_6 l0_6.length c0_6] 58 ?_; intro gb158 hg w31 hbox hb; have BK158 := Aside0.mk (hbox); have GW158 := Aside0.mk ((by rw [hg]; exact (below_size cB0_) : w.heap.size ≤ gb158)); have GE158 := Aside0.mk ((by rw [hg]; exact (below_size cB0_) : w.heap.size ≤ gb158)); replace HB := Aside0.mk (below_step cB0_ hb); clear hb hbox hg; obtain ⟨hcz32_0, hcz32_1, hcz32_2, hcz32_3, hcz32_4, hcz32_5, hcz32_6, hfz32_0, hfz32_1, hfz32_2, hfz32_3, hfz32_4, hfz32_5, hfz32_6⟩ := cells7 BK158.out) | (go_at_call 90; (with_reducible refine (impl_size_int64.calls _ _ l0_6 t164 _ ?side1 ?side2 A28.out).mono ?_); (case side1 => exact b7_4); (case side2 => exact HC0_6.out); rintro e w' ⟨rfl, ⟨nd, rfl⟩⟩; (try exact b7_1)) | (go_at_call 47; (with_reducible refine (impl_in.calls t164 1 4 true _ A29.out).mono ?_); rintro e w' ⟨rfl, ⟨nd, rfl⟩⟩; (try exact b7_1))))
  go_loopg [49] k (fun kq v49 w' => ∃ (x49_1 : Int), v49 = .int .i64 x49_1 ∧ Aside0 (impl_Node_fault.l0 kq l1 l0_6 (l0_6.length : Int) x49_1 a0_0 a0_1 a0_2 a0_3 a0_4 a0_5 l0_6 = some r) ∧ Aside0 (kq ≤ k) ∧ Aside0 (w'.heap[gb158]? = some (.cells #[.int .i64 a0_0, .int .i64 a0_1, .int .i64 a0_2, .int .i64 a0_3, .int .i64 a0_4, .int .i64 a0_5, (.slice A0_6 l0_6.length c0_6)] 58 (0, 0))) ∧ Aside0 (Below w.heap.size w w'))
  case atStart => exact ⟨(0), cs_, H', ⟨Nat.le_refl _⟩, ⟨cO_ BK158.out⟩, ⟨cB1_ GE158.out⟩⟩
  case round =>
   clear H'
   try clear c1
   try clear p1
   try clear q1
   try clear hx1
   try clear c2
   try clear p2
   try clear c3
   try clear c3b0
   try clear c3b1
   try clear c5
   try clear p6
   try clear c7
   try clear c10
   try clear c10b0
   try clear c10b1
   try clear c11
   try clear c11b0
   try clear c12
   try clear c12b0
   try clear c14
   try clear c16
   try clear p16
   try clear q16
   try clear hx16
   try clear c18
   try clear c27
   try clear c27b0
   try clear c27b1
   try clear c30
   try clear hcz20_0
   try clear hcz20_1
   try clear hcz20_2
   try clear hcz20_3
   try clear hcz20_4
   try clear hcz20_5
   try clear hcz20_6
   try clear hcz22_0
   try clear hcz22_1
   try clear hcz22_2
   try clear hcz22_3
   try clear hcz22_4
   try clear hcz22_5
   try clear hcz22_6
   try clear hcz24_0
   try clear hcz24_1
   try clear hcz24_2
   try clear hcz24_3
   try clear hcz24_4
   try clear hcz24_5
   try clear hcz24_6
   try clear hcz26_0
   try clear hcz26_1
   try clear hcz26_2
   try clear hcz26_3
   try clear hcz26_4
   try clear hcz26_5
   try clear hcz26_6
   try clear hcz32_0
   try clear hcz32_1
   try clear hcz32_2
   try clear hcz32_3
   try clear hcz32_4
   try clear hcz32_5
   try clear hcz32_6
   try clear hcz7_0
   try clear hcz7_1
   try clear hcz7_2
   try clear hcz7_3
   try clear hcz7_4
   try clear hcz7_5
   try clear hcz7_6
   try clear hcz9_0
   try clear hcz9_1
   try clear hcz9_2
   try clear hcz9_3
   try clear hcz9_4
   try clear hcz9_5
   try clear hcz9_6
   try clear hfz20_0
   try clear hfz20_1
   try clear hfz20_2
   try clear hfz20_3
   try clear hfz20_4
   try clear hfz20_5
   try clear hfz20_6
   try clear hfz22_0
   try clear hfz22_1
   try clear hfz22_2
   try clear hfz22_3
   try clear hfz22_4
   try clear hfz22_5
   try clear hfz22_6
   try clear hfz24_0
   try clear hfz24_1
   try clear hfz24_2
   try clear hfz24_3
   try clear hfz24_4
   try clear hfz24_5
   try clear hfz24_6
   try clear hfz26_0
   try clear hfz26_1
   try clear hfz26_2
   try clear hfz26_3
   try clear hfz26_4
   try clear hfz26_5
   try clear hfz26_6
   try clear hfz32_0
   try clear hfz32_1
   try clear hfz32_2
   try clear hfz32_3
   try clear hfz32_4
   try clear hfz32_5
   try clear hfz32_6
   try clear hfz7_0
   try clear hfz7_1
   try clear hfz7_2
   try clear hfz7_3
   try clear hfz7_4
   try clear hfz7_5
   try clear hfz7_6
   try clear hfz9_0
   try clear hfz9_1
   try clear hfz9_2
   try clear hfz9_3
   try clear hfz9_4
   try clear hfz9_5
   try clear hfz9_6
   try clear hx160_0
   try clear p160
   try clear q160
   obtain ⟨x49_1, rfl, HA, HK1, BK158, HB⟩ := hrel
   cases gk with
   | zero => exact absurd HA.out (by simp [impl_Node_fault.l0])
   | succ k1 =>
    have H := HA.out
    clear HA
    simp only [impl_Node_fault.l0] at H
    by_cases c33 : x49_1 < (l0_6.length : Int)
    rotate_left
    ·rw [if_neg c33] at H
     have c33b0 : decide (x49_1 < (l0_6.length : Int)) = false := decide_eq_false c33
     clear c33
     obtain rfl := Option.some.inj H
     go_wp2
     repeat (go_quiet (fail); try go_wp2)
     go_ret
     exact ⟨ce_, cB1_ GE158.out⟩
    rw [if_pos c33] at H
    have c33b0 : decide (x49_1 < (l0_6.length : Int)) = true := decide_eq_true c33
    clear c33
    by_cases c34 : 0 ≤ x49_1
    rotate_left
    ·rw [if_neg c34] at H
     exact absurd H (by simp)
    rw [if_pos c34] at H
    have c34b0 : decide (0 ≤ x49_1) = true := decide_eq_true c34
    clear c34
    by_cases c35 : x49_1 < (l0_6.length : Int)
    rotate_left
    ·rw [if_neg c35] at H
     exact absurd H (by simp)
    rw [if_pos c35] at H
    have c35b0 : decide (x49_1 < (l0_6.length : Int)) = true := decide_eq_true c35
    clear c35
    by_cases c36 : 0 ≤ a0_1
    rotate_left
    ·rw [if_neg c36] at H
     exact absurd H (by simp)
    rw [if_pos c36] at H
    have c36b0 : decide (0 ≤ a0_1) = true := decide_eq_true c36
    clear c36
    by_cases c37 : a0_1 < (l1.length : Int)
    rotate_left
    ·rw [if_neg c37] at H
     exact absurd H (by simp)
    rw [if_pos c37] at H
    have c37b0 : decide (a0_1 < (l1.length : Int)) = true := decide_eq_true c37
    clear c37
    obtain ⟨t168, A38, H⟩ := bnd_ H
    try dsimp only at H
    by_cases c39 : t168 = true
    ·subst c39
     rw [if_pos rfl] at H
     have H' := Aside0.mk H
     clear H
     have p166 : 0 ≤ (x49_1 : Int) := of_decide_eq_true ca_
     have q166 : x49_1 < (l0_6.length : Int) := of_decide_eq_true ca_
     obtain ⟨ad166, e166, hx166_0⟩ := Kd.at_int HR0_6.out x49_1 p166 q166
     cases e166
     replace hx166_0 := (HB.out.cell (World.block_lt_of_cell? w _ hx166_0)).trans hx166_0
     replace p166 := eq_true p166
     replace q166 := eq_true q166
     obtain ⟨hcz40_0, hcz40_1, hcz40_2, hcz40_3, hcz40_4, hcz40_5, hcz40_6, hfz40_0, hfz40_1, hfz40_2, hfz40_3, hfz40_4, hfz40_5, hfz40_6⟩ := cells7 BK158.out
     have p167 : 0 ≤ (a0_1 : Int) := of_decide_eq_true ca_
     have q167 : a0_1 < (l1.length : Int) := of_decide_eq_true ca_
     obtain ⟨ad167, e167, hx167_0⟩ := Kd.at_int HR1.out a0_1 p167 q167
     cases e167
     replace hx167_0 := (HB.out.cell (World.block_lt_of_cell? w _ hx167_0)).trans hx167_0
     replace p167 := eq_true p167
     replace q167 := eq_true q167
     go_wp2_with (first | (go_at_call 47; (with_reducible refine (impl_in.calls (rd l0_6 x49_1) 0 (wrap64 ((rd l1 a0_1) - 1)) true _ A38.out).mono ?_); rintro e w' ⟨rfl, ⟨nd, rfl⟩⟩; (try exact b7_1)))
     repeat (go_quiet (first | (go_at_call 47; (with_reducible refine (impl_in.calls (rd l0_6 x49_1) 0 (wrap64 ((rd l1 a0_1) - 1)) true _ A38.out).mono ?_); rintro e w' ⟨rfl, ⟨nd, rfl⟩⟩; (try exact b7_1))); try go_wp2_with (first | (go_at_call 47; (with_reducible refine (impl_in.calls (rd l0_6 x49_1) 0 (wrap64 ((rd l1 a0_1) - 1)) true _ A38.out).mono ?_); rintro e w' ⟨rfl, ⟨nd, rfl⟩⟩; (try exact b7_1))))
     go_roundg k1
     case measure => have := HK1.out; omega
     case rel => exact ⟨(wrap64 (x49_1 + 1)), cs_, H', ⟨co_ HK1.out⟩, ⟨cO_ BK158.out⟩, ⟨cB1_ GE158.out⟩⟩
    replace c39 := Bool.eq_false_iff.mpr c39
    subst c39
    rw [if_neg (show ¬ (false = true) by decide)] at H
    obtain rfl := Option.some.inj H
    have p166 : 0 ≤ (x49_1 : Int) := of_decide_eq_true ca_
    have q166 : x49_1 < (l0_6.length : Int) := of_decide_eq_true ca_
    obtain ⟨ad166, e166, hx166_0⟩ := Kd.at_int HR0_6.out x49_1 p166 q166
    cases e166
    replace hx166_0 := (HB.out.cell (World.block_lt_of_cell? w _ hx166_0)).trans hx166_0
    replace p166 := eq_true p166
    replace q166 := eq_true q166
    obtain ⟨hcz41_0, hcz41_1, hcz41_2, hcz41_3, hcz41_4, hcz41_5, hcz41_6, hfz41_0, hfz41_1, hfz41_2, hfz41_3, hfz41_4, hfz41_5, hfz41_6⟩ := cells7 BK158.out
    have p167 : 0 ≤ (a0_1 : Int) := of_decide_eq_true ca_
    have q167 : a0_1 < (l1.length : Int) := of_decide_eq_true ca_
    obtain ⟨ad167, e167, hx167_0⟩ := Kd.at_int HR1.out a0_1 p167 q167
    cases e167
    replace hx167_0 := (HB.out.cell (World.block_lt_of_cell? w _ hx167_0)).trans hx167_0
    replace p167 := eq_true p167
    replace q167 := eq_true q167
    go_wp2_with (first | (go_at_call 47; (with_reducible refine (impl_in.calls (rd l0_6 x49_1) 0 (wrap64 ((rd l1 a0_1) - 1)) false _ A38.out).mono ?_); rintro e w' ⟨rfl, ⟨nd, rfl⟩⟩; (try exact b7_1)))
    repeat (go_quiet (first | (go_at_call 47; (with_reducible refine (impl_in.calls (rd l0_6 x49_1) 0 (wrap64 ((rd l1 a0_1) - 1)) false _ A38.out).mono ?_); rintro e w' ⟨rfl, ⟨nd, rfl⟩⟩; (try exact b7_1))); try go_wp2_with (first | (go_at_call 47; (with_reducible refine (impl_in.calls (rd l0_6 x49_1) 0 (wrap64 ((rd l1 a0_1) - 1)) false _ A38.out).mono ?_); rintro e w' ⟨rfl, ⟨nd, rfl⟩⟩; (try exact b7_1))))
    go_ret
    exact ⟨ce_, cB1_ GE158.out⟩
 rw [if_neg c27] at H
 have c27b0 : (a0_0 == 3) = false := beq_eq_false_iff_ne.mpr c27
 have c27b1 : (a0_0 != 3) = true := bne_iff_ne.mpr c27
 by_cases c44 : a0_0 = 4
 ·rw [if_pos c44] at H
  have c44b0 : (a0_0 == 4) = true := beq_iff_eq.mpr c44
  have c44b1 : (a0_0 != 4) = false := bne_eq_false_iff_eq.mpr c44
  clear c44
  by_cases c45 : 0 ≤ a0_1
  rotate_left
  ·rw [if_neg c45] at H
   exact absurd H (by simp)
  rw [if_pos c45] at H
  have c45b0 : decide (0 ≤ a0_1) = true := decide_eq_true c45
  clear c45
  by_cases c46 : a0_1 < (l1.length : Int)
  rotate_left
  ·rw [if_neg c46] at H
   exact absurd H (by simp)
  rw [if_pos c46] at H
  have c46b0 : decide (a0_1 < (l1.length : Int)) = true := decide_eq_true c46
  clear c46
  by_cases c47 : 0 ≤ a0_2
  rotate_left
  ·rw [if_neg c47] at H
   exact absurd H (by simp)
  rw [if_pos c47] at H
  have c47b0 : decide (0 ≤ a0_2) = true := decide_eq_true c47
  clear c47
  by_cases c48 : a0_2 < (l1.length : Int)
  rotate_left
  ·rw [if_neg c48] at H
   exact absurd H (by simp)
  rw [if_pos c48] at H
  have c48b0 : decide (a0_2 < (l1.length : Int)) = true := decide_eq_true c48
  clear c48
  by_cases c49 : (rd l1 a0_1) = (rd l1 a0_2)
  ·rw [if_pos c49] at H
   have c49b0 : ((rd l1 a0_1) == (rd l1 a0_2)) = true := beq_iff_eq.mpr c49
   have c49b1 : ((rd l1 a0_1) != (rd l1 a0_2)) = false := bne_eq_false_iff_eq.mpr c49
   clear c49
   obtain rfl := Option.some.inj H
   go_enter Try.func78, Try.ntmps78
   go_wp2_with (first | (refine bx_ 2 #[.int .i64 a0_0, .int .i64 a0_1, .int .i64 a0_2, .int .i64 a0_3, .int .i64 a0_4, .int .i64 a0_5, .slice A0_6 l0_6.length c0_6] 58 ?_; intro gb158 hg w50 hbox hb; have BK158 := Aside0.mk (hbox); have GW158 := Aside0.mk ((by rw [hg]; exact (below_size cB0_) : w.heap.size ≤ gb158)); have GE158 := Aside0.mk ((by rw [hg]; exact (below_size cB0_) : w.heap.size ≤ gb158)); replace HB := Aside0.mk (below_step cB0_ hb); clear hb hbox hg; obtain ⟨hcz51_0, hcz51_1, hcz51_2, hcz51_3, hcz51_4, hcz51_5, hcz51_6, hfz51_0, hfz51_1, hfz51_2, hfz51_3, hfz51_4, hfz51_5, hfz51_6⟩ := cells7 BK158.out; have p169 : 0 ≤ (a0_1 : Int) := of_decide_eq_true ca_; have q169 : a0_1 < (l1.length : Int) := of_decide_eq_true ca_; obtain ⟨ad169, e169, hx169_0⟩ := Kd.at_int HR1.out a0_1 p169 q169; cases e169; replace hx169_0 := (HB.out.cell (World.block_lt_of_cell? w _ hx169_0)).trans hx169_0; replace p169 := eq_true p169; replace q169 := eq_true q169; have p170 : 0 ≤ (a0_2 : Int) := of_decide_eq_true ca_; have q170 : a0_2 < (l1.length : Int) := of_decide_eq_true ca_; obtain ⟨ad170, e170, hx170_0⟩ := Kd.at_int HR1.out a0_2 p170 q170; obtain rfl : ad169 = ad170 := (by injection e170); replace hx170_0 := (HB.out.cell (World.block_lt_of_cell? w _ hx170_0)).trans hx170_0; replace p170 := eq_true p170; replace q170 := eq_true q170))
   repeat (go_quiet (first | (refine bx_ 2 #[.int .i64 a0_0, .int .i64 a0_1, .int .i64 a0_2, .int .i64 a0_3, .int .i64 a0_4, .int .i64 a0_5, .slice A0_6 l0_6.length c0_6] 58 ?_; intro gb158 hg w50 hbox hb; have BK158 := Aside0.mk (hbox); have GW158 := Aside0.mk ((by rw [hg]; exact (below_size cB0_) : w.heap.size ≤ gb158)); have GE158 := Aside0.mk ((by rw [hg]; exact (below_size cB0_) : w.heap.size ≤ gb158)); replace HB := Aside0.mk (below_step cB0_ hb); clear hb hbox hg; obtain ⟨hcz51_0, hcz51_1, hcz51_2, hcz51_3, hcz51_4, hcz51_5, hcz51_6, hfz51_0, hfz51_1, hfz51_2, hfz51_3, hfz51_4, hfz51_5, hfz51_6⟩ := cells7 BK158.out; have p169 : 0 ≤ (a0_1 : Int) := of_decide_eq_true ca_; have q169 : a0_1 < (l1.length : Int) := of_decide_eq_true ca_; obtain ⟨ad169, e169, hx169_0⟩ := Kd.at_int HR1.out a0_1 p169 q169; cases e169; replace hx169_0 := (HB.out.cell (World.block_lt_of_cell? w _ hx169_0)).trans hx169_0; replace p169 := eq_true p169; replace q169 := eq_true q169; have p170 : 0 ≤ (a0_2 : Int) := of_decide_eq_true ca_; have q170 : a0_2 < (l1.length : Int) := of_decide_eq_true ca_; obtain ⟨ad170, e170, hx170_0⟩ := Kd.at_int HR1.out a0_2 p170 q170; obtain rfl : ad169 = ad170 := (by injection e170); replace hx170_0 := (HB.out.cell (World.block_lt_of_cell? w _ hx170_0)).trans hx170_0; replace p170 := eq_true p170; replace q170 := eq_true q170)); try go_wp2_with (first | (refine bx_ 2 #[.int .i64 a0_0, .int .i64 a0_1, .int .i64 a0_2, .int .i64 a0_3, .int .i64 a0_4, .int .i64 a0_5, .slice A0_6 l0_6.length c0_6] 58 ?_; intro gb158 hg w50 hbox hb; have BK158 := Aside0.mk (hbox); have GW158 := Aside0.mk ((by rw [hg]; exact (below_size cB0_) : w.heap.size ≤ gb158)); have GE158 := Aside0.mk ((by rw [hg]; exact (below_size cB0_) : w.heap.size ≤ gb158)); replace HB := Aside0.mk (below_step cB0_ hb); clear hb hbox hg; obtain ⟨hcz51_0, hcz51_1, hcz51_2, hcz51_3, hcz51_4, hcz51_5, hcz51_6, hfz51_0, hfz51_1, hfz51_2, hfz51_3, hfz51_4, hfz51_5, hfz51_6⟩ := cells7 BK158.out; have p169 : 0 ≤ (a0_1 : Int) := of_decide_eq_true ca_; have q169 : a0_1 < (l1.length : Int) := of_decide_eq_true ca_; obtain ⟨ad169, e169, hx169_0⟩ := Kd.at_int HR1.out a0_1 p169 q169; cases e169; replace hx169_0 := (HB.out.cell (World.block_lt_of_cell? w _ hx169_0)).trans hx169_0; replace p169 := eq_true p169; replace q169 := eq_true q169; have p170 : 0 ≤ (a0_2 : Int) := of_decide_eq_true ca_; have q170 : a0_2 < (l1.length : Int) := of_decide_eq_true ca_; obtain ⟨ad170, e170, hx170_0⟩ := Kd.at_int HR1.out a0_2 p170 q170; obtain rfl : ad169 = ad170 := (by injection e170); replace hx170_0 := (HB.out.cell (World.block_lt_of_cell? w _ hx170_0)).trans hx170_0; replace p170 := eq_true p170; replace q170 := eq_true q170)))
   go_ret
   exact ⟨ce_, cB1_ GE158.out⟩
  rw [if_neg c49] at H
  have c49b0 : ((rd l1 a0_1) == (rd l1 a0_2)) = false := beq_eq_false_iff_ne.mpr c49
  have c49b1 : ((rd l1 a0_1) != (rd l1 a0_2)) = true := bne_iff_ne.mpr c49
  obtain rfl := Option.some.inj H
  go_enter Try.func78, Try.ntmps78
  go_wp2_with (first | (refine bx_ 2 #[.int .i64 a0_0, .int .i64 a0_1, .int .i64 a0_2, .int .i64 a0_3, .int .i64 a0_4, .int .i64 a0_5, .slice A0_6 l0_6.length c0_6] 58 ?_; intro gb158 hg w52 hbox hb; have BK158 := Aside0.mk (hbox); have GW158 := Aside0.mk ((by rw [hg]; exact (below_size cB0_) : w.heap.size ≤ gb158)); have GE158 := Aside0.mk ((by rw [hg]; exact (below_size cB0_) : w.heap.size ≤ gb158)); replace HB := Aside0.mk (below_step cB0_ hb); clear hb hbox hg; obtain ⟨hcz53_0, hcz53_1, hcz53_2, hcz53_3, hcz53_4, hcz53_5, hcz53_6, hfz53_0, hfz53_1, hfz53_2, hfz53_3, hfz53_4, hfz53_5, hfz53_6⟩ := cells7 BK158.out; have p169 : 0 ≤ (a0_1 : Int) := of_decide_eq_true ca_; have q169 : a0_1 < (l1.length : Int) := of_decide_eq_true ca_; obtain ⟨ad169, e169, hx169_0⟩ := Kd.at_int HR1.out a0_1 p169 q169; cases e169; replace hx169_0 := (HB.out.cell (World.block_lt_of_cell? w _ hx169_0)).trans hx169_0; replace p169 := eq_true p169; replace q169 := eq_true q169; have p170 : 0 ≤ (a0_2 : Int) := of_decide_eq_true ca_; have q170 : a0_2 < (l1.length : Int) := of_decide_eq_true ca_; obtain ⟨ad170, e170, hx170_0⟩ := Kd.at_int HR1.out a0_2 p170 q170; obtain rfl : ad169 = ad170 := (by injection e170); replace hx170_0 := (HB.out.cell (World.block_lt_of_cell? w _ hx170_0)).trans hx170_0; replace p170 := eq_true p170; replace q170 := eq_true q170))
  repeat (go_quiet (first | (refine bx_ 2 #[.int .i64 a0_0, .int .i64 a0_1, .int .i64 a0_2, .int .i64 a0_3, .int .i64 a0_4, .int .i64 a0_5, .slice A0_6 l0_6.length c0_6] 58 ?_; intro gb158 hg w52 hbox hb; have BK158 := Aside0.mk (hbox); have GW158 := Aside0.mk ((by rw [hg]; exact (below_size cB0_) : w.heap.size ≤ gb158)); have GE158 := Aside0.mk ((by rw [hg]; exact (below_size cB0_) : w.heap.size ≤ gb158)); replace HB := Aside0.mk (below_step cB0_ hb); clear hb hbox hg; obtain ⟨hcz53_0, hcz53_1, hcz53_2, hcz53_3, hcz53_4, hcz53_5, hcz53_6, hfz53_0, hfz53_1, hfz53_2, hfz53_3, hfz53_4, hfz53_5, hfz53_6⟩ := cells7 BK158.out; have p169 : 0 ≤ (a0_1 : Int) := of_decide_eq_true ca_; have q169 : a0_1 < (l1.length : Int) := of_decide_eq_true ca_; obtain ⟨ad169, e169, hx169_0⟩ := Kd.at_int HR1.out a0_1 p169 q169; cases e169; replace hx169_0 := (HB.out.cell (World.block_lt_of_cell? w _ hx169_0)).trans hx169_0; replace p169 := eq_true p169; replace q169 := eq_true q169; have p170 : 0 ≤ (a0_2 : Int) := of_decide_eq_true ca_; have q170 : a0_2 < (l1.length : Int) := of_decide_eq_true ca_; obtain ⟨ad170, e170, hx170_0⟩ := Kd.at_int HR1.out a0_2 p170 q170; obtain rfl : ad169 = ad170 := (by injection e170); replace hx170_0 := (HB.out.cell (World.block_lt_of_cell? w _ hx170_0)).trans hx170_0; replace p170 := eq_true p170; replace q170 := eq_true q170)); try go_wp2_with (first | (refine bx_ 2 #[.int .i64 a0_0, .int .i64 a0_1, .int .i64 a0_2, .int .i64 a0_3, .int .i64 a0_4, .int .i64 a0_5, .slice A0_6 l0_6.length c0_6] 58 ?_; intro gb158 hg w52 hbox hb; have BK158 := Aside0.mk (hbox); have GW158 := Aside0.mk ((by rw [hg]; exact (below_size cB0_) : w.heap.size ≤ gb158)); have GE158 := Aside0.mk ((by rw [hg]; exact (below_size cB0_) : w.heap.size ≤ gb158)); replace HB := Aside0.mk (below_step cB0_ hb); clear hb hbox hg; obtain ⟨hcz53_0, hcz53_1, hcz53_2, hcz53_3, hcz53_4, hcz53_5, hcz53_6, hfz53_0, hfz53_1, hfz53_2, hfz53_3, hfz53_4, hfz53_5, hfz53_6⟩ := cells7 BK158.out; have p169 : 0 ≤ (a0_1 : Int) := of_decide_eq_true ca_; have q169 : a0_1 < (l1.length : Int) := of_decide_eq_true ca_; obtain ⟨ad169, e169, hx169_0⟩ := Kd.at_int HR1.out a0_1 p169 q169; cases e169; replace hx169_0 := (HB.out.cell (World.block_lt_of_cell? w _ hx169_0)).trans hx169_0; replace p169 := eq_true p169; replace q169 := eq_true q169; have p170 : 0 ≤ (a0_2 : Int) := of_decide_eq_true ca_; have q170 : a0_2 < (l1.length : Int) := of_decide_eq_true ca_; obtain ⟨ad170, e170, hx170_0⟩ := Kd.at_int HR1.out a0_2 p170 q170; obtain rfl : ad169 = ad170 := (by injection e170); replace hx170_0 := (HB.out.cell (World.block_lt_of_cell? w _ hx170_0)).trans hx170_0; replace p170 := eq_true p170; replace q170 := eq_true q170)))
  go_ret
  exact ⟨ce_, cB1_ GE158.out⟩
 rw [if_neg c44] at H
 have c44b0 : (a0_0 == 4) = false := beq_eq_false_iff_ne.mpr c44
 have c44b1 : (a0_0 != 4) = true := bne_iff_ne.mpr c44
 by_cases c54 : a0_0 = 6
 ·rw [if_pos c54] at H
  have c54b0 : (a0_0 == 6) = true := beq_iff_eq.mpr c54
  have c54b1 : (a0_0 != 6) = false := bne_eq_false_iff_eq.mpr c54
  clear c54
  by_cases c55 : 0 ≤ a0_1
  rotate_left
  ·rw [if_neg c55] at H
   exact absurd H (by simp)
  rw [if_pos c55] at H
  have c55b0 : decide (0 ≤ a0_1) = true := decide_eq_true c55
  clear c55
  by_cases c56 : a0_1 < (l1.length : Int)
  rotate_left
  ·rw [if_neg c56] at H
   exact absurd H (by simp)
  rw [if_pos c56] at H
  have c56b0 : decide (a0_1 < (l1.length : Int)) = true := decide_eq_true c56
  clear c56
  by_cases c57 : 0 ≤ a0_2
  rotate_left
  ·rw [if_neg c57] at H
   exact absurd H (by simp)
  rw [if_pos c57] at H
  have c57b0 : decide (0 ≤ a0_2) = true := decide_eq_true c57
  clear c57
  by_cases c58 : a0_2 < (l1.length : Int)
  rotate_left
  ·rw [if_neg c58] at H
   exact absurd H (by simp)
  rw [if_pos c58] at H
  have c58b0 : decide (a0_2 < (l1.length : Int)) = true := decide_eq_true c58
  clear c58
  obtain ⟨ji59, hji59⟩ : ∃ j_ : Int, (mn (rd l1 a0_1) (rd l1 a0_2)) = j_ := ⟨_, rfl⟩
  replace H : ((impl_in.f a0_3 1 (ji59)).bind fun t173 => (if t173 = true then ((impl_Node_width.f a0_0 a0_1 a0_2 a0_3 a0_4 a0_5 l0_6 l1).bind fun t174 => (if t174 > 4 then (some 2) else (some 0))) else (some 3))) = some r := by first | (rw [hji59] at H; exact H) | (simp only [hji59] at H ⊢; exact H)
  have hji59_ : (if (rd l1 a0_2) < (rd l1 a0_1) then (rd l1 a0_2) else (rd l1 a0_1)) = ji59 := hji59
  obtain ⟨t173, A60, H⟩ := bnd_ H
  try dsimp only at H
  by_cases c61 : t173 = true
  rotate_left
  ·replace c61 := Bool.eq_false_iff.mpr c61
   subst c61
   rw [if_neg (show ¬ (false = true) by decide)] at H
   obtain rfl := Option.some.inj H
   go_enter Try.func78, Try.ntmps78
   go_wp2_with (first | (refine bx_ 2 #[.int .i64 a0_0, .int .i64 a0_1, .int .i64 a0_2, .int .i64 a0_3, .int .i64 a0_4, .int .i64 a0_5, .slice A0_6 l0_6.length c0_6] 58 ?_; intro gb158 hg w70 hbox hb; have BK158 := Aside0.mk (hbox); have GW158 := Aside0.mk ((by rw [hg]; exact (below_size cB0_) : w.heap.size ≤ gb158)); have GE158 := Aside0.mk ((by rw [hg]; exact (below_size cB0_) : w.heap.size ≤ gb158)); replace HB := Aside0.mk (below_step cB0_ hb); clear hb hbox hg; obtain ⟨hcz71_0, hcz71_1, hcz71_2, hcz71_3, hcz71_4, hcz71_5, hcz71_6, hfz71_0, hfz71_1, hfz71_2, hfz71_3, hfz71_4, hfz71_5, hfz71_6⟩ := cells7 BK158.out; have p171 : 0 ≤ (a0_1 : Int) := of_decide_eq_true ca_; have q171 : a0_1 < (l1.length : Int) := of_decide_eq_true ca_; obtain ⟨ad171, e171, hx171_0⟩ := Kd.at_int HR1.out a0_1 p171 q171; cases e171; replace hx171_0 := (HB.out.cell (World.block_lt_of_cell? w _ hx171_0)).trans hx171_0; replace p171 := eq_true p171; replace q171 := eq_true q171; have p172 : 0 ≤ (a0_2 : Int) := of_decide_eq_true ca_; have q172 : a0_2 < (l1.length : Int) := of_decide_eq_true ca_; obtain ⟨ad172, e172, hx172_0⟩ := Kd.at_int HR1.out a0_2 p172 q172; obtain rfl : ad171 = ad172 := (by injection e172); replace hx172_0 := (HB.out.cell (World.block_lt_of_cell? w _ hx172_0)).trans hx172_0; replace p172 := eq_true p172; replace q172 := eq_true q172) | (go_at_call 47; (with_reducible refine (impl_in.calls a0_3 1 ji59 false _ A60.out).mono ?_); rintro e w' ⟨rfl, ⟨nd, rfl⟩⟩; (try exact b7_1)))
   repeat (go_quiet (first | (refine bx_ 2 #[.int .i64 a0_0, .int .i64 a0_1, .int .i64 a0_2, .int .i64 a0_3, .int .i64 a0_4, .int .i64 a0_5, .slice A0_6 l0_6.length c0_6] 58 ?_; intro gb158 hg w70 hbox hb; have BK158 := Aside0.mk (hbox); have GW158 := Aside0.mk ((by rw [hg]; exact (below_size cB0_) : w.heap.size ≤ gb158)); have GE158 := Aside0.mk ((by rw [hg]; exact (below_size cB0_) : w.heap.size ≤ gb158)); replace HB := Aside0.mk (below_step cB0_ hb); clear hb hbox hg; obtain ⟨hcz71_0, hcz71_1, hcz71_2, hcz71_3, hcz71_4, hcz71_5, hcz71_6, hfz71_0, hfz71_1, hfz71_2, hfz71_3, hfz71_4, hfz71_5, hfz71_6⟩ := cells7 BK158.out; have p171 : 0 ≤ (a0_1 : Int) := of_decide_eq_true ca_; have q171 : a0_1 < (l1.length : Int) := of_decide_eq_true ca_; obtain ⟨ad171, e171, hx171_0⟩ := Kd.at_int HR1.out a0_1 p171 q171; cases e171; replace hx171_0 := (HB.out.cell (World.block_lt_of_cell? w _ hx171_0)).trans hx171_0; replace p171 := eq_true p171; replace q171 := eq_true q171; have p172 : 0 ≤ (a0_2 : Int) := of_decide_eq_true ca_; have q172 : a0_2 < (l1.length : Int) := of_decide_eq_true ca_; obtain ⟨ad172, e172, hx172_0⟩ := Kd.at_int HR1.out a0_2 p172 q172; obtain rfl : ad171 = ad172 := (by injection e172); replace hx172_0 := (HB.out.cell (World.block_lt_of_cell? w _ hx172_0)).trans hx172_0; replace p172 := eq_true p172; replace q172 := eq_true q172) | (go_at_call 47; (with_reducible refine (impl_in.calls a0_3 1 ji59 false _ A60.out).mono ?_); rintro e w' ⟨rfl, ⟨nd, rfl⟩⟩; (try exact b7_1))); try go_wp2_with (first | (refine bx_ 2 #[.int .i64 a0_0, .int .i64 a0_1, .int .i64 a0_2, .int .i64 a0_3, .int .i64 a0_4, .int .i64 a0_5, .slice A0_6 l0_6.length c0_6] 58 ?_; intro gb158 hg w70 hbox hb; have BK158 := Aside0.mk (hbox); have GW158 := Aside0.mk ((by rw [hg]; exact (below_size cB0_) : w.heap.size ≤ gb158)); have GE158 := Aside0.mk ((by rw [hg]; exact (below_size cB0_) : w.heap.size ≤ gb158)); replace HB := Aside0.mk (below_step cB0_ hb); clear hb hbox hg; obtain ⟨hcz71_0, hcz71_1, hcz71_2, hcz71_3, hcz71_4, hcz71_5, hcz71_6, hfz71_0, hfz71_1, hfz71_2, hfz71_3, hfz71_4, hfz71_5, hfz71_6⟩ := cells7 BK158.out; have p171 : 0 ≤ (a0_1 : Int) := of_decide_eq_true ca_; have q171 : a0_1 < (l1.length : Int) := of_decide_eq_true ca_; obtain ⟨ad171, e171, hx171_0⟩ := Kd.at_int HR1.out a0_1 p171 q171; cases e171; replace hx171_0 := (HB.out.cell (World.block_lt_of_cell? w _ hx171_0)).trans hx171_0; replace p171 := eq_true p171; replace q171 := eq_true q171; have p172 : 0 ≤ (a0_2 : Int) := of_decide_eq_true ca_; have q172 : a0_2 < (l1.length : Int) := of_decide_eq_true ca_; obtain ⟨ad172, e172, hx172_0⟩ := Kd.at_int HR1.out a0_2 p172 q172; obtain rfl : ad171 = ad172 := (by injection e172); replace hx172_0 := (HB.out.cell (World.block_lt_of_cell? w _ hx172_0)).trans hx172_0; replace p172 := eq_true p172; replace q172 := eq_true q172) | (go_at_call 47; (with_reducible refine (impl_in.calls a0_3 1 ji59 false _ A60.out).mono ?_); rintro e w' ⟨rfl, ⟨nd, rfl⟩⟩; (try exact b7_1))))
   go_ret
   exact ⟨q7_0, cB1_ GE158.out⟩
  subst c61
  rw [if_pos rfl] at H
  obtain ⟨t174, A62, H⟩ := bnd_ H
  try dsimp only at H
  by_cases c63 : t174 > 4
  ·rw [if_pos c63] at H
   have c63b0 : decide (4 < t174) = true := decide_eq_true c63
   clear c63
   obtain rfl := Option.some.inj H
   go_enter Try.func78, Try.ntmps78
   go_wp2_with (first | (refine bx_ 2 #[.int .i64 a0_0, .int .i64 a0_1, .int .i64 a0_2, .int .i64 a0_3, .int .i64 a0_4, .int .i64 a0_5, .slice A0_6 l0_6.length c0_6] 58 ?_; intro gb158 hg w64 hbox hb; have BK158 := Aside0.mk (hbox); have GW158 := Aside0.mk ((by rw [hg]; exact (below_size cB0_) : w.heap.size ≤ gb158)); have GE158 := Aside0.mk ((by rw [hg]; exact (below_size cB0_) : w.heap.size ≤ gb158)); replace HB := Aside0.mk (below_step cB0_ hb); clear hb hbox hg; obtain ⟨hcz65_0, hcz65_1, hcz65_2, hcz65_3, hcz65_4, hcz65_5, hcz65_6, hfz65_0, hfz65_1, hfz65_2, hfz65_3, hfz65_4, hfz65_5, hfz65_6⟩ := cells7 BK158.out; have p171 : 0 ≤ (a0_1 : Int) := of_decide_eq_true ca_; have q171 : a0_1 < (l1.length : Int) := of_decide_eq_true ca_; obtain ⟨ad171, e171, hx171_0⟩ := Kd.at_int HR1.out a0_1 p171 q171; cases e171; replace hx171_0 := (HB.out.cell (World.block_lt_of_cell? w _ hx171_0)).trans hx171_0; replace p171 := eq_true p171; replace q171 := eq_true q171; have p172 : 0 ≤ (a0_2 : Int) := of_decide_eq_true ca_; have q172 : a0_2 < (l1.length : Int) := of_decide_eq_true ca_; obtain ⟨ad172, e172, hx172_0⟩ := Kd.at_int HR1.out a0_2 p172 q172; obtain rfl : ad171 = ad172 := (by injection e172); replace hx172_0 := (HB.out.cell (World.block_lt_of_cell? w _ hx172_0)).trans hx172_0; replace p172 := eq_true p172; replace q172 := eq_true q172) | (go_at_call 47; (with_reducible refine (impl_in.calls a0_3 1 ji59 true _ A60.out).mono ?_); rintro e w' ⟨rfl, ⟨nd, rfl⟩⟩; (try exact b7_1)) | (go_at_call 79; (with_reducible refine (impl_Node_width.calls a0_0 a0_1 a0_2 a0_3 a0_4 a0_5 _ _ l0_6 _ _ l1 t174 _ ?side1 ?side2 ?side3 ?side4 A62.out).mono ?_); (case side1 => exact b7_5); (case side2 => exact HC0_6.out); (case side3 => exact b7_6); (case side4 => exact HC1.out); rintro e w66 ⟨rfl, hb⟩; replace BK158 := Aside0.mk (blk_below (g := gb158) (o := .cells #[.int .i64 a0_0, .int .i64 a0_1, .int .i64 a0_2, .int .i64 a0_3, .int .i64 a0_4, .int .i64 a0_5, .slice A0_6 l0_6.length c0_6] 58 (0, 0)) (cO_ BK158.out) hb); replace HB := Aside0.mk (below_step b7_3 hb); (try clear hb); (try clear hb2); (try clear hk); (try clear hi)))
   repeat (go_quiet (first | (refine bx_ 2 #[.int .i64 a0_0, .int .i64 a0_1, .int .i64 a0_2, .int .i64 a0_3, .int .i64 a0_4, .int .i64 a0_5, .slice A0_6 l0_6.length c0_6] 58 ?_; intro gb158 hg w64 hbox hb; have BK158 := Aside0.mk (hbox); have GW158 := Aside0.mk ((by rw [hg]; exact (below_size cB0_) : w.heap.size ≤ gb158)); have GE158 := Aside0.mk ((by rw [hg]; exact (below_size cB0_) : w.heap.size ≤ gb158)); replace HB := Aside0.mk (below_step cB0_ hb); clear hb hbox hg; obtain ⟨hcz65_0, hcz65_1, hcz65_2, hcz65_3, hcz65_4, hcz65_5, hcz65_6, hfz65_0, hfz65_1, hfz65_2, hfz65_3, hfz65_4, hfz65_5, hfz65_6⟩ := cells7 BK158.out; have p171 : 0 ≤ (a0_1 : Int) := of_decide_eq_true ca_; have q171 : a0_1 < (l1.length : Int) := of_decide_eq_true ca_; obtain ⟨ad171, e171, hx171_0⟩ := Kd.at_int HR1.out a0_1 p171 q171; cases e171; replace hx171_0 := (HB.out.cell (World.block_lt_of_cell? w _ hx171_0)).trans hx171_0; replace p171 := eq_true p171; replace q171 := eq_true q171; have p172 : 0 ≤ (a0_2 : Int) := of_decide_eq_true ca_; have q172 : a0_2 < (l1.length : Int) := of_decide_eq_true ca_; obtain ⟨ad172, e172, hx172_0⟩ := Kd.at_int HR1.out a0_2 p172 q172; obtain rfl : ad171 = ad172 := (by injection e172); replace hx172_0 := (HB.out.cell (World.block_lt_of_cell? w _ hx172_0)).trans hx172_0; replace p172 := eq_true p172; replace q172 := eq_true q172) | (go_at_call 47; (with_reducible refine (impl_in.calls a0_3 1 ji59 true _ A60.out).mono ?_); rintro e w' ⟨rfl, ⟨nd, rfl⟩⟩; (try exact b7_1)) | (go_at_call 79; (with_reducible refine (impl_Node_width.calls a0_0 a0_1 a0_2 a0_3 a0_4 a0_5 _ _ l0_6 _ _ l1 t174 _ ?side1 ?side2 ?side3 ?side4 A62.out).mono ?_); (case side1 => exact b7_5); (case side2 => exact HC0_6.out); (case side3 => exact b7_6); (case side4 => exact HC1.out); rintro e w66 ⟨rfl, hb⟩; replace BK158 := Aside0.mk (blk_below (g := gb158) (o := .cells #[.int .i64 a0_0, .int .i64 a0_1, .int .i64 a0_2, .int .i64 a0_3, .int .i64 a0_4, .int .i64 a0_5, .slice A0_6 l0_6.length c0_6] 58 (0, 0)) (cO_ BK158.out) hb); replace HB := Aside0.mk (below_step b7_3 hb); (try clear hb); (try clear hb2); (try clear hk); (try clear hi))); try go_wp2_with (first | (refine bx_ 2 #[.int .i64 a0_0, .int .i64 a0_1, .int .i64 a0_2, .int .i64 a0_3, .int .i64 a0_4, .int .i64 a0_5, .slice A0_6 l0_6.length c0_6] 58 ?_; intro gb158 hg w64 hbox hb; have BK158 := Aside0.mk (hbox); have GW158 := Aside0.mk ((by rw [hg]; exact (below_size cB0_) : w.heap.size ≤ gb158)); have GE158 := Aside0.mk ((by rw [hg]; exact (below_size cB0_) : w.heap.size ≤ gb158)); replace HB := Aside0.mk (below_step cB0_ hb); clear hb hbox hg; obtain ⟨hcz65_0, hcz65_1, hcz65_2, hcz65_3, hcz65_4, hcz65_5, hcz65_6, hfz65_0, hfz65_1, hfz65_2, hfz65_3, hfz65_4, hfz65_5, hfz65_6⟩ := cells7 BK158.out; have p171 : 0 ≤ (a0_1 : Int) := of_decide_eq_true ca_; have q171 : a0_1 < (l1.length : Int) := of_decide_eq_true ca_; obtain ⟨ad171, e171, hx171_0⟩ := Kd.at_int HR1.out a0_1 p171 q171; cases e171; replace hx171_0 := (HB.out.cell (World.block_lt_of_cell? w _ hx171_0)).trans hx171_0; replace p171 := eq_true p171; replace q171 := eq_true q171; have p172 : 0 ≤ (a0_2 : Int) := of_decide_eq_true ca_; have q172 : a0_2 < (l1.length : Int) := of_decide_eq_true ca_; obtain ⟨ad172, e172, hx172_0⟩ := Kd.at_int HR1.out a0_2 p172 q172; obtain rfl : ad171 = ad172 := (by injection e172); replace hx172_0 := (HB.out.cell (World.block_lt_of_cell? w _ hx172_0)).trans hx172_0; replace p172 := eq_true p172; replace q172 := eq_true q172) | (go_at_call 47; (with_reducible refine (impl_in.calls a0_3 1 ji59 true _ A60.out).mono ?_); rintro e w' ⟨rfl, ⟨nd, rfl⟩⟩; (try exact b7_1)) | (go_at_call 79; (with_reducible refine (impl_Node_width.calls a0_0 a0_1 a0_2 a0_3 a0_4 a0_5 _ _ l0_6 _ _ l1 t174 _ ?side1 ?side2 ?side3 ?side4 A62.out).mono ?_); (case side1 => exact b7_5); (case side2 => exact HC0_6.out); (case side3 => exact b7_6); (case side4 => exact HC1.out); rintro e w66 ⟨rfl, hb⟩; replace BK158 := Aside0.mk (blk_below (g := gb158) (o := .cells #[.int .i64 a0_0, .int .i64 a0_1, .int .i64 a0_2, .int .i64 a0_3, .int .i64 a0_4, .int .i64 a0_5, .slice A0_6 l0_6.length c0_6] 58 (0, 0)) (cO_ BK158.out) hb); replace HB := Aside0.mk (below_step b7_3 hb); (try clear hb); (try clear hb2); (try clear hk); (try clear hi))))
   go_ret
   exact ⟨q7_0, cB1_ GE158.out⟩
  rw [if_neg c63] at H
  have c63b0 : decide (4 < t174) = false := decide_eq_false c63
  clear c63
  obtain rfl := Option.some.inj H
  go_enter Try.func78, Try.ntmps78
  go_wp2_with (first | (refine bx_ 2 #[.int .i64 a0_0, .int .i64 a0_1, .int .i64 a0_2, .int .i64 a0_3, .int .i64 a0_4, .int .i64 a0_5, .slice A0_6 l0_6.length c0_6] 58 ?_; intro gb158 hg w67 hbox hb; have BK158 := Aside0.mk (hbox); have GW158 := Aside0.mk ((by rw [hg]; exact (below_size cB0_) : w.heap.size ≤ gb158)); have GE158 := Aside0.mk ((by rw [hg]; exact (below_size cB0_) : w.heap.size ≤ gb158)); replace HB := Aside0.mk (below_step cB0_ hb); clear hb hbox hg; obtain ⟨hcz68_0, hcz68_1, hcz68_2, hcz68_3, hcz68_4, hcz68_5, hcz68_6, hfz68_0, hfz68_1, hfz68_2, hfz68_3, hfz68_4, hfz68_5, hfz68_6⟩ := cells7 BK158.out; have p171 : 0 ≤ (a0_1 : Int) := of_decide_eq_true ca_; have q171 : a0_1 < (l1.length : Int) := of_decide_eq_true ca_; obtain ⟨ad171, e171, hx171_0⟩ := Kd.at_int HR1.out a0_1 p171 q171; cases e171; replace hx171_0 := (HB.out.cell (World.block_lt_of_cell? w _ hx171_0)).trans hx171_0; replace p171 := eq_true p171; replace q171 := eq_true q171; have p172 : 0 ≤ (a0_2 : Int) := of_decide_eq_true ca_; have q172 : a0_2 < (l1.length : Int) := of_decide_eq_true ca_; obtain ⟨ad172, e172, hx172_0⟩ := Kd.at_int HR1.out a0_2 p172 q172; obtain rfl : ad171 = ad172 := (by injection e172); replace hx172_0 := (HB.out.cell (World.block_lt_of_cell? w _ hx172_0)).trans hx172_0; replace p172 := eq_true p172; replace q172 := eq_true q172) | (go_at_call 47; (with_reducible refine (impl_in.calls a0_3 1 ji59 true _ A60.out).mono ?_); rintro e w' ⟨rfl, ⟨nd, rfl⟩⟩; (try exact b7_1)) | (go_at_call 79; (with_reducible refine (impl_Node_width.calls a0_0 a0_1 a0_2 a0_3 a0_4 a0_5 _ _ l0_6 _ _ l1 t174 _ ?side1 ?side2 ?side3 ?side4 A62.out).mono ?_); (case side1 => exact b7_5); (case side2 => exact HC0_6.out); (case side3 => exact b7_6); (case side4 => exact HC1.out); rintro e w69 ⟨rfl, hb⟩; replace BK158 := Aside0.mk (blk_below (g := gb158) (o := .cells #[.int .i64 a0_0, .int .i64 a0_1, .int .i64 a0_2, .int .i64 a0_3, .int .i64 a0_4, .int .i64 a0_5, .slice A0_6 l0_6.length c0_6] 58 (0, 0)) (cO_ BK158.out) hb); replace HB := Aside0.mk (below_step b7_3 hb); (try clear hb); (try clear hb2); (try clear hk); (try clear hi)))
  repeat (go_quiet (first | (refine bx_ 2 #[.int .i64 a0_0, .int .i64 a0_1, .int .i64 a0_2, .int .i64 a0_3, .int .i64 a0_4, .int .i64 a0_5, .slice A0_6 l0_6.length c0_6] 58 ?_; intro gb158 hg w67 hbox hb; have BK158 := Aside0.mk (hbox); have GW158 := Aside0.mk ((by rw [hg]; exact (below_size cB0_) : w.heap.size ≤ gb158)); have GE158 := Aside0.mk ((by rw [hg]; exact (below_size cB0_) : w.heap.size ≤ gb158)); replace HB := Aside0.mk (below_step cB0_ hb); clear hb hbox hg; obtain ⟨hcz68_0, hcz68_1, hcz68_2, hcz68_3, hcz68_4, hcz68_5, hcz68_6, hfz68_0, hfz68_1, hfz68_2, hfz68_3, hfz68_4, hfz68_5, hfz68_6⟩ := cells7 BK158.out; have p171 : 0 ≤ (a0_1 : Int) := of_decide_eq_true ca_; have q171 : a0_1 < (l1.length : Int) := of_decide_eq_true ca_; obtain ⟨ad171, e171, hx171_0⟩ := Kd.at_int HR1.out a0_1 p171 q171; cases e171; replace hx171_0 := (HB.out.cell (World.block_lt_of_cell? w _ hx171_0)).trans hx171_0; replace p171 := eq_true p171; replace q171 := eq_true q171; have p172 : 0 ≤ (a0_2 : Int) := of_decide_eq_true ca_; have q172 : a0_2 < (l1.length : Int) := of_decide_eq_true ca_; obtain ⟨ad172, e172, hx172_0⟩ := Kd.at_int HR1.out a0_2 p172 q172; obtain rfl : ad171 = ad172 := (by injection e172); replace hx172_0 := (HB.out.cell (World.block_lt_of_cell? w _ hx172_0)).trans hx172_0; replace p172 := eq_true p172; replace q172 := eq_true q172) | (go_at_call 47; (with_reducible refine (impl_in.calls a0_3 1 ji59 true _ A60.out).mono ?_); rintro e w' ⟨rfl, ⟨nd, rfl⟩⟩; (try exact b7_1)) | (go_at_call 79; (with_reducible refine (impl_Node_width.calls a0_0 a0_1 a0_2 a0_3 a0_4 a0_5 _ _ l0_6 _ _ l1 t174 _ ?side1 ?side2 ?side3 ?side4 A62.out).mono ?_); (case side1 => exact b7_5); (case side2 => exact HC0_6.out); (case side3 => exact b7_6); (case side4 => exact HC1.out); rintro e w69 ⟨rfl, hb⟩; replace BK158 := Aside0.mk (blk_below (g := gb158) (o := .cells #[.int .i64 a0_0, .int .i64 a0_1, .int .i64 a0_2, .int .i64 a0_3, .int .i64 a0_4, .int .i64 a0_5, .slice A0_6 l0_6.length c0_6] 58 (0, 0)) (cO_ BK158.out) hb); replace HB := Aside0.mk (below_step b7_3 hb); (try clear hb); (try clear hb2); (try clear hk); (try clear hi))); try go_wp2_with (first | (refine bx_ 2 #[.int .i64 a0_0, .int .i64 a0_1, .int .i64 a0_2, .int .i64 a0_3, .int .i64 a0_4, .int .i64 a0_5, .slice A0_6 l0_6.length c0_6] 58 ?_; intro gb158 hg w67 hbox hb; have BK158 := Aside0.mk (hbox); have GW158 := Aside0.mk ((by rw [hg]; exact (below_size cB0_) : w.heap.size ≤ gb158)); have GE158 := Aside0.mk ((by rw [hg]; exact (below_size cB0_) : w.heap.size ≤ gb158)); replace HB := Aside0.mk (below_step cB0_ hb); clear hb hbox hg; obtain ⟨hcz68_0, hcz68_1, hcz68_2, hcz68_3, hcz68_4, hcz68_5, hcz68_6, hfz68_0, hfz68_1, hfz68_2, hfz68_3, hfz68_4, hfz68_5, hfz68_6⟩ := cells7 BK158.out; have p171 : 0 ≤ (a0_1 : Int) := of_decide_eq_true ca_; have q171 : a0_1 < (l1.length : Int) := of_decide_eq_true ca_; obtain ⟨ad171, e171, hx171_0⟩ := Kd.at_int HR1.out a0_1 p171 q171; cases e171; replace hx171_0 := (HB.out.cell (World.block_lt_of_cell? w _ hx171_0)).trans hx171_0; replace p171 := eq_true p171; replace q171 := eq_true q171; have p172 : 0 ≤ (a0_2 : Int) := of_decide_eq_true ca_; have q172 : a0_2 < (l1.length : Int) := of_decide_eq_true ca_; obtain ⟨ad172, e172, hx172_0⟩ := Kd.at_int HR1.out a0_2 p172 q172; obtain rfl : ad171 = ad172 := (by injection e172); replace hx172_0 := (HB.out.cell (World.block_lt_of_cell? w _ hx172_0)).trans hx172_0; replace p172 := eq_true p172; replace q172 := eq_true q172) | (go_at_call 47; (with_reducible refine (impl_in.calls a0_3 1 ji59 true _ A60.out).mono ?_); rintro e w' ⟨rfl, ⟨nd, rfl⟩⟩; (try exact b7_1)) | (go_at_call 79; (with_reducible refine (impl_Node_width.calls a0_0 a0_1 a0_2 a0_3 a0_4 a0_5 _ _ l0_6 _ _ l1 t174 _ ?side1 ?side2 ?side3 ?side4 A62.out).mono ?_); (case side1 => exact b7_5); (case side2 => exact HC0_6.out); (case side3 => exact b7_6); (case side4 => exact HC1.out); rintro e w69 ⟨rfl, hb⟩; replace BK158 := Aside0.mk (blk_below (g := gb158) (o := .cells #[.int .i64 a0_0, .int .i64 a0_1, .int .i64 a0_2, .int .i64 a0_3, .int .i64 a0_4, .int .i64 a0_5, .slice A0_6 l0_6.length c0_6] 58 (0, 0)) (cO_ BK158.out) hb); replace HB := Aside0.mk (below_step b7_3 hb); (try clear hb); (try clear hb2); (try clear hk); (try clear hi))))
  go_ret
  exact ⟨q7_0, cB1_ GE158.out⟩
 rw [if_neg c54] at H
 have c54b0 : (a0_0 == 6) = false := beq_eq_false_iff_ne.mpr c54
 have c54b1 : (a0_0 != 6) = true := bne_iff_ne.mpr c54
 by_cases c72 : a0_0 = 7
 ·rw [if_pos c72] at H
  have c72b0 : (a0_0 == 7) = true := beq_iff_eq.mpr c72
  have c72b1 : (a0_0 != 7) = false := bne_eq_false_iff_eq.mpr c72
  clear c72
  by_cases c73 : 0 ≤ a0_1
  rotate_left
  ·rw [if_neg c73] at H
   exact absurd H (by simp)
  rw [if_pos c73] at H
  have c73b0 : decide (0 ≤ a0_1) = true := decide_eq_true c73
  clear c73
  by_cases c74 : a0_1 < (l1.length : Int)
  rotate_left
  ·rw [if_neg c74] at H
   exact absurd H (by simp)
  rw [if_pos c74] at H
  have c74b0 : decide (a0_1 < (l1.length : Int)) = true := decide_eq_true c74
  clear c74
  obtain ⟨ji75, hji75⟩ : ∃ j_ : Int, (mn (rd l1 a0_1) 3) = j_ := ⟨_, rfl⟩
  replace H : ((impl_in.f a0_3 0 (ji75)).bind fun t176 => (if t176 = true then (some 0) else (some 3))) = some r := by first | (rw [hji75] at H; exact H) | (simp only [hji75] at H ⊢; exact H)
  (try (have hji75h : ji75 ≤ 3 := by (rw [← hji75]; unfold mn; (repeat' split) <;> omega)))
  (try (have hji75g : ji75 ≤ 64 := by omega))
  have hji75_ : (if 3 < (rd l1 a0_1) then 3 else (rd l1 a0_1)) = ji75 := hji75
  obtain ⟨t176, A76, H⟩ := bnd_ H
  try dsimp only at H
  by_cases c77 : t176 = true
  ·subst c77
   rw [if_pos rfl] at H
   obtain rfl := Option.some.inj H
   go_enter Try.func78, Try.ntmps78
   go_wp2_with (first | (refine bx_ 2 #[.int .i64 a0_0, .int .i64 a0_1, .int .i64 a0_2, .int .i64 a0_3, .int .i64 a0_4, .int .i64 a0_5, .slice A0_6 l0_6.length c0_6] 58 ?_; intro gb158 hg w78 hbox hb; have BK158 := Aside0.mk (hbox); have GW158 := Aside0.mk ((by rw [hg]; exact (below_size cB0_) : w.heap.size ≤ gb158)); have GE158 := Aside0.mk ((by rw [hg]; exact (below_size cB0_) : w.heap.size ≤ gb158)); replace HB := Aside0.mk (below_step cB0_ hb); clear hb hbox hg; obtain ⟨hcz79_0, hcz79_1, hcz79_2, hcz79_3, hcz79_4, hcz79_5, hcz79_6, hfz79_0, hfz79_1, hfz79_2, hfz79_3, hfz79_4, hfz79_5, hfz79_6⟩ := cells7 BK158.out; have p175 : 0 ≤ (a0_1 : Int) := of_decide_eq_true ca_; have q175 : a0_1 < (l1.length : Int) := of_decide_eq_true ca_; obtain ⟨ad175, e175, hx175_0⟩ := Kd.at_int HR1.out a0_1 p175 q175; cases e175; replace hx175_0 := (HB.out.cell (World.block_lt_of_cell? w _ hx175_0)).trans hx175_0; replace p175 := eq_true p175; replace q175 := eq_true q175) | (go_at_call 47; (with_reducible refine (impl_in.calls a0_3 0 ji75 true _ A76.out).mono ?_); rintro e w' ⟨rfl, ⟨nd, rfl⟩⟩; (try exact b7_1)))
   repeat (go_quiet (first | (refine bx_ 2 #[.int .i64 a0_0, .int .i64 a0_1, .int .i64 a0_2, .int .i64 a0_3, .int .i64 a0_4, .int .i64 a0_5, .slice A0_6 l0_6.length c0_6] 58 ?_; intro gb158 hg w78 hbox hb; have BK158 := Aside0.mk (hbox); have GW158 := Aside0.mk ((by rw [hg]; exact (below_size cB0_) : w.heap.size ≤ gb158)); have GE158 := Aside0.mk ((by rw [hg]; exact (below_size cB0_) : w.heap.size ≤ gb158)); replace HB := Aside0.mk (below_step cB0_ hb); clear hb hbox hg; obtain ⟨hcz79_0, hcz79_1, hcz79_2, hcz79_3, hcz79_4, hcz79_5, hcz79_6, hfz79_0, hfz79_1, hfz79_2, hfz79_3, hfz79_4, hfz79_5, hfz79_6⟩ := cells7 BK158.out; have p175 : 0 ≤ (a0_1 : Int) := of_decide_eq_true ca_; have q175 : a0_1 < (l1.length : Int) := of_decide_eq_true ca_; obtain ⟨ad175, e175, hx175_0⟩ := Kd.at_int HR1.out a0_1 p175 q175; cases e175; replace hx175_0 := (HB.out.cell (World.block_lt_of_cell? w _ hx175_0)).trans hx175_0; replace p175 := eq_true p175; replace q175 := eq_true q175) | (go_at_call 47; (with_reducible refine (impl_in.calls a0_3 0 ji75 true _ A76.out).mono ?_); rintro e w' ⟨rfl, ⟨nd, rfl⟩⟩; (try exact b7_1))); try go_wp2_with (first | (refine bx_ 2 #[.int .i64 a0_0, .int .i64 a0_1, .int .i64 a0_2, .int .i64 a0_3, .int .i64 a0_4, .int .i64 a0_5, .slice A0_6 l0_6.length c0_6] 58 ?_; intro gb158 hg w78 hbox hb; have BK158 := Aside0.mk (hbox); have GW158 := Aside0.mk ((by rw [hg]; exact (below_size cB0_) : w.heap.size ≤ gb158)); have GE158 := Aside0.mk ((by rw [hg]; exact (below_size cB0_) : w.heap.size ≤ gb158)); replace HB := Aside0.mk (below_step cB0_ hb); clear hb hbox hg; obtain ⟨hcz79_0, hcz79_1, hcz79_2, hcz79_3, hcz79_4, hcz79_5, hcz79_6, hfz79_0, hfz79_1, hfz79_2, hfz79_3, hfz79_4, hfz79_5, hfz79_6⟩ := cells7 BK158.out; have p175 : 0 ≤ (a0_1 : Int) := of_decide_eq_true ca_; have q175 : a0_1 < (l1.length : Int) := of_decide_eq_true ca_; obtain ⟨ad175, e175, hx175_0⟩ := Kd.at_int HR1.out a0_1 p175 q175; cases e175; replace hx175_0 := (HB.out.cell (World.block_lt_of_cell? w _ hx175_0)).trans hx175_0; replace p175 := eq_true p175; replace q175 := eq_true q175) | (go_at_call 47; (with_reducible refine (impl_in.calls a0_3 0 ji75 true _ A76.out).mono ?_); rintro e w' ⟨rfl, ⟨nd, rfl⟩⟩; (try exact b7_1))))
   go_ret
   exact ⟨q7_1, cB1_ GE158.out⟩
  replace c77 := Bool.eq_false_iff.mpr c77
  subst c77
  rw [if_neg (show ¬ (false = true) by decide)] at H
  obtain rfl := Option.some.inj H
  go_enter Try.func78, Try.ntmps78
  go_wp2_with (first | (refine bx_ 2 #[.int .i64 a0_0, .int .i64 a0_1, .int .i64 a0_2, .int .i64 a0_3, .int .i64 a0_4, .int .i64 a0_5, .slice A0_6 l0_6.length c0_6] 58 ?_; intro gb158 hg w80 hbox hb; have BK158 := Aside0.mk (hbox); have GW158 := Aside0.mk ((by rw [hg]; exact (below_size cB0_) : w.heap.size ≤ gb158)); have GE158 := Aside0.mk ((by rw [hg]; exact (below_size cB0_) : w.heap.size ≤ gb158)); replace HB := Aside0.mk (below_step cB0_ hb); clear hb hbox hg; obtain ⟨hcz81_0, hcz81_1, hcz81_2, hcz81_3, hcz81_4, hcz81_5, hcz81_6, hfz81_0, hfz81_1, hfz81_2, hfz81_3, hfz81_4, hfz81_5, hfz81_6⟩ := cells7 BK158.out; have p175 : 0 ≤ (a0_1 : Int) := of_decide_eq_true ca_; have q175 : a0_1 < (l1.length : Int) := of_decide_eq_true ca_; obtain ⟨ad175, e175, hx175_0⟩ := Kd.at_int HR1.out a0_1 p175 q175; cases e175; replace hx175_0 := (HB.out.cell (World.block_lt_of_cell? w _ hx175_0)).trans hx175_0; replace p175 := eq_true p175; replace q175 := eq_true q175) | (go_at_call 47; (with_reducible refine (impl_in.calls a0_3 0 ji75 false _ A76.out).mono ?_); rintro e w' ⟨rfl, ⟨nd, rfl⟩⟩; (try exact b7_1)))
  repeat (go_quiet (first | (refine bx_ 2 #[.int .i64 a0_0, .int .i64 a0_1, .int .i64 a0_2, .int .i64 a0_3, .int .i64 a0_4, .int .i64 a0_5, .slice A0_6 l0_6.length c0_6] 58 ?_; intro gb158 hg w80 hbox hb; have BK158 := Aside0.mk (hbox); have GW158 := Aside0.mk ((by rw [hg]; exact (below_size cB0_) : w.heap.size ≤ gb158)); have GE158 := Aside0.mk ((by rw [hg]; exact (below_size cB0_) : w.heap.size ≤ gb158)); replace HB := Aside0.mk (below_step cB0_ hb); clear hb hbox hg; obtain ⟨hcz81_0, hcz81_1, hcz81_2, hcz81_3, hcz81_4, hcz81_5, hcz81_6, hfz81_0, hfz81_1, hfz81_2, hfz81_3, hfz81_4, hfz81_5, hfz81_6⟩ := cells7 BK158.out; have p175 : 0 ≤ (a0_1 : Int) := of_decide_eq_true ca_; have q175 : a0_1 < (l1.length : Int) := of_decide_eq_true ca_; obtain ⟨ad175, e175, hx175_0⟩ := Kd.at_int HR1.out a0_1 p175 q175; cases e175; replace hx175_0 := (HB.out.cell (World.block_lt_of_cell? w _ hx175_0)).trans hx175_0; replace p175 := eq_true p175; replace q175 := eq_true q175) | (go_at_call 47; (with_reducible refine (impl_in.calls a0_3 0 ji75 false _ A76.out).mono ?_); rintro e w' ⟨rfl, ⟨nd, rfl⟩⟩; (try exact b7_1))); try go_wp2_with (first | (refine bx_ 2 #[.int .i64 a0_0, .int .i64 a0_1, .int .i64 a0_2, .int .i64 a0_3, .int .i64 a0_4, .int .i64 a0_5, .slice A0_6 l0_6.length c0_6] 58 ?_; intro gb158 hg w80 hbox hb; have BK158 := Aside0.mk (hbox); have GW158 := Aside0.mk ((by rw [hg]; exact (below_size cB0_) : w.heap.size ≤ gb158)); have GE158 := Aside0.mk ((by rw [hg]; exact (below_size cB0_) : w.heap.size ≤ gb158)); replace HB := Aside0.mk (below_step cB0_ hb); clear hb hbox hg; obtain ⟨hcz81_0, hcz81_1, hcz81_2, hcz81_3, hcz81_4, hcz81_5, hcz81_6, hfz81_0, hfz81_1, hfz81_2, hfz81_3, hfz81_4, hfz81_5, hfz81_6⟩ := cells7 BK158.out; have p175 : 0 ≤ (a0_1 : Int) := of_decide_eq_true ca_; have q175 : a0_1 < (l1.length : Int) := of_decide_eq_true ca_; obtain ⟨ad175, e175, hx175_0⟩ := Kd.at_int HR1.out a0_1 p175 q175; cases e175; replace hx175_0 := (HB.out.cell (World.block_lt_of_cell? w _ hx175_0)).trans hx175_0; replace p175 := eq_true p175; replace q175 := eq_true q175) | (go_at_call 47; (with_reducible refine (impl_in.calls a0_3 0 ji75 false _ A76.out).mono ?_); rintro e w' ⟨rfl, ⟨nd, rfl⟩⟩; (try exact b7_1))))
  go_ret
  exact ⟨q7_1, cB1_ GE158.out⟩
 rw [if_neg c72] at H
 have c72b0 : (a0_0 == 7) = false := beq_eq_false_iff_ne.mpr c72
 have c72b1 : (a0_0 != 7) = true := bne_iff_ne.mpr c72
 have HC82 := Aside0.mk H
 clear H
 go_enter Try.func78, Try.ntmps78
 go_upto_if 109 with (first | (refine bx_ 2 #[.int .i64 a0_0, .int .i64 a0_1, .int .i64 a0_2, .int .i64 a0_3, .int .i64 a0_4, .int .i64 a0_5, .slice A0_6 l0_6.length c0_6] 58 ?_; intro gb158 hg w83 hbox hb; have BK158 := Aside0.mk (hbox); have GW158 := Aside0.mk ((by rw [hg]; exact (below_size cB0_) : w.heap.size ≤ gb158)); have GE158 := Aside0.mk ((by rw [hg]; exact (below_size cB0_) : w.heap.size ≤ gb158)); replace HB := Aside0.mk (below_step cB0_ hb); clear hb hbox hg; obtain ⟨hcz84_0, hcz84_1, hcz84_2, hcz84_3, hcz84_4, hcz84_5, hcz84_6, hfz84_0, hfz84_1, hfz84_2, hfz84_3, hfz84_4, hfz84_5, hfz84_6⟩ := cells7 BK158.out))
 repeat (go_quiet (first | (refine bx_ 2 #[.int .i64 a0_0, .int .i64 a0_1, .int .i64 a0_2, .int .i64 a0_3, .int .i64 a0_4, .int .i64 a0_5, .slice A0_6 l0_6.length c0_6] 58 ?_; intro gb158 hg w83 hbox hb; have BK158 := Aside0.mk (hbox); have GW158 := Aside0.mk ((by rw [hg]; exact (below_size cB0_) : w.heap.size ≤ gb158)); have GE158 := Aside0.mk ((by rw [hg]; exact (below_size cB0_) : w.heap.size ≤ gb158)); replace HB := Aside0.mk (below_step cB0_ hb); clear hb hbox hg; obtain ⟨hcz84_0, hcz84_1, hcz84_2, hcz84_3, hcz84_4, hcz84_5, hcz84_6, hfz84_0, hfz84_1, hfz84_2, hfz84_3, hfz84_4, hfz84_5, hfz84_6⟩ := cells7 BK158.out)); go_upto_if 109 with (first | (refine bx_ 2 #[.int .i64 a0_0, .int .i64 a0_1, .int .i64 a0_2, .int .i64 a0_3, .int .i64 a0_4, .int .i64 a0_5, .slice A0_6 l0_6.length c0_6] 58 ?_; intro gb158 hg w83 hbox hb; have BK158 := Aside0.mk (hbox); have GW158 := Aside0.mk ((by rw [hg]; exact (below_size cB0_) : w.heap.size ≤ gb158)); have GE158 := Aside0.mk ((by rw [hg]; exact (below_size cB0_) : w.heap.size ≤ gb158)); replace HB := Aside0.mk (below_step cB0_ hb); clear hb hbox hg; obtain ⟨hcz84_0, hcz84_1, hcz84_2, hcz84_3, hcz84_4, hcz84_5, hcz84_6, hfz84_0, hfz84_1, hfz84_2, hfz84_3, hfz84_4, hfz84_5, hfz84_6⟩ := cells7 BK158.out)))
 (try simp only [Act.put, List.setIfInBounds_toArray, List.set_cons_zero, List.set_cons_succ])
 go_cut [109] (fun v109 wc => ∃ (kq : Nat) (x109_81 : Bool), v109 = .bool x109_81 ∧ Aside0 (impl_Node_fault.j1 kq l1 x109_81 a0_0 a0_1 a0_2 a0_3 a0_4 a0_5 l0_6 = some r) ∧ Aside0 (kq ≤ k) ∧ Aside0 (wc.heap[gb158]? = some (.cells #[.int .i64 a0_0, .int .i64 a0_1, .int .i64 a0_2, .int .i64 a0_3, .int .i64 a0_4, .int .i64 a0_5, (.slice A0_6 l0_6.length c0_6)] 58 (0, 0))) ∧ Aside0 (Below w.heap.size w wc))
 case first =>
  have H := HC82.out
  clear HC82
  by_cases c85 : a0_0 = 8
  ·rw [if_pos c85] at H
   have c85b0 : (a0_0 == 8) = true := beq_iff_eq.mpr c85
   have c85b1 : (a0_0 != 8) = false := bne_eq_false_iff_eq.mpr c85
   clear c85
   (first | rw [c85b0] | (simp only [i64_w, i32_w]; rw [c85b0]) | skip)
   have H' := Aside0.mk H
   clear H
   go_wp2
   repeat (go_quiet (fail); try go_wp2)
   go_meet
   case rel => exact ⟨_, ((a0_0 == 8)), cs_, H', ⟨cm_⟩, ⟨cO_ BK158.out⟩, ⟨cB1_ GE158.out⟩⟩
  rw [if_neg c85] at H
  have c85b0 : (a0_0 == 8) = false := beq_eq_false_iff_ne.mpr c85
  have c85b1 : (a0_0 != 8) = true := bne_iff_ne.mpr c85
  (first | rw [c85b0] | (simp only [i64_w, i32_w]; rw [c85b0]) | skip)
  by_cases c86 : a0_0 = 9
  ·rw [if_pos c86] at H
   have c86b0 : (a0_0 == 9) = true := beq_iff_eq.mpr c86
   have c86b1 : (a0_0 != 9) = false := bne_eq_false_iff_eq.mpr c86
   clear c86
   have H' := Aside0.mk H
   clear H
   go_wp2
   repeat (go_quiet (fail); try go_wp2)
   go_meet
   case rel => exact ⟨_, ((a0_0 == 9)), cs_, H', ⟨cm_⟩, ⟨cO_ BK158.out⟩, ⟨cB1_ GE158.out⟩⟩
  rw [if_neg c86] at H
  have c86b0 : (a0_0 == 9) = false := beq_eq_false_iff_ne.mpr c86
  have c86b1 : (a0_0 != 9) = true := bne_iff_ne.mpr c86
  have H' := Aside0.mk H
  clear H
  go_wp2
  repeat (go_quiet (fail); try go_wp2)
  go_meet
  case rel => exact ⟨_, ((a0_0 == 10)), cs_, H', ⟨cm_⟩, ⟨cO_ BK158.out⟩, ⟨cB1_ GE158.out⟩⟩
 case rest =>
  clear HC82
  try clear c1
  try clear p1
  try clear q1
  try clear hx1
  try clear c2
  try clear p2
  try clear c3
  try clear c3b0
  try clear c3b1
  try clear c4
  try clear c5
  try clear c6
  try clear p6
  try clear c7
  try clear c8
  try clear c10
  try clear c10b0
  try clear c10b1
  try clear c11
  try clear c11b0
  try clear c12
  try clear c12b0
  try clear c14
  try clear c16
  try clear p16
  try clear q16
  try clear hx16
  try clear p17
  try clear q17
  try clear hx17
  try clear c18
  try clear c27
  try clear c27b0
  try clear c27b1
  try clear c30
  try clear c33
  try clear c33b0
  try clear c34
  try clear c34b0
  try clear c35
  try clear c35b0
  try clear c36
  try clear c36b0
  try clear c37
  try clear c37b0
  try clear c39
  try clear c44
  try clear c44b0
  try clear c44b1
  try clear c45
  try clear c45b0
  try clear c46
  try clear c46b0
  try clear c47
  try clear c47b0
  try clear c48
  try clear c48b0
  try clear c49
  try clear c49b0
  try clear c49b1
  try clear c54
  try clear c54b0
  try clear c54b1
  try clear c55
  try clear c55b0
  try clear c56
  try clear c56b0
  try clear c57
  try clear c57b0
  try clear c58
  try clear c58b0
  try clear c61
  try clear c63
  try clear c63b0
  try clear p64
  try clear c72
  try clear c72b0
  try clear c72b1
  try clear c73
  try clear c73b0
  try clear c74
  try clear c74b0
  try clear c77
  try clear c78
  try clear c85
  try clear c85b0
  try clear c85b1
  try clear c86
  try clear c86b0
  try clear c86b1
  try clear hcz20_0
  try clear hcz20_1
  try clear hcz20_2
  try clear hcz20_3
  try clear hcz20_4
  try clear hcz20_5
  try clear hcz20_6
  try clear hcz22_0
  try clear hcz22_1
  try clear hcz22_2
  try clear hcz22_3
  try clear hcz22_4
  try clear hcz22_5
  try clear hcz22_6
  try clear hcz24_0
  try clear hcz24_1
  try clear hcz24_2
  try clear hcz24_3
  try clear hcz24_4
  try clear hcz24_5
  try clear hcz24_6
  try clear hcz26_0
  try clear hcz26_1
  try clear hcz26_2
  try clear hcz26_3
  try clear hcz26_4
  try clear hcz26_5
  try clear hcz26_6
  try clear hcz32_0
  try clear hcz32_1
  try clear hcz32_2
  try clear hcz32_3
  try clear hcz32_4
  try clear hcz32_5
  try clear hcz32_6
  try clear hcz40_0
  try clear hcz40_1
  try clear hcz40_2
  try clear hcz40_3
  try clear hcz40_4
  try clear hcz40_5
  try clear hcz40_6
  try clear hcz41_0
  try clear hcz41_1
  try clear hcz41_2
  try clear hcz41_3
  try clear hcz41_4
  try clear hcz41_5
  try clear hcz41_6
  try clear hcz43_0
  try clear hcz43_1
  try clear hcz43_2
  try clear hcz43_3
  try clear hcz43_4
  try clear hcz43_5
  try clear hcz43_6
  try clear hcz51_0
  try clear hcz51_1
  try clear hcz51_2
  try clear hcz51_3
  try clear hcz51_4
  try clear hcz51_5
  try clear hcz51_6
  try clear hcz53_0
  try clear hcz53_1
  try clear hcz53_2
  try clear hcz53_3
  try clear hcz53_4
  try clear hcz53_5
  try clear hcz53_6
  try clear hcz65_0
  try clear hcz65_1
  try clear hcz65_2
  try clear hcz65_3
  try clear hcz65_4
  try clear hcz65_5
  try clear hcz65_6
  try clear hcz68_0
  try clear hcz68_1
  try clear hcz68_2
  try clear hcz68_3
  try clear hcz68_4
  try clear hcz68_5
  try clear hcz68_6
  try clear hcz71_0
  try clear hcz71_1
  try clear hcz71_2
  try clear hcz71_3
  try clear hcz71_4
  try clear hcz71_5
  try clear hcz71_6
  try clear hcz79_0
  try clear hcz79_1
  try clear hcz79_2
  try clear hcz79_3
  try clear hcz79_4
  try clear hcz79_5
  try clear hcz79_6
  try clear hcz7_0
  try clear hcz7_1
  try clear hcz7_2
  try clear hcz7_3
  try clear hcz7_4
  try clear hcz7_5
  try clear hcz7_6
  try clear hcz81_0
  try clear hcz81_1
  try clear hcz81_2
  try clear hcz81_3
  try clear hcz81_4
  try clear hcz81_5
  try clear hcz81_6
  try clear hcz84_0
  try clear hcz84_1
  try clear hcz84_2
  try clear hcz84_3
  try clear hcz84_4
  try clear hcz84_5
  try clear hcz84_6
  try clear hcz9_0
  try clear hcz9_1
  try clear hcz9_2
  try clear hcz9_3
  try clear hcz9_4
  try clear hcz9_5
  try clear hcz9_6
  try clear hfz20_0
  try clear hfz20_1
  try clear hfz20_2
  try clear hfz20_3
  try clear hfz20_4
  try clear hfz20_5
  try clear hfz20_6
  try clear hfz22_0
  try clear hfz22_1
  try clear hfz22_2
  try clear hfz22_3
  try clear hfz22_4
  try clear hfz22_5
  try clear hfz22_6
  try clear hfz24_0
  try clear hfz24_1
  try clear hfz24_2
  try clear hfz24_3
  try clear hfz24_4
  try clear hfz24_5
  try clear hfz24_6
  try clear hfz26_0
  try clear hfz26_1
  try clear hfz26_2
  try clear hfz26_3
  try clear hfz26_4
  try clear hfz26_5
  try clear hfz26_6
  try clear hfz32_0
  try clear hfz32_1
  try clear hfz32_2
  try clear hfz32_3
  try clear hfz32_4
  try clear hfz32_5
  try clear hfz32_6
  try clear hfz40_0
  try clear hfz40_1
  try clear hfz40_2
  try clear hfz40_3
  try clear hfz40_4
  try clear hfz40_5
  try clear hfz40_6
  try clear hfz41_0
  try clear hfz41_1
  try clear hfz41_2
  try clear hfz41_3
  try clear hfz41_4
  try clear hfz41_5
  try clear hfz41_6
  try clear hfz43_0
  try clear hfz43_1
  try clear hfz43_2
  try clear hfz43_3
  try clear hfz43_4
  try clear hfz43_5
  try clear hfz43_6
  try clear hfz51_0
  try clear hfz51_1
  try clear hfz51_2
  try clear hfz51_3
  try clear hfz51_4
  try clear hfz51_5
  try clear hfz51_6
  try clear hfz53_0
  try clear hfz53_1
  try clear hfz53_2
  try clear hfz53_3
  try clear hfz53_4
  try clear hfz53_5
  try clear hfz53_6
  try clear hfz65_0
  try clear hfz65_1
  try clear hfz65_2
  try clear hfz65_3
  try clear hfz65_4
  try clear hfz65_5
  try clear hfz65_6
  try clear hfz68_0
  try clear hfz68_1
  try clear hfz68_2
  try clear hfz68_3
  try clear hfz68_4
  try clear hfz68_5
  try clear hfz68_6
  try clear hfz71_0
  try clear hfz71_1
  try clear hfz71_2
  try clear hfz71_3
  try clear hfz71_4
  try clear hfz71_5
  try clear hfz71_6
  try clear hfz79_0
  try clear hfz79_1
  try clear hfz79_2
  try clear hfz79_3
  try clear hfz79_4
  try clear hfz79_5
  try clear hfz79_6
  try clear hfz7_0
  try clear hfz7_1
  try clear hfz7_2
  try clear hfz7_3
  try clear hfz7_4
  try clear hfz7_5
  try clear hfz7_6
  try clear hfz81_0
  try clear hfz81_1
  try clear hfz81_2
  try clear hfz81_3
  try clear hfz81_4
  try clear hfz81_5
  try clear hfz81_6
  try clear hfz84_0
  try clear hfz84_1
  try clear hfz84_2
  try clear hfz84_3
  try clear hfz84_4
  try clear hfz84_5
  try clear hfz84_6
  try clear hfz9_0
  try clear hfz9_1
  try clear hfz9_2
  try clear hfz9_3
  try clear hfz9_4
  try clear hfz9_5
  try clear hfz9_6
  try clear hx160_0
  try clear hx166_0
  try clear hx167_0
  try clear hx169_0
  try clear hx170_0
  try clear hx171_0
  try clear hx172_0
  try clear hx175_0
  try clear p1
  try clear p16
  try clear p160
  try clear p166
  try clear p167
  try clear p169
  try clear p170
  try clear p171
  try clear p172
  try clear p175
  try clear p2
  try clear p6
  try clear q1
  try clear q16
  try clear q160
  try clear q166
  try clear q167
  try clear q169
  try clear q170
  try clear q171
  try clear q172
  try clear q175
  obtain ⟨kq, x109_81, rfl, HA, HJ81, BK158, HB⟩ := hcut
  cases kq with
  | zero => exact absurd HA.out (by simp [impl_Node_fault.j1])
  | succ kj81 =>
   have H := HA.out
   clear HA
   simp only [impl_Node_fault.j1] at H
   by_cases c87 : x109_81 = true
   rotate_left
   ·replace c87 := Bool.eq_false_iff.mpr c87
    subst c87
    rw [if_neg (show ¬ (false = true) by decide)] at H
    obtain rfl := Option.some.inj H
    go_wp2
    repeat (go_quiet (fail); try go_wp2)
    go_ret
    exact ⟨ce_, cB1_ GE158.out⟩
   subst c87
   rw [if_pos rfl] at H
   by_cases c88 : 0 ≤ a0_1
   rotate_left
   ·rw [if_neg c88] at H
    exact absurd H (by simp)
   rw [if_pos c88] at H
   have c88b0 : decide (0 ≤ a0_1) = true := decide_eq_true c88
   clear c88
   by_cases c89 : a0_1 < (l1.length : Int)
   rotate_left
   ·rw [if_neg c89] at H
    exact absurd H (by simp)
   rw [if_pos c89] at H
   have c89b0 : decide (a0_1 < (l1.length : Int)) = true := decide_eq_true c89
   clear c89
   obtain ⟨t178, A90, H⟩ := bnd_ H
   try dsimp only at H
   by_cases c91 : t178 = true
   ·subst c91
    rw [if_pos rfl] at H
    obtain rfl := Option.some.inj H
    obtain ⟨hcz92_0, hcz92_1, hcz92_2, hcz92_3, hcz92_4, hcz92_5, hcz92_6, hfz92_0, hfz92_1, hfz92_2, hfz92_3, hfz92_4, hfz92_5, hfz92_6⟩ := cells7 BK158.out
    have p177 : 0 ≤ (a0_1 : Int) := of_decide_eq_true ca_
    have q177 : a0_1 < (l1.length : Int) := of_decide_eq_true ca_
    obtain ⟨ad177, e177, hx177_0⟩ := Kd.at_int HR1.out a0_1 p177 q177
    cases e177
    replace hx177_0 := (HB.out.cell (World.block_lt_of_cell? w _ hx177_0)).trans hx177_0
    replace p177 := eq_true p177
    replace q177 := eq_true q177
    go_wp2_with (first | (go_at_call 47; (with_reducible refine (impl_in.calls a0_3 0 (wrap64 ((rd l1 a0_1) - 1)) true _ A90.out).mono ?_); rintro e w' ⟨rfl, ⟨nd, rfl⟩⟩; (try exact b7_1)))
    repeat (go_quiet (first | (go_at_call 47; (with_reducible refine (impl_in.calls a0_3 0 (wrap64 ((rd l1 a0_1) - 1)) true _ A90.out).mono ?_); rintro e w' ⟨rfl, ⟨nd, rfl⟩⟩; (try exact b7_1))); try go_wp2_with (first | (go_at_call 47; (with_reducible refine (impl_in.calls a0_3 0 (wrap64 ((rd l1 a0_1) - 1)) true _ A90.out).mono ?_); rintro e w' ⟨rfl, ⟨nd, rfl⟩⟩; (try exact b7_1))))
    go_ret
    exact ⟨ce_, cB1_ GE158.out⟩
   replace c91 := Bool.eq_false_iff.mpr c91
   subst c91
   rw [if_neg (show ¬ (false = true) by decide)] at H
   obtain rfl := Option.some.inj H
   obtain ⟨hcz93_0, hcz93_1, hcz93_2, hcz93_3, hcz93_4, hcz93_5, hcz93_6, hfz93_0, hfz93_1, hfz93_2, hfz93_3, hfz93_4, hfz93_5, hfz93_6⟩ := cells7 BK158.out
   have p177 : 0 ≤ (a0_1 : Int) := of_decide_eq_true ca_
   have q177 : a0_1 < (l1.length : Int) := of_decide_eq_true ca_
   obtain ⟨ad177, e177, hx177_0⟩ := Kd.at_int HR1.out a0_1 p177 q177
   cases e177
   replace hx177_0 := (HB.out.cell (World.block_lt_of_cell? w _ hx177_0)).trans hx177_0
   replace p177 := eq_true p177
   replace q177 := eq_true q177
   go_wp2_with (first | (go_at_call 47; (with_reducible refine (impl_in.calls a0_3 0 (wrap64 ((rd l1 a0_1) - 1)) false _ A90.out).mono ?_); rintro e w' ⟨rfl, ⟨nd, rfl⟩⟩; (try exact b7_1)))
   repeat (go_quiet (first | (go_at_call 47; (with_reducible refine (impl_in.calls a0_3 0 (wrap64 ((rd l1 a0_1) - 1)) false _ A90.out).mono ?_); rintro e w' ⟨rfl, ⟨nd, rfl⟩⟩; (try exact b7_1))); try go_wp2_with (first | (go_at_call 47; (with_reducible refine (impl_in.calls a0_3 0 (wrap64 ((rd l1 a0_1) - 1)) false _ A90.out).mono ?_); rintro e w' ⟨rfl, ⟨nd, rfl⟩⟩; (try exact b7_1))))
   go_ret
   exact ⟨ce_, cB1_ GE158.out⟩

end Go.Proofs.Yteibdjkfkcckkaa.PFnFeeds
