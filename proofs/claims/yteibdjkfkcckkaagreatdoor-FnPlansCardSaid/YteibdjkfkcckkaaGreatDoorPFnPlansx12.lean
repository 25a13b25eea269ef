-- Written by fprint, a program of this session, out of Lean's own print of the translation. Lean checks it.
import Derived.Test.YteibdjkfkcckkaaGreatDoorDense
import Derived.Test.YteibdjkfkcckkaaGreatDoorPFnPlansx0
import Derived.Test.YteibdjkfkcckkaaGreatDoorPFnPlansx8
import Derived.Test.YteibdjkfkcckkaaGreatDoorPFnPlansx11
namespace Go.Proofs.YteibdjkfkcckkaaGreatDoor.PFnPlans
open Go.RowKit Go.Proofs.YteibdjkfkcckkaaGreatDoorW.PrintWords Go.Proofs.YteibdjkfkcckkaaGreatDoorW.PrintLast Go.Proofs.YteibdjkfkcckkaaGreatDoorW.PrintMore
attribute [local go_sem] max2_int min2_int max_two min_two max_three min_three max_four min_four
set_option linter.unusedVariables false
set_option maxHeartbeats 8000000
set_option maxRecDepth 100000
set_option linter.unusedSimpArgs false

theorem b12_1 {p : Prop} (h : p := by first | exact ⟨rfl, _, World.drewN_drewN _ _ _⟩ | exact ⟨rfl, _, Eq.trans (World.drewN_drewN _ _ _) (congrArg (World.drewN _) (Nat.add_assoc _ _ _))⟩) : p := h
theorem b12_3 {p : Prop} (h : p := by exact cB1_ GE312.out) : p := h
theorem b12_4 {p : Prop} (h : p := by exact cC_ (Kd.C_below HR0_6.out HB.out)) : p := h
theorem b12_5 {p : Prop} (h : p := by exact cC_ (Kd.C_below HR0_6.out b12_3)) : p := h
theorem b12_6 {p : Prop} (h : p := by exact cC_ (Kd.C_below HR1.out b12_3)) : p := h
theorem q12_0 {p : Prop} (h : p := by first | rfl | (simp [errW_none, errW_some] <;> rfl) | (simp only [← hji59]; first | rfl | (simp [errW_none, errW_some] <;> rfl)) | (simp [*, errW_none, errW_some] <;> rfl)) : p := h
theorem q12_1 {p : Prop} (h : p := by first | rfl | (simp [errW_none, errW_some] <;> rfl) | (simp only [← hji75]; first | rfl | (simp [errW_none, errW_some] <;> rfl)) | (simp [*, errW_none, errW_some] <;> rfl)) : p := h
/-! ### impl_Node_fault: function 45 -/
mutual
def impl_Node_fault.l0 : Nat → List Int → List Int → Int → Int → Int → Int → Int → Int → Int → Int → List Int → Option (Int)
 | 0, _, _, _, _, _, _, _, _, _, _, _ => none
 | k + 1, x1, x47, x48, x49, x313000, x313001, x313002, x313003, x313004, x313005, x313006 => if x49 < x48 then (if 0 ≤ x49 then (if x49 < (x47.length : Int) then (if 0 ≤ x313001 then (if x313001 < (x1.length : Int) then ((impl_in.f (rd x47 x49) 0 (wrap64 ((rd x1 x313001) - 1))).bind fun t322 => (if t322 = true then (impl_Node_fault.l0 k x1 x47 x48 (wrap64 (x49 + 1)) x313000 x313001 x313002 x313003 x313004 x313005 x313006) else (some 3))) else (none)) else (none)) else (none)) else (none)) else (some 0)
def impl_Node_fault.j1 : Nat → List Int → Bool → Int → Int → Int → Int → Int → Int → List Int → Option (Int)
 | 0, _, _, _, _, _, _, _, _, _ => none
 | k + 1, x1, x109, x313000, x313001, x313002, x313003, x313004, x313005, x313006 => if x109 = true then (if 0 ≤ x313001 then (if x313001 < (x1.length : Int) then ((impl_in.f x313003 0 (wrap64 ((rd x1 x313001) - 1))).bind fun t332 => (if t332 = true then (some 0) else (some 3))) else (none)) else (none)) else (some 0)
end
def impl_Node_fault.f (k : Nat) (a0_0 : Int) (a0_1 : Int) (a0_2 : Int) (a0_3 : Int) (a0_4 : Int) (a0_5 : Int) (l0_6 : List Int) (l1 : List Int) : Option (Int) := if a0_0 = 1 then ((impl_in.f a0_3 1 3).bind fun t313 => (if t313 = true then (some 0) else (some 3))) else (if a0_0 = 2 then (if 0 ≤ a0_1 then (if a0_1 < (l1.length : Int) then ((impl_in.f a0_3 0 (wrap64 ((rd l1 a0_1) - 1))).bind fun t315 => (if t315 = true then ((impl_in.f a0_4 0 2).bind fun t316 => (if t316 = true then ((impl_in.f a0_5 (-1000000000) 1000000000).bind fun t317 => (if t317 = true then (some 0) else (some 3))) else (some 3))) else (some 3))) else (none)) else (none)) else (if a0_0 = 3 then ((impl_size_int64.f l0_6).bind fun t318 => ((impl_in.f t318 1 4).bind fun t319 => (if t319 = true then (impl_Node_fault.l0 k l1 l0_6 (l0_6.length : Int) 0 a0_0 a0_1 a0_2 a0_3 a0_4 a0_5 l0_6) else (some 2)))) else (if a0_0 = 4 then (if 0 ≤ a0_1 then (if a0_1 < (l1.length : Int) then (if 0 ≤ a0_2 then (if a0_2 < (l1.length : Int) then (if (rd l1 a0_1) = (rd l1 a0_2) then (some 0) else (some 1)) else (none)) else (none)) else (none)) else (none)) else (if a0_0 = 6 then (if 0 ≤ a0_1 then (if a0_1 < (l1.length : Int) then (if 0 ≤ a0_2 then (if a0_2 < (l1.length : Int) then ((impl_in.f a0_3 1 (mn (rd l1 a0_1) (rd l1 a0_2))).bind fun t327 => (if t327 = true then ((impl_Node_width.f a0_0 a0_1 a0_2 a0_3 a0_4 a0_5 l0_6 l1).bind fun t328 => (if t328 > 4 then (some 2) else (some 0))) else (some 3))) else (none)) else (none)) else (none)) else (none)) else (if a0_0 = 7 then (if 0 ≤ a0_1 then (if a0_1 < (l1.length : Int) then ((impl_in.f a0_3 0 (mn (rd l1 a0_1) 3)).bind fun t330 => (if t330 = true then (some 0) else (some 3))) else (none)) else (none)) else (if a0_0 = 8 then (impl_Node_fault.j1 k l1 (a0_0 == 8) a0_0 a0_1 a0_2 a0_3 a0_4 a0_5 l0_6) else (if a0_0 = 9 then (impl_Node_fault.j1 k l1 (a0_0 == 9) a0_0 a0_1 a0_2 a0_3 a0_4 a0_5 l0_6) else (impl_Node_fault.j1 k l1 (a0_0 == 10) a0_0 a0_1 a0_2 a0_3 a0_4 a0_5 l0_6))))))))
theorem impl_Node_fault.mono_l : ∀ k, (∀ y0 y1 y2 y3 y4 y5 y6 y7 y8 y9 y10, LeO (impl_Node_fault.l0 k y0 y1 y2 y3 y4 y5 y6 y7 y8 y9 y10) (impl_Node_fault.l0 (k + 1) y0 y1 y2 y3 y4 y5 y6 y7 y8 y9 y10)) ∧ (∀ y0 y1 y2 y3 y4 y5 y6 y7 y8, LeO (impl_Node_fault.j1 k y0 y1 y2 y3 y4 y5 y6 y7 y8) (impl_Node_fault.j1 (k + 1) y0 y1 y2 y3 y4 y5 y6 y7 y8))
 | 0 => ⟨fun _ _ _ _ _ _ _ _ _ _ _ r h => by simp [impl_Node_fault.l0] at h, fun _ _ _ _ _ _ _ _ _ r h => by simp [impl_Node_fault.j1] at h⟩
 | k + 1 => by
  obtain ⟨ih0, ih1⟩ := impl_Node_fault.mono_l k
  refine ⟨?_, ?_⟩
  ·intro y0 y1 y2 y3 y4 y5 y6 y7 y8 y9 y10
   unfold impl_Node_fault.l0
   repeat' first
   | (with_reducible exact ih0 _ _ _ _ _ _ _ _ _ _ _)
   | (with_reducible exact ih1 _ _ _ _ _ _ _ _ _)
   | (with_reducible exact LeO.refl _)
   | (with_reducible exact LeO.none _)
   | (with_reducible refine LeO.ite ?_ ?_)
   | (with_reducible refine LeO.bind ?_ (fun _ => ?_))
   | refine LeO.ite ?_ ?_
   | refine LeO.bind ?_ (fun _ => ?_)
  ·intro y0 y1 y2 y3 y4 y5 y6 y7 y8
   unfold impl_Node_fault.j1
   repeat' first
   | (with_reducible exact ih0 _ _ _ _ _ _ _ _ _ _ _)
   | (with_reducible exact ih1 _ _ _ _ _ _ _ _ _)
   | (with_reducible exact LeO.refl _)
   | (with_reducible exact LeO.none _)
   | (with_reducible refine LeO.ite ?_ ?_)
   | (with_reducible refine LeO.bind ?_ (fun _ => ?_))
   | refine LeO.ite ?_ ?_
   | refine LeO.bind ?_ (fun _ => ?_)
theorem impl_Node_fault.mono : ∀ a0 a1 a2 a3 a4 a5 a6 a7 k, LeO (impl_Node_fault.f k a0 a1 a2 a3 a4 a5 a6 a7) (impl_Node_fault.f (k + 1) a0 a1 a2 a3 a4 a5 a6 a7) := by
 intro a0 a1 a2 a3 a4 a5 a6 a7 k
 obtain ⟨ih0, ih1⟩ := impl_Node_fault.mono_l k
 unfold impl_Node_fault.f
 repeat' first
   | (with_reducible exact ih0 _ _ _ _ _ _ _ _ _ _ _)
   | (with_reducible exact ih1 _ _ _ _ _ _ _ _ _)
   | (with_reducible exact LeO.refl _)
   | (with_reducible exact LeO.none _)
   | (with_reducible refine LeO.ite ?_ ?_)
   | (with_reducible refine LeO.bind ?_ (fun _ => ?_))
   | refine LeO.ite ?_ ?_
   | refine LeO.bind ?_ (fun _ => ?_)
theorem impl_Node_fault.calls (k : Nat) (a0_0 : Int) (a0_1 : Int) (a0_2 : Int) (a0_3 : Int) (a0_4 : Int) (a0_5 : Int) (A0_6 : Option Addr) (c0_6 : Nat) (l0_6 : List Int) (A1 : Option Addr) (c1 : Nat) (l1 : List Int) (r : Int) (w : World) (hr0_6 : Kd.C (Kd.int .i64) w A0_6 l0_6.length l0_6) (hc0_6 : l0_6.length ≤ c0_6) (hr1 : Kd.C (Kd.int .i64) w A1 l1.length l1) (hc1 : l1.length ≤ c1) (h : impl_Node_fault.f k a0_0 a0_1 a0_2 a0_3 a0_4 a0_5 l0_6 l1 = some r) :
  Calls Tryz.prog 45 #[.agg #[.int .i64 a0_0, .int .i64 a0_1, .int .i64 a0_2, .int .i64 a0_3, .int .i64 a0_4, .int .i64 a0_5, .slice A0_6 l0_6.length c0_6], .slice A1 l1.length c1] w fun e w' => e = .returned (.int .i64 r) ∧ Below w.heap.size w w' := by
 have hu36 := Tryz.underlying36
 have HR0_6 := Aside0.mk hr0_6
 have HC0_6 := Aside0.mk hc0_6
 clear hr0_6 hc0_6
 have HR1 := Aside0.mk hr1
 have HC1 := Aside0.mk hc1
 clear hr1 hc1
 have HB := Aside0.mk (Below.refl w.heap.size w)
 have H : (if a0_0 = 1 then ((impl_in.f a0_3 1 3).bind fun t313 => (if t313 = true then (some 0) else (some 3))) else (if a0_0 = 2 then (if 0 ≤ a0_1 then (if a0_1 < (l1.length : Int) then ((impl_in.f a0_3 0 (wrap64 ((rd l1 a0_1) - 1))).bind fun t315 => (if t315 = true then ((impl_in.f a0_4 0 2).bind fun t316 => (if t316 = true then ((impl_in.f a0_5 (-1000000000) 1000000000).bind fun t317 => (if t317 = true then (some 0) else (some 3))) else (some 3))) else (some 3))) else (none)) else (none)) else (if a0_0 = 3 then ((impl_size_int64.f l0_6).bind fun t318 => ((impl_in.f t318 1 4).bind fun t319 => (if t319 = true then (impl_Node_fault.l0 k l1 l0_6 (l0_6.length : Int) 0 a0_0 a0_1 a0_2 a0_3 a0_4 a0_5 l0_6) else (some 2)))) else (if a0_0 = 4 then (if 0 ≤ a0_1 then (if a0_1 < (l1.length : Int) then (if 0 ≤ a0_2 then (if a0_2 < (l1.length : Int) then (if (rd l1 a0_1) = (rd l1 a0_2) then (some 0) else (some 1)) else (none)) else (none)) else (none)) else (none)) else (if a0_0 = 6 then (if 0 ≤ a0_1 then (if a0_1 < (l1.length : Int) then (if 0 ≤ a0_2 then (if a0_2 < (l1.length : Int) then ((impl_in.f a0_3 1 (mn (rd l1 a0_1) (rd l1 a0_2))).bind fun t327 => (if t327 = true then ((impl_Node_width.f a0_0 a0_1 a0_2 a0_3 a0_4 a0_5 l0_6 l1).bind fun t328 => (if t328 > 4 then (some 2) else (some 0))) else (some 3))) else (none)) else (none)) else (none)) else (none)) else (if a0_0 = 7 then (if 0 ≤ a0_1 then (if a0_1 < (l1.length : Int) then ((impl_in.f a0_3 0 (mn (rd l1 a0_1) 3)).bind fun t330 => (if t330 = true then (some 0) else (some 3))) else (none)) else (none)) else (if a0_0 = 8 then (impl_Node_fault.j1 k l1 (a0_0 == 8) a0_0 a0_1 a0_2 a0_3 a0_4 a0_5 l0_6) else (if a0_0 = 9 then (impl_Node_fault.j1 k l1 (a0_0 == 9) a0_0 a0_1 a0_2 a0_3 a0_4 a0_5 l0_6) else (impl_Node_fault.j1 k l1 (a0_0 == 10) a0_0 a0_1 a0_2 a0_3 a0_4 a0_5 l0_6))))))))) = some r := h
 clear h
 by_cases c3 : a0_0 = 1
 ·rw [if_pos c3] at H
  have c3b0 : (a0_0 == 1) = true := beq_iff_eq.mpr c3
  have c3b1 : (a0_0 != 1) = false := bne_eq_false_iff_eq.mpr c3
  clear c3
  obtain ⟨t313, A4, H⟩ := bnd_ H
  try dsimp only at H
  by_cases c5 : t313 = true
  ·subst c5
   rw [if_pos rfl] at H
   obtain rfl := Option.some.inj H
   go_enter Tryz.func45, Tryz.ntmps45
   go_wp2_with (first | (refine bx_ 2 #[.int .i64 a0_0, .int .i64 a0_1, .int .i64 a0_2, .int .i64 a0_3, .int .i64 a0_4, .int .i64 a0_5, .slice A0_6 l0_6.length c0_6] 36 ?_; intro gb312 hg w6 hbox hb; have BK312 := Aside0.mk (hbox); have GW312 := Aside0.mk ((by rw [hg]; exact (below_size cB0_) : w.heap.size ≤ gb312)); have GE312 := Aside0.mk ((by rw [hg]; exact (below_size cB0_) : w.heap.size ≤ gb312)); replace HB := Aside0.mk (below_step cB0_ hb); clear hb hbox hg; obtain ⟨_, _, _, _, _, _, _, _, _, _, _, _, _, _⟩ := cells7 BK312.out) | (go_at_call 40; (with_reducible refine (impl_in.calls a0_3 1 3 true _ A4.out).mono ?_); rintro e w' ⟨rfl, ⟨nd, rfl⟩⟩; (try exact b12_1)))
   repeat (go_quiet (fail); try go_wp2)
   go_ret
   exact ⟨ce_, cB1_ GE312.out⟩
  replace c5 := Bool.eq_false_iff.mpr c5
  subst c5
  rw [if_neg (show ¬ (false = true) by decide)] at H
  obtain rfl := Option.some.inj H
  go_enter Tryz.func45, Tryz.ntmps45
  go_wp2_with (first | (refine bx_ 2 #[.int .i64 a0_0, .int .i64 a0_1, .int .i64 a0_2, .int .i64 a0_3, .int .i64 a0_4, .int .i64 a0_5, .slice A0_6 l0_6.length c0_6] 36 ?_; intro gb312 hg w8 hbox hb; have BK312 := Aside0.mk (hbox); have GW312 := Aside0.mk ((by rw [hg]; exact (below_size cB0_) : w.heap.size ≤ gb312)); have GE312 := Aside0.mk ((by rw [hg]; exact (below_size cB0_) : w.heap.size ≤ gb312)); replace HB := Aside0.mk (below_step cB0_ hb); clear hb hbox hg; obtain ⟨_, _, _, _, _, _, _, _, _, _, _, _, _, _⟩ := cells7 BK312.out) | (go_at_call 40; (with_reducible refine (impl_in.calls a0_3 1 3 false _ A4.out).mono ?_); rintro e w' ⟨rfl, ⟨nd, rfl⟩⟩; (try exact b12_1)))
  repeat (go_quiet (fail); try go_wp2)
  go_ret
  exact ⟨ce_, cB1_ GE312.out⟩
 rw [if_neg c3] at H
 have c3b0 : (a0_0 == 1) = false := beq_eq_false_iff_ne.mpr c3
 have c3b1 : (a0_0 != 1) = true := bne_iff_ne.mpr c3
 by_cases c10 : a0_0 = 2
 ·rw [if_pos c10] at H
  have c10b0 : (a0_0 == 2) = true := beq_iff_eq.mpr c10
  have c10b1 : (a0_0 != 2) = false := bne_eq_false_iff_eq.mpr c10
  clear c10
  by_cases c11 : 0 ≤ a0_1
  rotate_left
  ·rw [if_neg c11] at H
   exact absurd H (by simp)
  rw [if_pos c11] at H
  have c11b0 := decide_eq_true c11
  clear c11
  by_cases c12 : a0_1 < (l1.length : Int)
  rotate_left
  ·rw [if_neg c12] at H
   exact absurd H (by simp)
  rw [if_pos c12] at H
  have c12b0 := decide_eq_true c12
  clear c12
  obtain ⟨t315, A13, H⟩ := bnd_ H
  try dsimp only at H
  by_cases c14 : t315 = true
  rotate_left
  ·replace c14 := Bool.eq_false_iff.mpr c14
   subst c14
   rw [if_neg (show ¬ (false = true) by decide)] at H
   obtain rfl := Option.some.inj H
   go_enter Tryz.func45, Tryz.ntmps45
   go_wp2_with (first | (refine bx_ 2 #[.int .i64 a0_0, .int .i64 a0_1, .int .i64 a0_2, .int .i64 a0_3, .int .i64 a0_4, .int .i64 a0_5, .slice A0_6 l0_6.length c0_6] 36 ?_; intro gb312 hg w25 hbox hb; have BK312 := Aside0.mk (hbox); have GW312 := Aside0.mk ((by rw [hg]; exact (below_size cB0_) : w.heap.size ≤ gb312)); have GE312 := Aside0.mk ((by rw [hg]; exact (below_size cB0_) : w.heap.size ≤ gb312)); replace HB := Aside0.mk (below_step cB0_ hb); clear hb hbox hg; obtain ⟨_, _, _, _, _, _, _, _, _, _, _, _, _, _⟩ := cells7 BK312.out; have p314 : 0 ≤ (a0_1 : Int) := cd_; have q314 : a0_1 < (l1.length : Int) := cd_; obtain ⟨ad314, e314, hx314_0⟩ := Kd.at_int HR1.out a0_1 p314 q314; cases e314; replace hx314_0 := pw_cell_below HB.out hx314_0; replace p314 := eq_true p314; replace q314 := eq_true q314))
   repeat (go_quiet (first | (go_at_call 40; (with_reducible refine (impl_in.calls a0_3 0 (wrap64 ((rd l1 a0_1) - 1)) false _ A13.out).mono ?_); rintro e w' ⟨rfl, ⟨nd, rfl⟩⟩; (try exact b12_1))); try go_wp2)
   go_ret
   exact ⟨ce_, cB1_ GE312.out⟩
  subst c14
  rw [if_pos rfl] at H
  obtain ⟨t316, A15, H⟩ := bnd_ H
  try dsimp only at H
  by_cases c16 : t316 = true
  rotate_left
  ·replace c16 := Bool.eq_false_iff.mpr c16
   subst c16
   rw [if_neg (show ¬ (false = true) by decide)] at H
   obtain rfl := Option.some.inj H
   go_enter Tryz.func45, Tryz.ntmps45
   go_wp2_with (first | (refine bx_ 2 #[.int .i64 a0_0, .int .i64 a0_1, .int .i64 a0_2, .int .i64 a0_3, .int .i64 a0_4, .int .i64 a0_5, .slice A0_6 l0_6.length c0_6] 36 ?_; intro gb312 hg w23 hbox hb; have BK312 := Aside0.mk (hbox); have GW312 := Aside0.mk ((by rw [hg]; exact (below_size cB0_) : w.heap.size ≤ gb312)); have GE312 := Aside0.mk ((by rw [hg]; exact (below_size cB0_) : w.heap.size ≤ gb312)); replace HB := Aside0.mk (below_step cB0_ hb); clear hb hbox hg; obtain ⟨_, _, _, _, _, _, _, _, _, _, _, _, _, _⟩ := cells7 BK312.out; have p314 : 0 ≤ (a0_1 : Int) := cd_; have q314 : a0_1 < (l1.length : Int) := cd_; obtain ⟨ad314, e314, hx314_0⟩ := Kd.at_int HR1.out a0_1 p314 q314; cases e314; replace hx314_0 := pw_cell_below HB.out hx314_0; replace p314 := eq_true p314; replace q314 := eq_true q314))
   repeat (go_quiet (first | (go_at_call 40; (with_reducible refine (impl_in.calls a0_3 0 (wrap64 ((rd l1 a0_1) - 1)) true _ A13.out).mono ?_); rintro e w' ⟨rfl, ⟨nd, rfl⟩⟩; (try exact b12_1)) | (go_at_call 40; (with_reducible refine (impl_in.calls a0_4 0 2 false _ A15.out).mono ?_); rintro e w' ⟨rfl, ⟨nd, rfl⟩⟩; (try exact b12_1))); try go_wp2)
   go_ret
   exact ⟨ce_, cB1_ GE312.out⟩
  subst c16
  rw [if_pos rfl] at H
  obtain ⟨t317, A17, H⟩ := bnd_ H
  try dsimp only at H
  by_cases c18 : t317 = true
  ·subst c18
   rw [if_pos rfl] at H
   obtain rfl := Option.some.inj H
   go_enter Tryz.func45, Tryz.ntmps45
   go_wp2_with (first | (refine bx_ 2 #[.int .i64 a0_0, .int .i64 a0_1, .int .i64 a0_2, .int .i64 a0_3, .int .i64 a0_4, .int .i64 a0_5, .slice A0_6 l0_6.length c0_6] 36 ?_; intro gb312 hg w19 hbox hb; have BK312 := Aside0.mk (hbox); have GW312 := Aside0.mk ((by rw [hg]; exact (below_size cB0_) : w.heap.size ≤ gb312)); have GE312 := Aside0.mk ((by rw [hg]; exact (below_size cB0_) : w.heap.size ≤ gb312)); replace HB := Aside0.mk (below_step cB0_ hb); clear hb hbox hg; obtain ⟨_, _, _, _, _, _, _, _, _, _, _, _, _, _⟩ := cells7 BK312.out; have p314 : 0 ≤ (a0_1 : Int) := cd_; have q314 : a0_1 < (l1.length : Int) := cd_; obtain ⟨ad314, e314, hx314_0⟩ := Kd.at_int HR1.out a0_1 p314 q314; cases e314; replace hx314_0 := pw_cell_below HB.out hx314_0; replace p314 := eq_true p314; replace q314 := eq_true q314))
   repeat (go_quiet (first | (go_at_call 40; (with_reducible refine (impl_in.calls a0_3 0 (wrap64 ((rd l1 a0_1) - 1)) true _ A13.out).mono ?_); rintro e w' ⟨rfl, ⟨nd, rfl⟩⟩; (try exact b12_1)) | (go_at_call 40; (with_reducible refine (impl_in.calls a0_4 0 2 true _ A15.out).mono ?_); rintro e w' ⟨rfl, ⟨nd, rfl⟩⟩; (try exact b12_1)) | (go_at_call 40; (with_reducible refine (impl_in.calls a0_5 (-1000000000) 1000000000 true _ A17.out).mono ?_); rintro e w' ⟨rfl, ⟨nd, rfl⟩⟩; (try exact b12_1))); try go_wp2)
   go_ret
   exact ⟨ce_, cB1_ GE312.out⟩
  replace c18 := Bool.eq_false_iff.mpr c18
  subst c18
  rw [if_neg (show ¬ (false = true) by decide)] at H
  obtain rfl := Option.some.inj H
  go_enter Tryz.func45, Tryz.ntmps45
  go_wp2_with (first | (refine bx_ 2 #[.int .i64 a0_0, .int .i64 a0_1, .int .i64 a0_2, .int .i64 a0_3, .int .i64 a0_4, .int .i64 a0_5, .slice A0_6 l0_6.length c0_6] 36 ?_; intro gb312 hg w21 hbox hb; have BK312 := Aside0.mk (hbox); have GW312 := Aside0.mk ((by rw [hg]; exact (below_size cB0_) : w.heap.size ≤ gb312)); have GE312 := Aside0.mk ((by rw [hg]; exact (below_size cB0_) : w.heap.size ≤ gb312)); replace HB := Aside0.mk (below_step cB0_ hb); clear hb hbox hg; obtain ⟨_, _, _, _, _, _, _, _, _, _, _, _, _, _⟩ := cells7 BK312.out; have p314 : 0 ≤ (a0_1 : Int) := cd_; have q314 : a0_1 < (l1.length : Int) := cd_; obtain ⟨ad314, e314, hx314_0⟩ := Kd.at_int HR1.out a0_1 p314 q314; cases e314; replace hx314_0 := pw_cell_below HB.out hx314_0; replace p314 := eq_true p314; replace q314 := eq_true q314))
  repeat (go_quiet (first | (go_at_call 40; (with_reducible refine (impl_in.calls a0_3 0 (wrap64 ((rd l1 a0_1) - 1)) true _ A13.out).mono ?_); rintro e w' ⟨rfl, ⟨nd, rfl⟩⟩; (try exact b12_1)) | (go_at_call 40; (with_reducible refine (impl_in.calls a0_4 0 2 true _ A15.out).mono ?_); rintro e w' ⟨rfl, ⟨nd, rfl⟩⟩; (try exact b12_1)) | (go_at_call 40; (with_reducible refine (impl_in.calls a0_5 (-1000000000) 1000000000 false _ A17.out).mono ?_); rintro e w' ⟨rfl, ⟨nd, rfl⟩⟩; (try exact b12_1))); try go_wp2)
  go_ret
  exact ⟨ce_, cB1_ GE312.out⟩
 rw [if_neg c10] at H
 have c10b0 : (a0_0 == 2) = false := beq_eq_false_iff_ne.mpr c10
 have c10b1 : (a0_0 != 2) = true := bne_iff_ne.mpr c10
 by_cases c27 : a0_0 = 3
 ·rw [if_pos c27] at H
  have c27b0 : (a0_0 == 3) = true := beq_iff_eq.mpr c27
  have c27b1 : (a0_0 != 3) = false := bne_eq_false_iff_eq.mpr c27
  clear c27
  obtain ⟨t318, A28, H⟩ := bnd_ H
  try dsimp only at H
  obtain ⟨t319, A29, H⟩ := bnd_ H
  try dsimp only at H
  by_cases c30 : t319 = true
  rotate_left
  ·replace c30 := Bool.eq_false_iff.mpr c30
   subst c30
   rw [if_neg (show ¬ (false = true) by decide)] at H
   obtain rfl := Option.some.inj H
   go_enter Tryz.func45, Tryz.ntmps45
   go_wp2_with (first | (refine bx_ 2 #[.int .i64 a0_0, .int .i64 a0_1, .int .i64 a0_2, .int .i64 a0_3, .int .i64 a0_4, .int .i64 a0_5, .slice A0_6 l0_6.length c0_6] 36 ?_; intro gb312 hg w42 hbox hb; have BK312 := Aside0.mk (hbox); have GW312 := Aside0.mk ((by rw [hg]; exact (below_size cB0_) : w.heap.size ≤ gb312)); have GE312 := Aside0.mk ((by rw [hg]; exact (below_size cB0_) : w.heap.size ≤ gb312)); replace HB := Aside0.mk (below_step cB0_ hb); clear hb hbox hg; obtain ⟨_, _, _, _, _, _, _, _, _, _, _, _, _, _⟩ := cells7 BK312.out) | (go_at_call 69; (with_reducible refine (impl_size_int64.calls _ _ l0_6 t318 _ ?side1 ?side2 A28.out).mono ?_); (case side1 => exact b12_4); (case side2 => exact HC0_6.out); rintro e w' ⟨rfl, ⟨nd, rfl⟩⟩; (try exact b12_1)) | (go_at_call 40; (with_reducible refine (impl_in.calls t318 1 4 false _ A29.out).mono ?_); rintro e w' ⟨rfl, ⟨nd, rfl⟩⟩; (try exact b12_1)))
   repeat (go_quiet (fail); try go_wp2)
   go_ret
   exact ⟨ce_, cB1_ GE312.out⟩
  subst c30
  rw [if_pos rfl] at H
  have H' := Aside0.mk H
  clear H
  go_enter Tryz.func45, Tryz.ntmps45
  go_wp2_with (first | (refine bx_ 2 #[.int .i64 a0_0, .int .i64 a0_1, .int .i64 a0_2, .int .i64 a0_3, .int .i64 a0_4, .int .i64 a0_5, .slice A0_6 l0_6.length c0_6] 36 ?_; intro gb312 hg w31 hbox hb; have BK312 := Aside0.mk (hbox); have GW312 := Aside0.mk ((by rw [hg]; exact (below_size cB0_) : w.heap.size ≤ gb312)); have GE312 := Aside0.mk ((by rw [hg]; exact (below_size cB0_) : w.heap.size ≤ gb312)); replace HB := Aside0.mk (below_step cB0_ hb); clear hb hbox hg; obtain ⟨_, _, _, _, _, _, _, _, _, _, _, _, _, _⟩ := cells7 BK312.out) | (go_at_call 69; (with_reducible refine (impl_size_int64.calls _ _ l0_6 t318 _ ?side1 ?side2 A28.out).mono ?_); (case side1 => exact b12_4); (case side2 => exact HC0_6.out); rintro e w' ⟨rfl, ⟨nd, rfl⟩⟩; (try exact b12_1)) | (go_at_call 40; (with_reducible refine (impl_in.calls t318 1 4 true _ A29.out).mono ?_); rintro e w' ⟨rfl, ⟨nd, rfl⟩⟩; (try exact b12_1)))
  repeat (go_quiet (fail); try go_wp2)
  go_loopg [49] k (fun kq v49 w' => ∃ (x49_1 : Int), v49 = .int .i64 x49_1 ∧ Aside0 (impl_Node_fault.l0 kq l1 l0_6 (l0_6.length : Int) x49_1 a0_0 a0_1 a0_2 a0_3 a0_4 a0_5 l0_6 = some r) ∧ Aside0 (kq ≤ k) ∧ Aside0 (w'.heap[gb312]? = some (.cells #[.int .i64 a0_0, .int .i64 a0_1, .int .i64 a0_2, .int .i64 a0_3, .int .i64 a0_4, .int .i64 a0_5, (.slice A0_6 l0_6.length c0_6)] 36 (0, 0))) ∧ Aside0 (Below w.heap.size w w'))
  case atStart => exact ⟨(0), cs_, H', ⟨Nat.le_refl _⟩, ⟨cO_ BK312.out⟩, ⟨cB1_ GE312.out⟩⟩
  case round =>
   clear H'
   try clear c3
   try clear c3b0
   try clear c3b1
   try clear c10
   try clear c10b0
   try clear c10b1
   try clear c27b0
   try clear c27b1
   obtain ⟨x49_1, rfl, HA, HK1, BK312, HB⟩ := hrel
   cases gk with
   | zero => exact absurd HA.out (by simp [impl_Node_fault.l0])
   | succ k1 =>
    have H := HA.out
    clear HA
    simp only [impl_Node_fault.l0] at H
    by_cases c33 : x49_1 < (l0_6.length : Int)
    rotate_left
    ·rw [if_neg c33] at H
     have c33b0 := decide_eq_false c33
     clear c33
     obtain rfl := Option.some.inj H
     go_wp2
     repeat (go_quiet (fail); try go_wp2)
     go_ret
     exact ⟨ce_, cB1_ GE312.out⟩
    rw [if_pos c33] at H
    have c33b0 := decide_eq_true c33
    clear c33
    by_cases c34 : 0 ≤ x49_1
    rotate_left
    ·rw [if_neg c34] at H
     exact absurd H (by simp)
    rw [if_pos c34] at H
    have c34b0 := decide_eq_true c34
    clear c34
    by_cases c35 : x49_1 < (l0_6.length : Int)
    rotate_left
    ·rw [if_neg c35] at H
     exact absurd H (by simp)
    rw [if_pos c35] at H
    have c35b0 := decide_eq_true c35
    clear c35
    by_cases c36 : 0 ≤ a0_1
    rotate_left
    ·rw [if_neg c36] at H
     exact absurd H (by simp)
    rw [if_pos c36] at H
    have c36b0 := decide_eq_true c36
    clear c36
    by_cases c37 : a0_1 < (l1.length : Int)
    rotate_left
    ·rw [if_neg c37] at H
     exact absurd H (by simp)
    rw [if_pos c37] at H
    have c37b0 := decide_eq_true c37
    clear c37
    obtain ⟨t322, A38, H⟩ := bnd_ H
    try dsimp only at H
    by_cases c39 : t322 = true
    ·subst c39
     rw [if_pos rfl] at H
     have H' := Aside0.mk H
     clear H
     have p320 : 0 ≤ (x49_1 : Int) := cd_
     have q320 : x49_1 < (l0_6.length : Int) := cd_
     obtain ⟨ad320, e320, hx320_0⟩ := Kd.at_int HR0_6.out x49_1 p320 q320
     cases e320
     replace hx320_0 := pw_cell_below HB.out hx320_0
     replace p320 := eq_true p320
     replace q320 := eq_true q320
     obtain ⟨_, _, _, _, _, _, _, _, _, _, _, _, _, _⟩ := cells7 BK312.out
     have p321 : 0 ≤ (a0_1 : Int) := cd_
     have q321 : a0_1 < (l1.length : Int) := cd_
     obtain ⟨ad321, e321, hx321_0⟩ := Kd.at_int HR1.out a0_1 p321 q321
     cases e321
     replace hx321_0 := pw_cell_below HB.out hx321_0
     replace p321 := eq_true p321
     replace q321 := eq_true q321
     go_wp2_with (first | (go_at_call 40; (with_reducible refine (impl_in.calls (rd l0_6 x49_1) 0 (wrap64 ((rd l1 a0_1) - 1)) true _ A38.out).mono ?_); rintro e w' ⟨rfl, ⟨nd, rfl⟩⟩; (try exact b12_1)))
     repeat (go_quiet (fail); try go_wp2)
     go_roundg k1
     case measure => have := HK1.out; omega
     case rel => exact ⟨(wrap64 (x49_1 + 1)), cs_, H', ⟨co_ HK1.out⟩, ⟨cO_ BK312.out⟩, ⟨cB1_ GE312.out⟩⟩
    replace c39 := Bool.eq_false_iff.mpr c39
    subst c39
    rw [if_neg (show ¬ (false = true) by decide)] at H
    obtain rfl := Option.some.inj H
    have p320 : 0 ≤ (x49_1 : Int) := cd_
    have q320 : x49_1 < (l0_6.length : Int) := cd_
    obtain ⟨ad320, e320, hx320_0⟩ := Kd.at_int HR0_6.out x49_1 p320 q320
    cases e320
    replace hx320_0 := pw_cell_below HB.out hx320_0
    replace p320 := eq_true p320
    replace q320 := eq_true q320
    obtain ⟨_, _, _, _, _, _, _, _, _, _, _, _, _, _⟩ := cells7 BK312.out
    have p321 : 0 ≤ (a0_1 : Int) := cd_
    have q321 : a0_1 < (l1.length : Int) := cd_
    obtain ⟨ad321, e321, hx321_0⟩ := Kd.at_int HR1.out a0_1 p321 q321
    cases e321
    replace hx321_0 := pw_cell_below HB.out hx321_0
    replace p321 := eq_true p321
    replace q321 := eq_true q321
    go_wp2_with (first | (go_at_call 40; (with_reducible refine (impl_in.calls (rd l0_6 x49_1) 0 (wrap64 ((rd l1 a0_1) - 1)) false _ A38.out).mono ?_); rintro e w' ⟨rfl, ⟨nd, rfl⟩⟩; (try exact b12_1)))
    repeat (go_quiet (fail); try go_wp2)
    go_ret
    exact ⟨ce_, cB1_ GE312.out⟩
 rw [if_neg c27] at H
 have c27b0 : (a0_0 == 3) = false := beq_eq_false_iff_ne.mpr c27
 have c27b1 : (a0_0 != 3) = true := bne_iff_ne.mpr c27
 by_cases c44 : a0_0 = 4
 ·rw [if_pos c44] at H
  have c44b0 : (a0_0 == 4) = true := beq_iff_eq.mpr c44
  have c44b1 : (a0_0 != 4) = false := bne_eq_false_iff_eq.mpr c44
  clear c44
  by_cases c45 : 0 ≤ a0_1
  rotate_left
  ·rw [if_neg c45] at H
   exact absurd H (by simp)
  rw [if_pos c45] at H
  have c45b0 := decide_eq_true c45
  clear c45
  by_cases c46 : a0_1 < (l1.length : Int)
  rotate_left
  ·rw [if_neg c46] at H
   exact absurd H (by simp)
  rw [if_pos c46] at H
  have c46b0 := decide_eq_true c46
  clear c46
  by_cases c47 : 0 ≤ a0_2
  rotate_left
  ·rw [if_neg c47] at H
   exact absurd H (by simp)
  rw [if_pos c47] at H
  have c47b0 := decide_eq_true c47
  clear c47
  by_cases c48 : a0_2 < (l1.length : Int)
  rotate_left
  ·rw [if_neg c48] at H
   exact absurd H (by simp)
  rw [if_pos c48] at H
  have c48b0 := decide_eq_true c48
  clear c48
  by_cases c49 : (rd l1 a0_1) = (rd l1 a0_2)
  ·rw [if_pos c49] at H
   have c49b0 : ((rd l1 a0_1) == (rd l1 a0_2)) = true := beq_iff_eq.mpr c49
   have c49b1 : ((rd l1 a0_1) != (rd l1 a0_2)) = false := bne_eq_false_iff_eq.mpr c49
   clear c49
   obtain rfl := Option.some.inj H
   go_enter Tryz.func45, Tryz.ntmps45
   go_wp2_with (first | (refine bx_ 2 #[.int .i64 a0_0, .int .i64 a0_1, .int .i64 a0_2, .int .i64 a0_3, .int .i64 a0_4, .int .i64 a0_5, .slice A0_6 l0_6.length c0_6] 36 ?_; intro gb312 hg w50 hbox hb; have BK312 := Aside0.mk (hbox); have GW312 := Aside0.mk ((by rw [hg]; exact (below_size cB0_) : w.heap.size ≤ gb312)); have GE312 := Aside0.mk ((by rw [hg]; exact (below_size cB0_) : w.heap.size ≤ gb312)); replace HB := Aside0.mk (below_step cB0_ hb); clear hb hbox hg; obtain ⟨_, _, _, _, _, _, _, _, _, _, _, _, _, _⟩ := cells7 BK312.out; have p323 : 0 ≤ (a0_1 : Int) := cd_; have q323 : a0_1 < (l1.length : Int) := cd_; obtain ⟨ad323, e323, hx323_0⟩ := Kd.at_int HR1.out a0_1 p323 q323; cases e323; replace hx323_0 := pw_cell_below HB.out hx323_0; replace p323 := eq_true p323; replace q323 := eq_true q323; have p324 : 0 ≤ (a0_2 : Int) := cd_; have q324 : a0_2 < (l1.length : Int) := cd_; obtain ⟨ad324, e324, hx324_0⟩ := Kd.at_int HR1.out a0_2 p324 q324; obtain rfl : ad323 = ad324 := (by injection e324); replace hx324_0 := pw_cell_below HB.out hx324_0; replace p324 := eq_true p324; replace q324 := eq_true q324))
   repeat (go_quiet (fail); try go_wp2)
   go_ret
   exact ⟨ce_, cB1_ GE312.out⟩
  rw [if_neg c49] at H
  have c49b0 : ((rd l1 a0_1) == (rd l1 a0_2)) = false := beq_eq_false_iff_ne.mpr c49
  have c49b1 : ((rd l1 a0_1) != (rd l1 a0_2)) = true := bne_iff_ne.mpr c49
  obtain rfl := Option.some.inj H
  go_enter Tryz.func45, Tryz.ntmps45
  go_wp2_with (first | (refine bx_ 2 #[.int .i64 a0_0, .int .i64 a0_1, .int .i64 a0_2, .int .i64 a0_3, .int .i64 a0_4, .int .i64 a0_5, .slice A0_6 l0_6.length c0_6] 36 ?_; intro gb312 hg w52 hbox hb; have BK312 := Aside0.mk (hbox); have GW312 := Aside0.mk ((by rw [hg]; exact (below_size cB0_) : w.heap.size ≤ gb312)); have GE312 := Aside0.mk ((by rw [hg]; exact (below_size cB0_) : w.heap.size ≤ gb312)); replace HB := Aside0.mk (below_step cB0_ hb); clear hb hbox hg; obtain ⟨_, _, _, _, _, _, _, _, _, _, _, _, _, _⟩ := cells7 BK312.out; have p323 : 0 ≤ (a0_1 : Int) := cd_; have q323 : a0_1 < (l1.length : Int) := cd_; obtain ⟨ad323, e323, hx323_0⟩ := Kd.at_int HR1.out a0_1 p323 q323; cases e323; replace hx323_0 := pw_cell_below HB.out hx323_0; replace p323 := eq_true p323; replace q323 := eq_true q323; have p324 : 0 ≤ (a0_2 : Int) := cd_; have q324 : a0_2 < (l1.length : Int) := cd_; obtain ⟨ad324, e324, hx324_0⟩ := Kd.at_int HR1.out a0_2 p324 q324; obtain rfl : ad323 = ad324 := (by injection e324); replace hx324_0 := pw_cell_below HB.out hx324_0; replace p324 := eq_true p324; replace q324 := eq_true q324))
  repeat (go_quiet (fail); try go_wp2)
  go_ret
  exact ⟨ce_, cB1_ GE312.out⟩
 rw [if_neg c44] at H
 have c44b0 : (a0_0 == 4) = false := beq_eq_false_iff_ne.mpr c44
 have c44b1 : (a0_0 != 4) = true := bne_iff_ne.mpr c44
 by_cases c54 : a0_0 = 6
 ·rw [if_pos c54] at H
  have c54b0 : (a0_0 == 6) = true := beq_iff_eq.mpr c54
  have c54b1 : (a0_0 != 6) = false := bne_eq_false_iff_eq.mpr c54
  clear c54
  by_cases c55 : 0 ≤ a0_1
  rotate_left
  ·rw [if_neg c55] at H
   exact absurd H (by simp)
  rw [if_pos c55] at H
  have c55b0 := decide_eq_true c55
  clear c55
  by_cases c56 : a0_1 < (l1.length : Int)
  rotate_left
  ·rw [if_neg c56] at H
   exact absurd H (by simp)
  rw [if_pos c56] at H
  have c56b0 := decide_eq_true c56
  clear c56
  by_cases c57 : 0 ≤ a0_2
  rotate_left
  ·rw [if_neg c57] at H
   exact absurd H (by simp)
  rw [if_pos c57] at H
  have c57b0 := decide_eq_true c57
  clear c57
  by_cases c58 : a0_2 < (l1.length : Int)
  rotate_left
  ·rw [if_neg c58] at H
   exact absurd H (by simp)
  rw [if_pos c58] at H
  have c58b0 := decide_eq_true c58
  clear c58
  obtain ⟨ji59, hji59⟩ : ∃ j_ : Int, (mn (rd l1 a0_1) (rd l1 a0_2)) = j_ := ⟨_, rfl⟩
  replace H : ((impl_in.f a0_3 1 (ji59)).bind fun t327 => (if t327 = true then ((impl_Node_width.f a0_0 a0_1 a0_2 a0_3 a0_4 a0_5 l0_6 l1).bind fun t328 => (if t328 > 4 then (some 2) else (some 0))) else (some 3))) = some r := by first | (rw [hji59] at H; exact H) | (simp only [hji59] at H ⊢; exact H)
  have hji59_ : (if (rd l1 a0_2) < (rd l1 a0_1) then (rd l1 a0_2) else (rd l1 a0_1)) = ji59 := hji59
  obtain ⟨t327, A60, H⟩ := bnd_ H
  try dsimp only at H
  by_cases c61 : t327 = true
  rotate_left
  ·replace c61 := Bool.eq_false_iff.mpr c61
   subst c61
   rw [if_neg (show ¬ (false = true) by decide)] at H
   obtain rfl := Option.some.inj H
   go_enter Tryz.func45, Tryz.ntmps45
   go_wp2_with (first | (refine bx_ 2 #[.int .i64 a0_0, .int .i64 a0_1, .int .i64 a0_2, .int .i64 a0_3, .int .i64 a0_4, .int .i64 a0_5, .slice A0_6 l0_6.length c0_6] 36 ?_; intro gb312 hg w70 hbox hb; have BK312 := Aside0.mk (hbox); have GW312 := Aside0.mk ((by rw [hg]; exact (below_size cB0_) : w.heap.size ≤ gb312)); have GE312 := Aside0.mk ((by rw [hg]; exact (below_size cB0_) : w.heap.size ≤ gb312)); replace HB := Aside0.mk (below_step cB0_ hb); clear hb hbox hg; obtain ⟨_, _, _, _, _, _, _, _, _, _, _, _, _, _⟩ := cells7 BK312.out; have p325 : 0 ≤ (a0_1 : Int) := cd_; have q325 : a0_1 < (l1.length : Int) := cd_; obtain ⟨ad325, e325, hx325_0⟩ := Kd.at_int HR1.out a0_1 p325 q325; cases e325; replace hx325_0 := pw_cell_below HB.out hx325_0; replace p325 := eq_true p325; replace q325 := eq_true q325; have p326 : 0 ≤ (a0_2 : Int) := cd_; have q326 : a0_2 < (l1.length : Int) := cd_; obtain ⟨ad326, e326, hx326_0⟩ := Kd.at_int HR1.out a0_2 p326 q326; obtain rfl : ad325 = ad326 := (by injection e326); replace hx326_0 := pw_cell_below HB.out hx326_0; replace p326 := eq_true p326; replace q326 := eq_true q326))
   repeat (go_quiet (first | (go_at_call 40; (with_reducible refine (impl_in.calls a0_3 1 ji59 false _ A60.out).mono ?_); rintro e w' ⟨rfl, ⟨nd, rfl⟩⟩; (try exact b12_1))); try go_wp2)
   go_ret
   exact ⟨q12_0, cB1_ GE312.out⟩
  subst c61
  rw [if_pos rfl] at H
  obtain ⟨t328, A62, H⟩ := bnd_ H
  try dsimp only at H
  by_cases c63 : t328 > 4
  ·rw [if_pos c63] at H
   have c63b0 : decide (4 < t328) = true := decide_eq_true c63
   clear c63
   obtain rfl := Option.some.inj H
   go_enter Tryz.func45, Tryz.ntmps45
   go_wp2_with (first | (refine bx_ 2 #[.int .i64 a0_0, .int .i64 a0_1, .int .i64 a0_2, .int .i64 a0_3, .int .i64 a0_4, .int .i64 a0_5, .slice A0_6 l0_6.length c0_6] 36 ?_; intro gb312 hg w64 hbox hb; have BK312 := Aside0.mk (hbox); have GW312 := Aside0.mk ((by rw [hg]; exact (below_size cB0_) : w.heap.size ≤ gb312)); have GE312 := Aside0.mk ((by rw [hg]; exact (below_size cB0_) : w.heap.size ≤ gb312)); replace HB := Aside0.mk (below_step cB0_ hb); clear hb hbox hg; obtain ⟨_, _, _, _, _, _, _, _, _, _, _, _, _, _⟩ := cells7 BK312.out; have p325 : 0 ≤ (a0_1 : Int) := cd_; have q325 : a0_1 < (l1.length : Int) := cd_; obtain ⟨ad325, e325, hx325_0⟩ := Kd.at_int HR1.out a0_1 p325 q325; cases e325; replace hx325_0 := pw_cell_below HB.out hx325_0; replace p325 := eq_true p325; replace q325 := eq_true q325; have p326 : 0 ≤ (a0_2 : Int) := cd_; have q326 : a0_2 < (l1.length : Int) := cd_; obtain ⟨ad326, e326, hx326_0⟩ := Kd.at_int HR1.out a0_2 p326 q326; obtain rfl : ad325 = ad326 := (by injection e326); replace hx326_0 := pw_cell_below HB.out hx326_0; replace p326 := eq_true p326; replace q326 := eq_true q326))
   repeat (go_quiet (first | (go_at_call 40; (with_reducible refine (impl_in.calls a0_3 1 ji59 true _ A60.out).mono ?_); rintro e w' ⟨rfl, ⟨nd, rfl⟩⟩; (try exact b12_1))); try go_wp2_with (first | (go_at_call 46; (with_reducible refine (impl_Node_width.calls a0_0 a0_1 a0_2 a0_3 a0_4 a0_5 _ _ l0_6 _ _ l1 t328 _ ?side1 ?side2 ?side3 ?side4 A62.out).mono ?_); (case side1 => exact b12_5); (case side2 => exact HC0_6.out); (case side3 => exact b12_6); (case side4 => exact HC1.out); rintro e w66 ⟨rfl, hb⟩; replace BK312 := Aside0.mk (blk_below (g := gb312) (o := .cells #[.int .i64 a0_0, .int .i64 a0_1, .int .i64 a0_2, .int .i64 a0_3, .int .i64 a0_4, .int .i64 a0_5, .slice A0_6 l0_6.length c0_6] 36 (0, 0)) (cO_ BK312.out) hb); replace HB := Aside0.mk (below_step b12_3 hb); (try clear hb))))
   go_ret
   exact ⟨q12_0, cB1_ GE312.out⟩
  rw [if_neg c63] at H
  have c63b0 : decide (4 < t328) = false := decide_eq_false c63
  clear c63
  obtain rfl := Option.some.inj H
  go_enter Tryz.func45, Tryz.ntmps45
  go_wp2_with (first | (refine bx_ 2 #[.int .i64 a0_0, .int .i64 a0_1, .int .i64 a0_2, .int .i64 a0_3, .int .i64 a0_4, .int .i64 a0_5, .slice A0_6 l0_6.length c0_6] 36 ?_; intro gb312 hg w67 hbox hb; have BK312 := Aside0.mk (hbox); have GW312 := Aside0.mk ((by rw [hg]; exact (below_size cB0_) : w.heap.size ≤ gb312)); have GE312 := Aside0.mk ((by rw [hg]; exact (below_size cB0_) : w.heap.size ≤ gb312)); replace HB := Aside0.mk (below_step cB0_ hb); clear hb hbox hg; obtain ⟨_, _, _, _, _, _, _, _, _, _, _, _, _, _⟩ := cells7 BK312.out; have p325 : 0 ≤ (a0_1 : Int) := cd_; have q325 : a0_1 < (l1.length : Int) := cd_; obtain ⟨ad325, e325, hx325_0⟩ := Kd.at_int HR1.out a0_1 p325 q325; cases e325; replace hx325_0 := pw_cell_below HB.out hx325_0; replace p325 := eq_true p325; replace q325 := eq_true q325; have p326 : 0 ≤ (a0_2 : Int) := cd_; have q326 : a0_2 < (l1.length : Int) := cd_; obtain ⟨ad326, e326, hx326_0⟩ := Kd.at_int HR1.out a0_2 p326 q326; obtain rfl : ad325 = ad326 := (by injection e326); replace hx326_0 := pw_cell_below HB.out hx326_0; replace p326 := eq_true p326; replace q326 := eq_true q326))
  repeat (go_quiet (first | (go_at_call 40; (with_reducible refine (impl_in.calls a0_3 1 ji59 true _ A60.out).mono ?_); rintro e w' ⟨rfl, ⟨nd, rfl⟩⟩; (try exact b12_1))); try go_wp2_with (first | (go_at_call 46; (with_reducible refine (impl_Node_width.calls a0_0 a0_1 a0_2 a0_3 a0_4 a0_5 _ _ l0_6 _ _ l1 t328 _ ?side1 ?side2 ?side3 ?side4 A62.out).mono ?_); (case side1 => exact b12_5); (case side2 => exact HC0_6.out); (case side3 => exact b12_6); (case side4 => exact HC1.out); rintro e w69 ⟨rfl, hb⟩; replace BK312 := Aside0.mk (blk_below (g := gb312) (o := .cells #[.int .i64 a0_0, .int .i64 a0_1, .int .i64 a0_2, .int .i64 a0_3, .int .i64 a0_4, .int .i64 a0_5, .slice A0_6 l0_6.length c0_6] 36 (0, 0)) (cO_ BK312.out) hb); replace HB := Aside0.mk (below_step b12_3 hb); (try clear hb))))
  go_ret
  exact ⟨q12_0, cB1_ GE312.out⟩
 rw [if_neg c54] at H
 have c54b0 : (a0_0 == 6) = false := beq_eq_false_iff_ne.mpr c54
 have c54b1 : (a0_0 != 6) = true := bne_iff_ne.mpr c54
 by_cases c72 : a0_0 = 7
 ·rw [if_pos c72] at H
  have c72b0 : (a0_0 == 7) = true := beq_iff_eq.mpr c72
  have c72b1 : (a0_0 != 7) = false := bne_eq_false_iff_eq.mpr c72
  clear c72
  by_cases c73 : 0 ≤ a0_1
  rotate_left
  ·rw [if_neg c73] at H
   exact absurd H (by simp)
  rw [if_pos c73] at H
  have c73b0 := decide_eq_true c73
  clear c73
  by_cases c74 : a0_1 < (l1.length : Int)
  rotate_left
  ·rw [if_neg c74] at H
   exact absurd H (by simp)
  rw [if_pos c74] at H
  have c74b0 := decide_eq_true c74
  clear c74
  obtain ⟨ji75, hji75⟩ : ∃ j_ : Int, (mn (rd l1 a0_1) 3) = j_ := ⟨_, rfl⟩
  replace H : ((impl_in.f a0_3 0 (ji75)).bind fun t330 => (if t330 = true then (some 0) else (some 3))) = some r := by first | (rw [hji75] at H; exact H) | (simp only [hji75] at H ⊢; exact H)
  (try (have hji75h : ji75 ≤ 3 := by (rw [← hji75]; unfold mn; (repeat' split) <;> omega)))
  (try (have hji75g : ji75 ≤ 64 := by omega))
  have hji75_ : (if 3 < (rd l1 a0_1) then 3 else (rd l1 a0_1)) = ji75 := hji75
  obtain ⟨t330, A76, H⟩ := bnd_ H
  try dsimp only at H
  by_cases c77 : t330 = true
  ·subst c77
   rw [if_pos rfl] at H
   obtain rfl := Option.some.inj H
   go_enter Tryz.func45, Tryz.ntmps45
   go_wp2_with (first | (refine bx_ 2 #[.int .i64 a0_0, .int .i64 a0_1, .int .i64 a0_2, .int .i64 a0_3, .int .i64 a0_4, .int .i64 a0_5, .slice A0_6 l0_6.length c0_6] 36 ?_; intro gb312 hg w78 hbox hb; have BK312 := Aside0.mk (hbox); have GW312 := Aside0.mk ((by rw [hg]; exact (below_size cB0_) : w.heap.size ≤ gb312)); have GE312 := Aside0.mk ((by rw [hg]; exact (below_size cB0_) : w.heap.size ≤ gb312)); replace HB := Aside0.mk (below_step cB0_ hb); clear hb hbox hg; obtain ⟨_, _, _, _, _, _, _, _, _, _, _, _, _, _⟩ := cells7 BK312.out; have p329 : 0 ≤ (a0_1 : Int) := cd_; have q329 : a0_1 < (l1.length : Int) := cd_; obtain ⟨ad329, e329, hx329_0⟩ := Kd.at_int HR1.out a0_1 p329 q329; cases e329; replace hx329_0 := pw_cell_below HB.out hx329_0; replace p329 := eq_true p329; replace q329 := eq_true q329))
   repeat (go_quiet (first | (go_at_call 40; (with_reducible refine (impl_in.calls a0_3 0 ji75 true _ A76.out).mono ?_); rintro e w' ⟨rfl, ⟨nd, rfl⟩⟩; (try exact b12_1))); try go_wp2)
   go_ret
   exact ⟨q12_1, cB1_ GE312.out⟩
  replace c77 := Bool.eq_false_iff.mpr c77
  subst c77
  rw [if_neg (show ¬ (false = true) by decide)] at H
  obtain rfl := Option.some.inj H
  go_enter Tryz.func45, Tryz.ntmps45
  go_wp2_with (first | (refine bx_ 2 #[.int .i64 a0_0, .int .i64 a0_1, .int .i64 a0_2, .int .i64 a0_3, .int .i64 a0_4, .int .i64 a0_5, .slice A0_6 l0_6.length c0_6] 36 ?_; intro gb312 hg w80 hbox hb; have BK312 := Aside0.mk (hbox); have GW312 := Aside0.mk ((by rw [hg]; exact (below_size cB0_) : w.heap.size ≤ gb312)); have GE312 := Aside0.mk ((by rw [hg]; exact (below_size cB0_) : w.heap.size ≤ gb312)); replace HB := Aside0.mk (below_step cB0_ hb); clear hb hbox hg; obtain ⟨_, _, _, _, _, _, _, _, _, _, _, _, _, _⟩ := cells7 BK312.out; have p329 : 0 ≤ (a0_1 : Int) := cd_; have q329 : a0_1 < (l1.length : Int) := cd_; obtain ⟨ad329, e329, hx329_0⟩ := Kd.at_int HR1.out a0_1 p329 q329; cases e329; replace hx329_0 := pw_cell_below HB.out hx329_0; replace p329 := eq_true p329; replace q329 := eq_true q329))
  repeat (go_quiet (first | (go_at_call 40; (with_reducible refine (impl_in.calls a0_3 0 ji75 false _ A76.out).mono ?_); rintro e w' ⟨rfl, ⟨nd, rfl⟩⟩; (try exact b12_1))); try go_wp2)
  go_ret
  exact ⟨q12_1, cB1_ GE312.out⟩
 rw [if_neg c72] at H
 have c72b0 : (a0_0 == 7) = false := beq_eq_false_iff_ne.mpr c72
 have c72b1 : (a0_0 != 7) = true := bne_iff_ne.mpr c72
 have HC82 := Aside0.mk H
 clear H
 go_enter Tryz.func45, Tryz.ntmps45
 go_upto_if 109 with (first | (refine bx_ 2 #[.int .i64 a0_0, .int .i64 a0_1, .int .i64 a0_2, .int .i64 a0_3, .int .i64 a0_4, .int .i64 a0_5, .slice A0_6 l0_6.length c0_6] 36 ?_; intro gb312 hg w83 hbox hb; have BK312 := Aside0.mk (hbox); have GW312 := Aside0.mk ((by rw [hg]; exact (below_size cB0_) : w.heap.size ≤ gb312)); have GE312 := Aside0.mk ((by rw [hg]; exact (below_size cB0_) : w.heap.size ≤ gb312)); replace HB := Aside0.mk (below_step cB0_ hb); clear hb hbox hg; obtain ⟨hcz84_0, hcz84_1, hcz84_2, hcz84_3, hcz84_4, hcz84_5, hcz84_6, hfz84_0, hfz84_1, hfz84_2, hfz84_3, hfz84_4, hfz84_5, hfz84_6⟩ := cells7 BK312.out))
 repeat (go_quiet (fail); go_upto_if 109 with (first | (refine bx_ 2 #[.int .i64 a0_0, .int .i64 a0_1, .int .i64 a0_2, .int .i64 a0_3, .int .i64 a0_4, .int .i64 a0_5, .slice A0_6 l0_6.length c0_6] 36 ?_; intro gb312 hg w83 hbox hb; have BK312 := Aside0.mk (hbox); have GW312 := Aside0.mk ((by rw [hg]; exact (below_size cB0_) : w.heap.size ≤ gb312)); have GE312 := Aside0.mk ((by rw [hg]; exact (below_size cB0_) : w.heap.size ≤ gb312)); replace HB := Aside0.mk (below_step cB0_ hb); clear hb hbox hg; obtain ⟨hcz84_0, hcz84_1, hcz84_2, hcz84_3, hcz84_4, hcz84_5, hcz84_6, hfz84_0, hfz84_1, hfz84_2, hfz84_3, hfz84_4, hfz84_5, hfz84_6⟩ := cells7 BK312.out)))
 (try simp only [Act.put, List.setIfInBounds_toArray, List.set_cons_zero, List.set_cons_succ])
 go_cut [109] (fun v109 wc => ∃ (kq : Nat) (x109_81 : Bool), v109 = .bool x109_81 ∧ Aside0 (impl_Node_fault.j1 kq l1 x109_81 a0_0 a0_1 a0_2 a0_3 a0_4 a0_5 l0_6 = some r) ∧ Aside0 (kq ≤ k) ∧ Aside0 (wc.heap[gb312]? = some (.cells #[.int .i64 a0_0, .int .i64 a0_1, .int .i64 a0_2, .int .i64 a0_3, .int .i64 a0_4, .int .i64 a0_5, (.slice A0_6 l0_6.length c0_6)] 36 (0, 0))) ∧ Aside0 (Below w.heap.size w wc))
 case first =>
  have H := HC82.out
  clear HC82
  by_cases c85 : a0_0 = 8
  ·rw [if_pos c85] at H
   have c85b0 : (a0_0 == 8) = true := beq_iff_eq.mpr c85
   have c85b1 : (a0_0 != 8) = false := bne_eq_false_iff_eq.mpr c85
   clear c85
   (first | rw [c85b0] | (simp only [i64_w, i32_w]; rw [c85b0]) | skip)
   have H' := Aside0.mk H
   clear H
   go_wp2
   repeat (go_quiet (fail); try go_wp2)
   go_meet
   case rel => exact ⟨_, ((a0_0 == 8)), cs_, H', ⟨cm_⟩, ⟨cO_ BK312.out⟩, ⟨cB1_ GE312.out⟩⟩
  rw [if_neg c85] at H
  have c85b0 : (a0_0 == 8) = false := beq_eq_false_iff_ne.mpr c85
  have c85b1 : (a0_0 != 8) = true := bne_iff_ne.mpr c85
  (first | rw [c85b0] | (simp only [i64_w, i32_w]; rw [c85b0]) | skip)
  by_cases c86 : a0_0 = 9
  ·rw [if_pos c86] at H
   have c86b0 : (a0_0 == 9) = true := beq_iff_eq.mpr c86
   have c86b1 : (a0_0 != 9) = false := bne_eq_false_iff_eq.mpr c86
   clear c86
   have H' := Aside0.mk H
   clear H
   go_wp2
   repeat (go_quiet (fail); try go_wp2)
   go_meet
   case rel => exact ⟨_, ((a0_0 == 9)), cs_, H', ⟨cm_⟩, ⟨cO_ BK312.out⟩, ⟨cB1_ GE312.out⟩⟩
  rw [if_neg c86] at H
  have c86b0 : (a0_0 == 9) = false := beq_eq_false_iff_ne.mpr c86
  have c86b1 : (a0_0 != 9) = true := bne_iff_ne.mpr c86
  have H' := Aside0.mk H
  clear H
  go_wp2
  repeat (go_quiet (fail); try go_wp2)
  go_meet
  case rel => exact ⟨_, ((a0_0 == 10)), cs_, H', ⟨cm_⟩, ⟨cO_ BK312.out⟩, ⟨cB1_ GE312.out⟩⟩
 case rest =>
  clear HC82
  try clear c3
  try clear c3b0
  try clear c3b1
  try clear c10
  try clear c10b0
  try clear c10b1
  try clear c27
  try clear c27b0
  try clear c27b1
  try clear c44
  try clear c44b0
  try clear c44b1
  try clear c54
  try clear c54b0
  try clear c54b1
  try clear c72
  try clear c72b0
  try clear c72b1
  obtain ⟨kq, x109_81, rfl, HA, HJ81, BK312, HB⟩ := hcut
  cases kq with
  | zero => exact absurd HA.out (by simp [impl_Node_fault.j1])
  | succ kj81 =>
   have H := HA.out
   clear HA
   simp only [impl_Node_fault.j1] at H
   by_cases c87 : x109_81 = true
   rotate_left
   ·replace c87 := Bool.eq_false_iff.mpr c87
    subst c87
    rw [if_neg (show ¬ (false = true) by decide)] at H
    obtain rfl := Option.some.inj H
    go_wp2
    repeat (go_quiet (fail); try go_wp2)
    go_ret
    exact ⟨ce_, cB1_ GE312.out⟩
   subst c87
   rw [if_pos rfl] at H
   by_cases c88 : 0 ≤ a0_1
   rotate_left
   ·rw [if_neg c88] at H
    exact absurd H (by simp)
   rw [if_pos c88] at H
   have c88b0 := decide_eq_true c88
   clear c88
   by_cases c89 : a0_1 < (l1.length : Int)
   rotate_left
   ·rw [if_neg c89] at H
    exact absurd H (by simp)
   rw [if_pos c89] at H
   have c89b0 := decide_eq_true c89
   clear c89
   obtain ⟨t332, A90, H⟩ := bnd_ H
   try dsimp only at H
   by_cases c91 : t332 = true
   ·subst c91
    rw [if_pos rfl] at H
    obtain rfl := Option.some.inj H
    obtain ⟨_, _, _, _, _, _, _, _, _, _, _, _, _, _⟩ := cells7 BK312.out
    have p331 : 0 ≤ (a0_1 : Int) := cd_
    have q331 : a0_1 < (l1.length : Int) := cd_
    obtain ⟨ad331, e331, hx331_0⟩ := Kd.at_int HR1.out a0_1 p331 q331
    cases e331
    replace hx331_0 := pw_cell_below HB.out hx331_0
    replace p331 := eq_true p331
    replace q331 := eq_true q331
    go_wp2
    repeat (go_quiet (first | (go_at_call 40; (with_reducible refine (impl_in.calls a0_3 0 (wrap64 ((rd l1 a0_1) - 1)) true _ A90.out).mono ?_); rintro e w' ⟨rfl, ⟨nd, rfl⟩⟩; (try exact b12_1))); try go_wp2)
    go_ret
    exact ⟨ce_, cB1_ GE312.out⟩
   replace c91 := Bool.eq_false_iff.mpr c91
   subst c91
   rw [if_neg (show ¬ (false = true) by decide)] at H
   obtain rfl := Option.some.inj H
   obtain ⟨_, _, _, _, _, _, _, _, _, _, _, _, _, _⟩ := cells7 BK312.out
   have p331 : 0 ≤ (a0_1 : Int) := cd_
   have q331 : a0_1 < (l1.length : Int) := cd_
   obtain ⟨ad331, e331, hx331_0⟩ := Kd.at_int HR1.out a0_1 p331 q331
   cases e331
   replace hx331_0 := pw_cell_below HB.out hx331_0
   replace p331 := eq_true p331
   replace q331 := eq_true q331
   go_wp2
   repeat (go_quiet (first | (go_at_call 40; (with_reducible refine (impl_in.calls a0_3 0 (wrap64 ((rd l1 a0_1) - 1)) false _ A90.out).mono ?_); rintro e w' ⟨rfl, ⟨nd, rfl⟩⟩; (try exact b12_1))); try go_wp2)
   go_ret
   exact ⟨ce_, cB1_ GE312.out⟩

end Go.Proofs.YteibdjkfkcckkaaGreatDoor.PFnPlans
