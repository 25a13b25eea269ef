-- Written by fprint, a program of this session, out of Lean's own print of the translation. Lean checks it.
import Derived.Test.YteibdjkfkcckkaaGreatDoorDense
import Derived.Test.YteibdjkfkcckkaaGreatDoorShort
import Derived.Test.YteibdjkfkcckkaaGreatDoorPFnPlansx0
namespace Go.Proofs.YteibdjkfkcckkaaGreatDoor.PFnPlans
open Go.RowKit Go.Proofs.YteibdjkfkcckkaaGreatDoorW.PrintWords Go.Proofs.YteibdjkfkcckkaaGreatDoorW.PrintLast Go.Proofs.YteibdjkfkcckkaaGreatDoorW.PrintMore
attribute [local go_sem] max2_int min2_int max_two min_two max_three min_three max_four min_four
set_option linter.unusedVariables false
set_option maxHeartbeats 8000000
set_option maxRecDepth 100000
set_option linter.unusedSimpArgs false

/-! ### spec_l3Width: function 38 -/
def spec_l3Width.f : Nat → List (S36) → Int → Option (Int)
 | 0, _, _ => none
 | k + 1, l0, a1 => if 0 ≤ a1 then (if a1 < (l0.length : Int) then (if ((rd_T36 l0 a1).f0) = 1 then (some ((rd_T36 l0 a1).f3)) else (if ((rd_T36 l0 a1).f0) = 3 then (some (((rd_T36 l0 a1).f6).length : Int)) else (if ((rd_T36 l0 a1).f0) = 6 then ((spec_l3Width.f k l0 ((rd_T36 l0 a1).f1)).bind fun t107 => ((spec_l3Width.f k l0 ((rd_T36 l0 a1).f2)).bind fun t108 => (some (wrap64 ((wrap64 (t107 + t108)) - ((rd_T36 l0 a1).f3)))))) else (if ((rd_T36 l0 a1).f0) = 7 then (some (wrap64 (((rd_T36 l0 a1).f3) + 1))) else (if ((rd_T36 l0 a1).f0) = 8 then (some (wrap64 (((rd_T36 l0 a1).f3) + 1))) else (if ((rd_T36 l0 a1).f0) = 9 then (some (wrap64 (((rd_T36 l0 a1).f3) + 1))) else (if ((rd_T36 l0 a1).f0) = 10 then (some (wrap64 (((rd_T36 l0 a1).f3) + 1))) else ((spec_l3Width.f k l0 ((rd_T36 l0 a1).f1)).bind fun t109 => (some t109))))))))) else (none)) else (none)
theorem spec_l3Width.mono_l : ∀ k, (∀ y0 y1, LeO (spec_l3Width.f k y0 y1) (spec_l3Width.f (k + 1) y0 y1))
 | 0 => fun _ _ r h => by simp [spec_l3Width.f] at h
 | k + 1 => by
  have ih0 := spec_l3Width.mono_l k
  ·intro y0 y1
   unfold spec_l3Width.f
   repeat' first
   | (with_reducible exact ih0 _ _)
   | (with_reducible exact LeO.refl _)
   | (with_reducible exact LeO.none _)
   | (with_reducible refine LeO.ite ?_ ?_)
   | (with_reducible refine LeO.bind ?_ (fun _ => ?_))
   | refine LeO.ite ?_ ?_
   | refine LeO.bind ?_ (fun _ => ?_)
theorem spec_l3Width.mono : ∀ a0 a1 k, LeO (spec_l3Width.f k a0 a1) (spec_l3Width.f (k + 1) a0 a1) := by
 intro a0 a1 k
 have ih0 := spec_l3Width.mono_l k
 exact ih0 a0 a1
def spec_l3Width.T8 : Bool × List (List Nat × List Nat) := (true, [([], []), ([], []), ([1], [1]), ([0, 2], [0, 2]), ([], []), ([], []), ([5], [5]), ([4, 6, 3], [4, 6]), ([3, 7], [3, 7]), ([], []), ([9], [9]), ([8, 10], [8, 10]), ([11, 7, 0, 1, 2, 3, 4, 5, 6, 7, 8, 9, 10, 11], [11])])
def spec_l3Width.B8 : List Nat := [0, 0, 2, 7, 0, 0, 32, 127, 255, 0, 512, 2047, 4095]
theorem spec_l3Width.tab8 : rtab .any (opsOf Tryz.f38 8) = spec_l3Width.T8 := by kernel_rfl
theorem spec_l3Width.bits8 : waitsOk spec_l3Width.T8.2 spec_l3Width.B8 = true := by kernel_rfl
theorem spec_l3Width.calls (k : Nat) : ∀ (A0 : Option Addr) (c0 : Nat) (l0 : List (S36)) (a1 : Int) (r : Int) (w : World) (hr0 : Kd.C k36 w A0 l0.length l0) (hc0 : l0.length ≤ c0) (h : spec_l3Width.f k l0 a1 = some r),
  Calls Tryz.prog 38 #[.slice A0 l0.length c0, .int .i64 a1] w fun e w' => e = .returned (.int .i64 r) ∧ Below w.heap.size w w' := by
 induction k using Nat.strongRecOn with
 | _ k ih =>
 intro A0 c0 l0 a1 r w hr0 hc0 h
 cases k with
 | zero => exact absurd h (by simp [spec_l3Width.f])
 | succ k =>
 simp only [spec_l3Width.f] at h
 have hu36 := Tryz.underlying36
 have HR0 := Aside0.mk hr0
 have HC0 := Aside0.mk hc0
 clear hr0 hc0
 have HB := Aside0.mk (Below.refl w.heap.size w)
 have H : (if 0 ≤ a1 then (if a1 < (l0.length : Int) then (if ((rd_T36 l0 a1).f0) = 1 then (some ((rd_T36 l0 a1).f3)) else (if ((rd_T36 l0 a1).f0) = 3 then (some (((rd_T36 l0 a1).f6).length : Int)) else (if ((rd_T36 l0 a1).f0) = 6 then ((spec_l3Width.f k l0 ((rd_T36 l0 a1).f1)).bind fun t107 => ((spec_l3Width.f k l0 ((rd_T36 l0 a1).f2)).bind fun t108 => (some (wrap64 ((wrap64 (t107 + t108)) - ((rd_T36 l0 a1).f3)))))) else (if ((rd_T36 l0 a1).f0) = 7 then (some (wrap64 (((rd_T36 l0 a1).f3) + 1))) else (if ((rd_T36 l0 a1).f0) = 8 then (some (wrap64 (((rd_T36 l0 a1).f3) + 1))) else (if ((rd_T36 l0 a1).f0) = 9 then (some (wrap64 (((rd_T36 l0 a1).f3) + 1))) else (if ((rd_T36 l0 a1).f0) = 10 then (some (wrap64 (((rd_T36 l0 a1).f3) + 1))) else ((spec_l3Width.f k l0 ((rd_T36 l0 a1).f1)).bind fun t109 => (some t109))))))))) else (none)) else (none)) = some r := h
 clear h
 by_cases c3 : 0 ≤ a1
 rotate_left
 ·rw [if_neg c3] at H
  exact absurd H (by simp)
 rw [if_pos c3] at H
 have c3b0 := decide_eq_true c3
 clear c3
 by_cases c4 : a1 < (l0.length : Int)
 rotate_left
 ·rw [if_neg c4] at H
  exact absurd H (by simp)
 rw [if_pos c4] at H
 have c4b0 := decide_eq_true c4
 clear c4
 by_cases c5 : ((rd_T36 l0 a1).f0) = 1
 ·rw [if_pos c5] at H
  have c5b0 : (((rd_T36 l0 a1).f0) == 1) = true := beq_iff_eq.mpr c5
  have c5b1 : (((rd_T36 l0 a1).f0) != 1) = false := bne_eq_false_iff_eq.mpr c5
  clear c5
  obtain rfl := Option.some.inj H
  have p105 : 0 ≤ (a1 : Int) := cd_
  have q105 : a1 < (l0.length : Int) := cd_
  obtain ⟨ad105, A105_6, c105_6, e105, hx105_0, hx105_1, hx105_2, hx105_3, hx105_4, hx105_5, hx105_6, hl105_6, hi105_6⟩ := at_T36 HR0.out a1 p105 q105
  cases e105
  have HR105_6 := Aside0.mk hi105_6
  have HC105_6 := Aside0.mk hl105_6
  clear hi105_6 hl105_6
  replace p105 := eq_true p105
  replace q105 := eq_true q105
  go_enter Tryz.func38, Tryz.ntmps38
  go_wp2_with (first | (refine bx_ 5 #[.int .i64 0, .int .i64 0, .int .i64 0, .int .i64 0, .int .i64 0, .int .i64 0, .slice none 0 0] 36 ?_; intro gb106 hg w6 hbox hb; have BK106 := Aside0.mk (hbox); have GW106 := Aside0.mk ((by rw [hg]; exact (below_size cB0_) : w.heap.size ≤ gb106)); have GE106 := Aside0.mk ((by rw [hg]; exact (below_size cB0_) : w.heap.size ≤ gb106)); replace HB := Aside0.mk (below_step cB0_ hb); clear hb hbox hg; obtain ⟨_, _, _, _, _, _, _, _, _, _, _, _, _, _⟩ := cells7 BK106.out))
  go_ret
  exact ⟨ce_, cB1_ GE106.out⟩
 rw [if_neg c5] at H
 have c5b0 : (((rd_T36 l0 a1).f0) == 1) = false := beq_eq_false_iff_ne.mpr c5
 have c5b1 : (((rd_T36 l0 a1).f0) != 1) = true := bne_iff_ne.mpr c5
 by_cases c8 : ((rd_T36 l0 a1).f0) = 3
 ·rw [if_pos c8] at H
  have c8b0 : (((rd_T36 l0 a1).f0) == 3) = true := beq_iff_eq.mpr c8
  have c8b1 : (((rd_T36 l0 a1).f0) != 3) = false := bne_eq_false_iff_eq.mpr c8
  clear c8
  obtain rfl := Option.some.inj H
  have p105 : 0 ≤ (a1 : Int) := cd_
  have q105 : a1 < (l0.length : Int) := cd_
  obtain ⟨ad105, A105_6, c105_6, e105, hx105_0, hx105_1, hx105_2, hx105_3, hx105_4, hx105_5, hx105_6, hl105_6, hi105_6⟩ := at_T36 HR0.out a1 p105 q105
  cases e105
  have HR105_6 := Aside0.mk hi105_6
  have HC105_6 := Aside0.mk hl105_6
  clear hi105_6 hl105_6
  replace p105 := eq_true p105
  replace q105 := eq_true q105
  go_enter Tryz.func38, Tryz.ntmps38
  go_wp2_with (first | (refine bx_ 5 #[.int .i64 0, .int .i64 0, .int .i64 0, .int .i64 0, .int .i64 0, .int .i64 0, .slice none 0 0] 36 ?_; intro gb106 hg w9 hbox hb; have BK106 := Aside0.mk (hbox); have GW106 := Aside0.mk ((by rw [hg]; exact (below_size cB0_) : w.heap.size ≤ gb106)); have GE106 := Aside0.mk ((by rw [hg]; exact (below_size cB0_) : w.heap.size ≤ gb106)); replace HB := Aside0.mk (below_step cB0_ hb); clear hb hbox hg; obtain ⟨_, _, _, _, _, _, _, _, _, _, _, _, _, _⟩ := cells7 BK106.out))
  go_ret
  exact ⟨ce_, cB1_ GE106.out⟩
 rw [if_neg c8] at H
 have c8b0 : (((rd_T36 l0 a1).f0) == 3) = false := beq_eq_false_iff_ne.mpr c8
 have c8b1 : (((rd_T36 l0 a1).f0) != 3) = true := bne_iff_ne.mpr c8
 by_cases c11 : ((rd_T36 l0 a1).f0) = 6
 ·rw [if_pos c11] at H
  have c11b0 : (((rd_T36 l0 a1).f0) == 6) = true := beq_iff_eq.mpr c11
  have c11b1 : (((rd_T36 l0 a1).f0) != 6) = false := bne_eq_false_iff_eq.mpr c11
  clear c11
  obtain ⟨t107, A12, H⟩ := bnd_ H
  try dsimp only at H
  obtain ⟨t108, A13, H⟩ := bnd_ H
  try dsimp only at H
  obtain rfl := Option.some.inj H
  have p105 : 0 ≤ (a1 : Int) := cd_
  have q105 : a1 < (l0.length : Int) := cd_
  obtain ⟨ad105, A105_6, c105_6, e105, hx105_0, hx105_1, hx105_2, hx105_3, hx105_4, hx105_5, hx105_6, hl105_6, hi105_6⟩ := at_T36 HR0.out a1 p105 q105
  cases e105
  have HR105_6 := Aside0.mk hi105_6
  have HC105_6 := Aside0.mk hl105_6
  clear hi105_6 hl105_6
  replace p105 := eq_true p105
  replace q105 := eq_true q105
  go_enter Tryz.func38, Tryz.ntmps38
  try go_wp2_with (first | (refine bx_ 5 #[.int .i64 0, .int .i64 0, .int .i64 0, .int .i64 0, .int .i64 0, .int .i64 0, .slice none 0 0] 36 ?_; intro gb106 hg w14 hbox hb; have BK106 := Aside0.mk (hbox); have GW106 := Aside0.mk ((by rw [hg]; exact (below_size cB0_) : w.heap.size ≤ gb106)); have GE106 := Aside0.mk ((by rw [hg]; exact (below_size cB0_) : w.heap.size ≤ gb106)); replace HB := Aside0.mk (below_step cB0_ hb); clear hb hbox hg; obtain ⟨_, _, _, _, _, _, _, _, _, _, _, _, _, _⟩ := cells7 BK106.out))
  have n0_ : Aside0 ((((((((w14.setCell ⟨gb106, 0, none⟩ (.int .i64 ((rd_T36 l0 a1).f0))).setCell ⟨gb106, 1, none⟩ (.int .i64 ((rd_T36 l0 a1).f1))).setCell ⟨gb106, 2, none⟩ (.int .i64 ((rd_T36 l0 a1).f2))).setCell ⟨gb106, 3, none⟩ (.int .i64 ((rd_T36 l0 a1).f3))).setCell ⟨gb106, 4, none⟩ (.int .i64 ((rd_T36 l0 a1).f4))).setCell ⟨gb106, 5, none⟩ (.int .i64 ((rd_T36 l0 a1).f5))).setCell ⟨gb106, 6, none⟩ (.slice A105_6 ((rd_T36 l0 a1).f6).length c105_6)).heap[gb106]? = some (.cells #[.int .i64 ((rd_T36 l0 a1).f0), .int .i64 ((rd_T36 l0 a1).f1), .int .i64 ((rd_T36 l0 a1).f2), .int .i64 ((rd_T36 l0 a1).f3), .int .i64 ((rd_T36 l0 a1).f4), .int .i64 ((rd_T36 l0 a1).f5), .slice A105_6 ((rd_T36 l0 a1).f6).length c105_6] 36 (0, 0))) := ⟨by refine cO_ ?_; refine blk_put (cs := #[.int .i64 ((rd_T36 l0 a1).f0), .int .i64 ((rd_T36 l0 a1).f1), .int .i64 ((rd_T36 l0 a1).f2), .int .i64 ((rd_T36 l0 a1).f3), .int .i64 ((rd_T36 l0 a1).f4), .int .i64 ((rd_T36 l0 a1).f5), .slice none 0 0]) ?_ 6 _ rfl; refine cO_ ?_; refine blk_put (cs := #[.int .i64 ((rd_T36 l0 a1).f0), .int .i64 ((rd_T36 l0 a1).f1), .int .i64 ((rd_T36 l0 a1).f2), .int .i64 ((rd_T36 l0 a1).f3), .int .i64 ((rd_T36 l0 a1).f4), .int .i64 0, .slice none 0 0]) ?_ 5 _ rfl; refine cO_ ?_; refine blk_put (cs := #[.int .i64 ((rd_T36 l0 a1).f0), .int .i64 ((rd_T36 l0 a1).f1), .int .i64 ((rd_T36 l0 a1).f2), .int .i64 ((rd_T36 l0 a1).f3), .int .i64 0, .int .i64 0, .slice none 0 0]) ?_ 4 _ rfl; refine cO_ ?_; refine blk_put (cs := #[.int .i64 ((rd_T36 l0 a1).f0), .int .i64 ((rd_T36 l0 a1).f1), .int .i64 ((rd_T36 l0 a1).f2), .int .i64 0, .int .i64 0, .int .i64 0, .slice none 0 0]) ?_ 3 _ rfl; refine cO_ ?_; refine blk_put (cs := #[.int .i64 ((rd_T36 l0 a1).f0), .int .i64 ((rd_T36 l0 a1).f1), .int .i64 0, .int .i64 0, .int .i64 0, .int .i64 0, .slice none 0 0]) ?_ 2 _ rfl; refine cO_ ?_; refine blk_put (cs := #[.int .i64 ((rd_T36 l0 a1).f0), .int .i64 0, .int .i64 0, .int .i64 0, .int .i64 0, .int .i64 0, .slice none 0 0]) ?_ 1 _ rfl; refine cO_ ?_; refine blk_put (cs := #[.int .i64 0, .int .i64 0, .int .i64 0, .int .i64 0, .int .i64 0, .int .i64 0, .slice none 0 0]) ?_ 0 _ rfl; refine cO_ ?_; exact BK106.out⟩
  have n1_ : Aside0 (Below w.heap.size w (((((((w14.setCell ⟨gb106, 0, none⟩ (.int .i64 ((rd_T36 l0 a1).f0))).setCell ⟨gb106, 1, none⟩ (.int .i64 ((rd_T36 l0 a1).f1))).setCell ⟨gb106, 2, none⟩ (.int .i64 ((rd_T36 l0 a1).f2))).setCell ⟨gb106, 3, none⟩ (.int .i64 ((rd_T36 l0 a1).f3))).setCell ⟨gb106, 4, none⟩ (.int .i64 ((rd_T36 l0 a1).f4))).setCell ⟨gb106, 5, none⟩ (.int .i64 ((rd_T36 l0 a1).f5))).setCell ⟨gb106, 6, none⟩ (.slice A105_6 ((rd_T36 l0 a1).f6).length c105_6))) := ⟨cB1_ GE106.out⟩
  (try clear BK106)
  (try clear HB)
  generalize (((((((w14.setCell ⟨gb106, 0, none⟩ (.int .i64 ((rd_T36 l0 a1).f0))).setCell ⟨gb106, 1, none⟩ (.int .i64 ((rd_T36 l0 a1).f1))).setCell ⟨gb106, 2, none⟩ (.int .i64 ((rd_T36 l0 a1).f2))).setCell ⟨gb106, 3, none⟩ (.int .i64 ((rd_T36 l0 a1).f3))).setCell ⟨gb106, 4, none⟩ (.int .i64 ((rd_T36 l0 a1).f4))).setCell ⟨gb106, 5, none⟩ (.int .i64 ((rd_T36 l0 a1).f5))).setCell ⟨gb106, 6, none⟩ (.slice A105_6 ((rd_T36 l0 a1).f6).length c105_6)) = w16 at n0_ n1_ ⊢
  have BK106 := n0_
  have HB := n1_
  clear n0_ n1_
  replace BK106 := Aside0.mk (blk_drew BK106.out)
  replace HB := Aside0.mk (below_drew1 HB.out)
  refine start_ (n := 13) (S := fun w' => w'.cell? ⟨gb106, 0, none⟩ = some (.int .i64 ((rd_T36 l0 a1).f0)) ∧ w'.cell? ⟨gb106, 1, none⟩ = some (.int .i64 ((rd_T36 l0 a1).f1)) ∧ w'.cell? ⟨gb106, 2, none⟩ = some (.int .i64 ((rd_T36 l0 a1).f2)) ∧ w'.cell? ⟨gb106, 3, none⟩ = some (.int .i64 ((rd_T36 l0 a1).f3)) ∧ w'.cell? ⟨gb106, 4, none⟩ = some (.int .i64 ((rd_T36 l0 a1).f4)) ∧ w'.cell? ⟨gb106, 5, none⟩ = some (.int .i64 ((rd_T36 l0 a1).f5)) ∧ w'.cell? ⟨gb106, 6, none⟩ = some (.slice A105_6 ((rd_T36 l0 a1).f6).length c105_6)) (ds := []) (bl 13 0) (by kernel_rfl) rfl rfl ⟨(blk_cell BK106.out 0).trans rfl, (blk_cell BK106.out 1).trans rfl, (blk_cell BK106.out 2).trans rfl, (blk_cell BK106.out 3).trans rfl, (blk_cell BK106.out 4).trans rfl, (blk_cell BK106.out 5).trans rfl, (blk_cell BK106.out 6).trans rfl⟩ (fun hHeld => ?_); refine with_tabW spec_l3Width.tab8 spec_l3Width.bits8 (fun HT_ HW_ => ?_)
  generalize w16.drew = w17 at BK106 HB hHeld ⊢
  refine pv_ 0 23 (bl 13 1) ?_
  refine pv_ 1 24 (bl 13 3) ?_
  refine pv_ 4 27 (bl 13 19) ?_
  refine pv_ 5 28 (bl 13 51) ?_
  refine pv_ 9 32 (bl 13 563) ?_
  refine tv_ 2 25 (bl 13 567) rfl hHeld (fun w' s_ => by obtain ⟨s0, s1, s2, s3, s4, s5, s6⟩ := s_; go_simp; with_reducible rfl) ?_
  refine tv_ 6 29 (bl 13 631) rfl hHeld (fun w' s_ => by obtain ⟨s0, s1, s2, s3, s4, s5, s6⟩ := s_; go_simp; with_reducible rfl) ?_
  refine tv_ 10 33 (bl 13 1655) rfl hHeld (fun w' s_ => by obtain ⟨s0, s1, s2, s3, s4, s5, s6⟩ := s_; go_simp; with_reducible rfl) ?_
  refine ov_ 3 26 (bl 13 1663) (fun K hK => ?_)
  refine goes_ Tryz.func38 (by kernel_rfl) rfl #[.slice (some ad105) l0.length c0, .int .i64 ((rd_T36 l0 a1).f1)] (by rfl) rfl rfl cx_ ?_
  with_reducible refine (ih k (by omega) _ _ l0 ((rd_T36 l0 a1).f1) t107 _ ?side1 ?side2 A12.out).mono ?_
  (case side1 => exact cC_ (Kd.C_below HR0.out HB.out))
  (case side2 => exact HC0.out)
  rintro e w18 ⟨rfl, hb⟩
  refine ⟨_, rfl, ?_⟩
  replace BK106 := Aside0.mk (blk_below (g := gb106) (o := .cells #[.int .i64 ((rd_T36 l0 a1).f0), .int .i64 ((rd_T36 l0 a1).f1), .int .i64 ((rd_T36 l0 a1).f2), .int .i64 ((rd_T36 l0 a1).f3), .int .i64 ((rd_T36 l0 a1).f4), .int .i64 ((rd_T36 l0 a1).f5), .slice A105_6 ((rd_T36 l0 a1).f6).length c105_6] 36 (0, 0)) (cO_ BK106.out) hb)
  replace HB := Aside0.mk (below_step (cB1_ GE106.out) hb)
  (try clear hb)
  (try clear hb2)
  (try clear hk)
  (try clear hi)
  refine hK.out _ _ ⟨(blk_cell BK106.out 0).trans rfl, (blk_cell BK106.out 1).trans rfl, (blk_cell BK106.out 2).trans rfl, (blk_cell BK106.out 3).trans rfl, (blk_cell BK106.out 4).trans rfl, (blk_cell BK106.out 5).trans rfl, (blk_cell BK106.out 6).trans rfl⟩ (fun hHeld => ?_)
  clear hK K
  refine nm_ (some 26) ?_
  refine ov_ 7 30 (bl 13 1791) (fun K hK => ?_)
  refine goes_ Tryz.func38 (by kernel_rfl) rfl #[.slice (some ad105) l0.length c0, .int .i64 ((rd_T36 l0 a1).f2)] (by rfl) rfl rfl cx_ ?_
  with_reducible refine (ih k (by omega) _ _ l0 ((rd_T36 l0 a1).f2) t108 _ ?side1 ?side2 A13.out).mono ?_
  (case side1 => exact cC_ (Kd.C_below HR0.out HB.out))
  (case side2 => exact HC0.out)
  rintro e w19 ⟨rfl, hb⟩
  refine ⟨_, rfl, ?_⟩
  replace BK106 := Aside0.mk (blk_below (g := gb106) (o := .cells #[.int .i64 ((rd_T36 l0 a1).f0), .int .i64 ((rd_T36 l0 a1).f1), .int .i64 ((rd_T36 l0 a1).f2), .int .i64 ((rd_T36 l0 a1).f3), .int .i64 ((rd_T36 l0 a1).f4), .int .i64 ((rd_T36 l0 a1).f5), .slice A105_6 ((rd_T36 l0 a1).f6).length c105_6] 36 (0, 0)) (cO_ BK106.out) hb)
  replace HB := Aside0.mk (below_step (cB1_ GE106.out) hb)
  (try clear hb)
  (try clear hb2)
  (try clear hk)
  (try clear hi)
  refine hK.out _ _ ⟨(blk_cell BK106.out 0).trans rfl, (blk_cell BK106.out 1).trans rfl, (blk_cell BK106.out 2).trans rfl, (blk_cell BK106.out 3).trans rfl, (blk_cell BK106.out 4).trans rfl, (blk_cell BK106.out 5).trans rfl, (blk_cell BK106.out 6).trans rfl⟩ (fun hHeld => ?_)
  clear hK K
  refine nm_ (some 30) ?_
  refine pv_ 8 31 (bl 13 2047) ?_
  refine pv_ 11 34 (bl 13 4095) ?_
  refine pv_ 12 4 (bl 13 8191) ?_
  refine done_ (done_of HT_.out (by kernel_rfl)) ?_
  try go_wp2
  go_ret
  exact ⟨ce_, cB1_ GE106.out⟩
 rw [if_neg c11] at H
 have c11b0 : (((rd_T36 l0 a1).f0) == 6) = false := beq_eq_false_iff_ne.mpr c11
 have c11b1 : (((rd_T36 l0 a1).f0) != 6) = true := bne_iff_ne.mpr c11
 by_cases c20 : ((rd_T36 l0 a1).f0) = 7
 ·rw [if_pos c20] at H
  have c20b0 : (((rd_T36 l0 a1).f0) == 7) = true := beq_iff_eq.mpr c20
  have c20b1 : (((rd_T36 l0 a1).f0) != 7) = false := bne_eq_false_iff_eq.mpr c20
  clear c20
  obtain rfl := Option.some.inj H
  have p105 : 0 ≤ (a1 : Int) := cd_
  have q105 : a1 < (l0.length : Int) := cd_
  obtain ⟨ad105, A105_6, c105_6, e105, hx105_0, hx105_1, hx105_2, hx105_3, hx105_4, hx105_5, hx105_6, hl105_6, hi105_6⟩ := at_T36 HR0.out a1 p105 q105
  cases e105
  have HR105_6 := Aside0.mk hi105_6
  have HC105_6 := Aside0.mk hl105_6
  clear hi105_6 hl105_6
  replace p105 := eq_true p105
  replace q105 := eq_true q105
  go_enter Tryz.func38, Tryz.ntmps38
  go_wp2_with (first | (refine bx_ 5 #[.int .i64 0, .int .i64 0, .int .i64 0, .int .i64 0, .int .i64 0, .int .i64 0, .slice none 0 0] 36 ?_; intro gb106 hg w21 hbox hb; have BK106 := Aside0.mk (hbox); have GW106 := Aside0.mk ((by rw [hg]; exact (below_size cB0_) : w.heap.size ≤ gb106)); have GE106 := Aside0.mk ((by rw [hg]; exact (below_size cB0_) : w.heap.size ≤ gb106)); replace HB := Aside0.mk (below_step cB0_ hb); clear hb hbox hg; obtain ⟨_, _, _, _, _, _, _, _, _, _, _, _, _, _⟩ := cells7 BK106.out))
  go_ret
  exact ⟨ce_, cB1_ GE106.out⟩
 rw [if_neg c20] at H
 have c20b0 : (((rd_T36 l0 a1).f0) == 7) = false := beq_eq_false_iff_ne.mpr c20
 have c20b1 : (((rd_T36 l0 a1).f0) != 7) = true := bne_iff_ne.mpr c20
 by_cases c23 : ((rd_T36 l0 a1).f0) = 8
 ·rw [if_pos c23] at H
  have c23b0 : (((rd_T36 l0 a1).f0) == 8) = true := beq_iff_eq.mpr c23
  have c23b1 : (((rd_T36 l0 a1).f0) != 8) = false := bne_eq_false_iff_eq.mpr c23
  clear c23
  obtain rfl := Option.some.inj H
  have p105 : 0 ≤ (a1 : Int) := cd_
  have q105 : a1 < (l0.length : Int) := cd_
  obtain ⟨ad105, A105_6, c105_6, e105, hx105_0, hx105_1, hx105_2, hx105_3, hx105_4, hx105_5, hx105_6, hl105_6, hi105_6⟩ := at_T36 HR0.out a1 p105 q105
  cases e105
  have HR105_6 := Aside0.mk hi105_6
  have HC105_6 := Aside0.mk hl105_6
  clear hi105_6 hl105_6
  replace p105 := eq_true p105
  replace q105 := eq_true q105
  go_enter Tryz.func38, Tryz.ntmps38
  go_wp2_with (first | (refine bx_ 5 #[.int .i64 0, .int .i64 0, .int .i64 0, .int .i64 0, .int .i64 0, .int .i64 0, .slice none 0 0] 36 ?_; intro gb106 hg w24 hbox hb; have BK106 := Aside0.mk (hbox); have GW106 := Aside0.mk ((by rw [hg]; exact (below_size cB0_) : w.heap.size ≤ gb106)); have GE106 := Aside0.mk ((by rw [hg]; exact (below_size cB0_) : w.heap.size ≤ gb106)); replace HB := Aside0.mk (below_step cB0_ hb); clear hb hbox hg; obtain ⟨_, _, _, _, _, _, _, _, _, _, _, _, _, _⟩ := cells7 BK106.out))
  go_ret
  exact ⟨ce_, cB1_ GE106.out⟩
 rw [if_neg c23] at H
 have c23b0 : (((rd_T36 l0 a1).f0) == 8) = false := beq_eq_false_iff_ne.mpr c23
 have c23b1 : (((rd_T36 l0 a1).f0) != 8) = true := bne_iff_ne.mpr c23
 by_cases c26 : ((rd_T36 l0 a1).f0) = 9
 ·rw [if_pos c26] at H
  have c26b0 : (((rd_T36 l0 a1).f0) == 9) = true := beq_iff_eq.mpr c26
  have c26b1 : (((rd_T36 l0 a1).f0) != 9) = false := bne_eq_false_iff_eq.mpr c26
  clear c26
  obtain rfl := Option.some.inj H
  have p105 : 0 ≤ (a1 : Int) := cd_
  have q105 : a1 < (l0.length : Int) := cd_
  obtain ⟨ad105, A105_6, c105_6, e105, hx105_0, hx105_1, hx105_2, hx105_3, hx105_4, hx105_5, hx105_6, hl105_6, hi105_6⟩ := at_T36 HR0.out a1 p105 q105
  cases e105
  have HR105_6 := Aside0.mk hi105_6
  have HC105_6 := Aside0.mk hl105_6
  clear hi105_6 hl105_6
  replace p105 := eq_true p105
  replace q105 := eq_true q105
  go_enter Tryz.func38, Tryz.ntmps38
  go_wp2_with (first | (refine bx_ 5 #[.int .i64 0, .int .i64 0, .int .i64 0, .int .i64 0, .int .i64 0, .int .i64 0, .slice none 0 0] 36 ?_; intro gb106 hg w27 hbox hb; have BK106 := Aside0.mk (hbox); have GW106 := Aside0.mk ((by rw [hg]; exact (below_size cB0_) : w.heap.size ≤ gb106)); have GE106 := Aside0.mk ((by rw [hg]; exact (below_size cB0_) : w.heap.size ≤ gb106)); replace HB := Aside0.mk (below_step cB0_ hb); clear hb hbox hg; obtain ⟨_, _, _, _, _, _, _, _, _, _, _, _, _, _⟩ := cells7 BK106.out))
  go_ret
  exact ⟨ce_, cB1_ GE106.out⟩
 rw [if_neg c26] at H
 have c26b0 : (((rd_T36 l0 a1).f0) == 9) = false := beq_eq_false_iff_ne.mpr c26
 have c26b1 : (((rd_T36 l0 a1).f0) != 9) = true := bne_iff_ne.mpr c26
 by_cases c29 : ((rd_T36 l0 a1).f0) = 10
 ·rw [if_pos c29] at H
  have c29b0 : (((rd_T36 l0 a1).f0) == 10) = true := beq_iff_eq.mpr c29
  have c29b1 : (((rd_T36 l0 a1).f0) != 10) = false := bne_eq_false_iff_eq.mpr c29
  clear c29
  obtain rfl := Option.some.inj H
  have p105 : 0 ≤ (a1 : Int) := cd_
  have q105 : a1 < (l0.length : Int) := cd_
  obtain ⟨ad105, A105_6, c105_6, e105, hx105_0, hx105_1, hx105_2, hx105_3, hx105_4, hx105_5, hx105_6, hl105_6, hi105_6⟩ := at_T36 HR0.out a1 p105 q105
  cases e105
  have HR105_6 := Aside0.mk hi105_6
  have HC105_6 := Aside0.mk hl105_6
  clear hi105_6 hl105_6
  replace p105 := eq_true p105
  replace q105 := eq_true q105
  go_enter Tryz.func38, Tryz.ntmps38
  go_wp2_with (first | (refine bx_ 5 #[.int .i64 0, .int .i64 0, .int .i64 0, .int .i64 0, .int .i64 0, .int .i64 0, .slice none 0 0] 36 ?_; intro gb106 hg w30 hbox hb; have BK106 := Aside0.mk (hbox); have GW106 := Aside0.mk ((by rw [hg]; exact (below_size cB0_) : w.heap.size ≤ gb106)); have GE106 := Aside0.mk ((by rw [hg]; exact (below_size cB0_) : w.heap.size ≤ gb106)); replace HB := Aside0.mk (below_step cB0_ hb); clear hb hbox hg; obtain ⟨_, _, _, _, _, _, _, _, _, _, _, _, _, _⟩ := cells7 BK106.out))
  go_ret
  exact ⟨ce_, cB1_ GE106.out⟩
 rw [if_neg c29] at H
 have c29b0 : (((rd_T36 l0 a1).f0) == 10) = false := beq_eq_false_iff_ne.mpr c29
 have c29b1 : (((rd_T36 l0 a1).f0) != 10) = true := bne_iff_ne.mpr c29
 obtain ⟨t109, A32, H⟩ := bnd_ H
 try dsimp only at H
 obtain rfl := Option.some.inj H
 have p105 : 0 ≤ (a1 : Int) := cd_
 have q105 : a1 < (l0.length : Int) := cd_
 obtain ⟨ad105, A105_6, c105_6, e105, hx105_0, hx105_1, hx105_2, hx105_3, hx105_4, hx105_5, hx105_6, hl105_6, hi105_6⟩ := at_T36 HR0.out a1 p105 q105
 cases e105
 have HR105_6 := Aside0.mk hi105_6
 have HC105_6 := Aside0.mk hl105_6
 clear hi105_6 hl105_6
 replace p105 := eq_true p105
 replace q105 := eq_true q105
 go_enter Tryz.func38, Tryz.ntmps38
 go_wp2_with (first | (refine bx_ 5 #[.int .i64 0, .int .i64 0, .int .i64 0, .int .i64 0, .int .i64 0, .int .i64 0, .slice none 0 0] 36 ?_; intro gb106 hg w33 hbox hb; have BK106 := Aside0.mk (hbox); have GW106 := Aside0.mk ((by rw [hg]; exact (below_size cB0_) : w.heap.size ≤ gb106)); have GE106 := Aside0.mk ((by rw [hg]; exact (below_size cB0_) : w.heap.size ≤ gb106)); replace HB := Aside0.mk (below_step cB0_ hb); clear hb hbox hg; obtain ⟨_, _, _, _, _, _, _, _, _, _, _, _, _, _⟩ := cells7 BK106.out) | (refine gl_ 38 (some 46) Tryz.func38 #[.slice (some ad105) l0.length c0, .int .i64 ((rd_T36 l0 a1).f1)] ?_; (with_reducible refine (ih k (by omega) _ _ l0 ((rd_T36 l0 a1).f1) t109 _ ?side1 ?side2 A32.out).mono ?_); (case side1 => exact (by exact Kd.C_below HR0.out (cB1_ GE106.out))); (case side2 => exact HC0.out); rintro e w35 ⟨rfl, hb⟩; refine ⟨_, rfl, ?_⟩; replace BK106 := Aside0.mk (blk_below (g := gb106) (o := .cells #[.int .i64 ((rd_T36 l0 a1).f0), .int .i64 ((rd_T36 l0 a1).f1), .int .i64 ((rd_T36 l0 a1).f2), .int .i64 ((rd_T36 l0 a1).f3), .int .i64 ((rd_T36 l0 a1).f4), .int .i64 ((rd_T36 l0 a1).f5), .slice A105_6 ((rd_T36 l0 a1).f6).length c105_6] 36 (0, 0)) (by refine cO_ ?_; refine blk_put (cs := #[.int .i64 ((rd_T36 l0 a1).f0), .int .i64 ((rd_T36 l0 a1).f1), .int .i64 ((rd_T36 l0 a1).f2), .int .i64 ((rd_T36 l0 a1).f3), .int .i64 ((rd_T36 l0 a1).f4), .int .i64 ((rd_T36 l0 a1).f5), .slice none 0 0]) ?_ 6 _ rfl; refine cO_ ?_; refine blk_put (cs := #[.int .i64 ((rd_T36 l0 a1).f0), .int .i64 ((rd_T36 l0 a1).f1), .int .i64 ((rd_T36 l0 a1).f2), .int .i64 ((rd_T36 l0 a1).f3), .int .i64 ((rd_T36 l0 a1).f4), .int .i64 0, .slice none 0 0]) ?_ 5 _ rfl; refine cO_ ?_; refine blk_put (cs := #[.int .i64 ((rd_T36 l0 a1).f0), .int .i64 ((rd_T36 l0 a1).f1), .int .i64 ((rd_T36 l0 a1).f2), .int .i64 ((rd_T36 l0 a1).f3), .int .i64 0, .int .i64 0, .slice none 0 0]) ?_ 4 _ rfl; refine cO_ ?_; refine blk_put (cs := #[.int .i64 ((rd_T36 l0 a1).f0), .int .i64 ((rd_T36 l0 a1).f1), .int .i64 ((rd_T36 l0 a1).f2), .int .i64 0, .int .i64 0, .int .i64 0, .slice none 0 0]) ?_ 3 _ rfl; refine cO_ ?_; refine blk_put (cs := #[.int .i64 ((rd_T36 l0 a1).f0), .int .i64 ((rd_T36 l0 a1).f1), .int .i64 0, .int .i64 0, .int .i64 0, .int .i64 0, .slice none 0 0]) ?_ 2 _ rfl; refine cO_ ?_; refine blk_put (cs := #[.int .i64 ((rd_T36 l0 a1).f0), .int .i64 0, .int .i64 0, .int .i64 0, .int .i64 0, .int .i64 0, .slice none 0 0]) ?_ 1 _ rfl; refine cO_ ?_; refine blk_put (cs := #[.int .i64 0, .int .i64 0, .int .i64 0, .int .i64 0, .int .i64 0, .int .i64 0, .slice none 0 0]) ?_ 0 _ rfl; refine cO_ ?_; exact BK106.out) hb); replace HB := Aside0.mk (below_step (cB1_ GE106.out) hb); (try clear hb)))
 go_ret
 exact ⟨ce_, cB1_ GE106.out⟩

/-! ### spec_l1Min: function 39 -/
def spec_l1Min.f (a0 : Int) (a1 : Int) : Option (Int) := if a0 < a1 then (some a0) else (some a1)
theorem spec_l1Min.calls (a0 : Int) (a1 : Int) (r : Int) (w : World) (h : spec_l1Min.f a0 a1 = some r) :
  Calls Tryz.prog 39 #[.int .i64 a0, .int .i64 a1] w fun e w' => e = .returned (.int .i64 r) ∧ Drawn0 w w' := by
 have H : (if a0 < a1 then (some a0) else (some a1)) = some r := h
 clear h
 by_cases c3 : a0 < a1
 ·rw [if_pos c3] at H
  have c3b0 := decide_eq_true c3
  clear c3
  obtain rfl := Option.some.inj H
  go_enter Tryz.func39, Tryz.ntmps39
  go_wp2
  go_ret
  exact ⟨cs_, cD_⟩
 rw [if_neg c3] at H
 have c3b0 := decide_eq_false c3
 clear c3
 obtain rfl := Option.some.inj H
 go_enter Tryz.func39, Tryz.ntmps39
 go_wp2
 go_ret
 exact ⟨cs_, cD_⟩

end Go.Proofs.YteibdjkfkcckkaaGreatDoor.PFnPlans
