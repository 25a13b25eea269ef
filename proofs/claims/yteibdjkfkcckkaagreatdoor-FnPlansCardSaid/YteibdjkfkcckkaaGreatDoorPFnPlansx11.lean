-- Written by fprint, a program of this session, out of Lean's own print of the translation. Lean checks it.
import Derived.Test.YteibdjkfkcckkaaGreatDoorDense
import Derived.Test.YteibdjkfkcckkaaGreatDoorPFnPlansx0
import Derived.Test.YteibdjkfkcckkaaGreatDoorPFnPlansx8
import Derived.Test.YteibdjkfkcckkaaGreatDoorPFnPlansx9
namespace Go.Proofs.YteibdjkfkcckkaaGreatDoor.PFnPlans
open Go.RowKit Go.Proofs.YteibdjkfkcckkaaGreatDoorW.PrintWords Go.Proofs.YteibdjkfkcckkaaGreatDoorW.PrintLast Go.Proofs.YteibdjkfkcckkaaGreatDoorW.PrintMore
attribute [local go_sem] max2_int min2_int max_two min_two max_three min_three max_four min_four
set_option linter.unusedVariables false
set_option maxHeartbeats 8000000
set_option maxRecDepth 100000
set_option linter.unusedSimpArgs false

theorem b11_1 {p : Prop} (h : p := by first | exact ⟨rfl, _, World.drewN_drewN _ _ _⟩ | exact ⟨rfl, _, Eq.trans (World.drewN_drewN _ _ _) (congrArg (World.drewN _) (Nat.add_assoc _ _ _))⟩) : p := h
/-! ### impl_Node_reads: function 44 -/
def impl_Node_reads.f (a0_0 : Int) (a0_1 : Int) (a0_2 : Int) (a0_3 : Int) (a0_4 : Int) (a0_5 : Int) (l0_6 : List Int) : Option (List Int) := if a0_0 = 1 then (some ([] : List Int)) else ((impl_twoSided.f a0_0).bind fun t298 => (if t298 = true then (some (([a0_1, a0_2] : List Int))) else (some (([a0_1] : List Int)))))
theorem impl_Node_reads.calls (a0_0 : Int) (a0_1 : Int) (a0_2 : Int) (a0_3 : Int) (a0_4 : Int) (a0_5 : Int) (A0_6 : Option Addr) (c0_6 : Nat) (l0_6 : List Int) (r : List Int) (w : World) (hr0_6 : Kd.C (Kd.int .i64) w A0_6 l0_6.length l0_6) (hc0_6 : l0_6.length ≤ c0_6) (h : impl_Node_reads.f a0_0 a0_1 a0_2 a0_3 a0_4 a0_5 l0_6 = some r) :
  Calls Tryz.prog 44 #[.agg #[.int .i64 a0_0, .int .i64 a0_1, .int .i64 a0_2, .int .i64 a0_3, .int .i64 a0_4, .int .i64 a0_5, .slice A0_6 l0_6.length c0_6]] w fun e w' => ∃ v0_ : Value, e = .returned (v0_) ∧ Kd.R (Kd.int .i64) 2 w' w.heap.size (fun _ => True) v0_ r ∧ Below w.heap.size w w' := by
 have hu36 := Tryz.underlying36
 have HR0_6 := Aside0.mk hr0_6
 have HC0_6 := Aside0.mk hc0_6
 clear hr0_6 hc0_6
 have HB := Aside0.mk (Below.refl w.heap.size w)
 have H : (if a0_0 = 1 then (some ([] : List Int)) else ((impl_twoSided.f a0_0).bind fun t298 => (if t298 = true then (some (([a0_1, a0_2] : List Int))) else (some (([a0_1] : List Int)))))) = some r := h
 clear h
 by_cases c2 : a0_0 = 1
 ·rw [if_pos c2] at H
  have c2b0 : (a0_0 == 1) = true := beq_iff_eq.mpr c2
  have c2b1 : (a0_0 != 1) = false := bne_eq_false_iff_eq.mpr c2
  clear c2
  obtain rfl := Option.some.inj H
  go_enter Tryz.func44, Tryz.ntmps44
  go_wp2_with (first | (refine bx_ 1 #[.int .i64 a0_0, .int .i64 a0_1, .int .i64 a0_2, .int .i64 a0_3, .int .i64 a0_4, .int .i64 a0_5, .slice A0_6 l0_6.length c0_6] 36 ?_; intro gb297 hg w3 hbox hb; have BK297 := Aside0.mk (hbox); have GW297 := Aside0.mk ((by rw [hg]; exact (below_size cB0_) : w.heap.size ≤ gb297)); have GE297 := Aside0.mk ((by rw [hg]; exact (below_size cB0_) : w.heap.size ≤ gb297)); replace HB := Aside0.mk (below_step cB0_ hb); clear hb hbox hg; obtain ⟨_, _, _, _, _, _, _, _, _, _, _, _, _, _⟩ := cells7 BK297.out))
  go_ret
  exact ⟨_, ce_, by first | exact Kd.R_nil _ _ _ _ _ | exact Kd.N_nil _ _ _ _ _ | exact Kd.V_nil _ _ _ _ _ | exact Kd.Q_nil _ _ _ _ _ | exact Kd.S_nil _ _ _ _ _, cB1_ GE297.out⟩
 ·rw [if_neg c2] at H
  have c2b0 : (a0_0 == 1) = false := beq_eq_false_iff_ne.mpr c2
  have c2b1 : (a0_0 != 1) = true := bne_iff_ne.mpr c2
  obtain ⟨t298, A5, H⟩ := bnd_ H
  try dsimp only at H
  by_cases c6 : t298 = true
  ·subst c6
   rw [if_pos rfl] at H
   obtain ⟨y299, hy_⟩ : ∃ y_ : List Int, y_ = (([a0_1, a0_2] : List Int)) := ⟨_, rfl⟩
   replace H : (some y299) = some r := yb_
   have Ny299 := Aside0.mk hy_
   clear hy_
   obtain rfl := Option.some.inj H
   go_enter Tryz.func44, Tryz.ntmps44
   go_wp2_with (first | (refine bx_ 1 #[.int .i64 a0_0, .int .i64 a0_1, .int .i64 a0_2, .int .i64 a0_3, .int .i64 a0_4, .int .i64 a0_5, .slice A0_6 l0_6.length c0_6] 36 ?_; intro gb297 hg w7 hbox hb; have BK297 := Aside0.mk (hbox); have GW297 := Aside0.mk ((by rw [hg]; exact (below_size cB0_) : w.heap.size ≤ gb297)); have GE297 := Aside0.mk ((by rw [hg]; exact (below_size cB0_) : w.heap.size ≤ gb297)); replace HB := Aside0.mk (below_step cB0_ hb); clear hb hbox hg; obtain ⟨_, _, _, _, _, _, _, _, _, _, _, _, _, _⟩ := cells7 BK297.out) | (refine gl_ 68 (some 10) Tryz.func68 #[.int .i64 a0_0] ?_; (with_reducible refine (impl_twoSided.calls a0_0 true _ A5.out).mono ?_); rintro e w' ⟨rfl, ⟨nd, rfl⟩⟩; refine ⟨_, rfl, ?_⟩) | ((with_reducible refine gate_dst (N := 15) rfl ?_); refine Kd.R_lit (Kd.int .i64) _ 2 ?hg (N := 15) ?hd (xs := ([a0_1, a0_2] : List Int)) (inner := [.int .i64 a0_1, .int .i64 a0_2]) (ok := fun _ => True) (okp := fun _ => True) ?hr ?hp (fun _ hk => hk) trivial (Below.refl _ _) (Nat.le_refl _) (by simp) ?_; (case hd => rfl); (case hg => rfl); (case hr => first | (go_simp; done) | (go_simp; rfl)); (case hp => exact (Reps.one (show Kd.M (Kd.int .i64) _ _ _ a0_1 [.int .i64 a0_1] from rfl) (Reps.one (show Kd.M (Kd.int .i64) _ _ _ a0_2 [.int .i64 a0_2] from rfl) (Reps.none _ _)))); intro v300 w9 ho10 hb hg_ hnew_; clear hg_ hnew_; (first | rw [← Ny299.out] at ho10 | (simp only [Int.reduceToNat] at ho10; rw [← Ny299.out] at ho10)); have HO301 := Aside0.mk (Kd.R_lower ho10 (below_size (cB1_ GE297.out))); replace BK297 := Aside0.mk (blk_below (g := gb297) (o := .cells #[.int .i64 a0_0, .int .i64 a0_1, .int .i64 a0_2, .int .i64 a0_3, .int .i64 a0_4, .int .i64 a0_5, .slice A0_6 l0_6.length c0_6] 36 (0, 0)) (cO_ BK297.out) hb); replace HB := Aside0.mk (below_step (cB1_ GE297.out) hb); clear hb ho10))
   go_ret
   exact ⟨_, ce_, cR_ HO301.out, cB1_ GE297.out⟩
  ·replace c6 := Bool.eq_false_iff.mpr c6
   subst c6
   rw [if_neg (show ¬ (false = true) by decide)] at H
   obtain ⟨y302, hy_⟩ : ∃ y_ : List Int, y_ = (([a0_1] : List Int)) := ⟨_, rfl⟩
   replace H : (some y302) = some r := yb_
   have Ny302 := Aside0.mk hy_
   clear hy_
   obtain rfl := Option.some.inj H
   go_enter Tryz.func44, Tryz.ntmps44
   go_wp2_with (first | (refine bx_ 1 #[.int .i64 a0_0, .int .i64 a0_1, .int .i64 a0_2, .int .i64 a0_3, .int .i64 a0_4, .int .i64 a0_5, .slice A0_6 l0_6.length c0_6] 36 ?_; intro gb297 hg w11 hbox hb; have BK297 := Aside0.mk (hbox); have GW297 := Aside0.mk ((by rw [hg]; exact (below_size cB0_) : w.heap.size ≤ gb297)); have GE297 := Aside0.mk ((by rw [hg]; exact (below_size cB0_) : w.heap.size ≤ gb297)); replace HB := Aside0.mk (below_step cB0_ hb); clear hb hbox hg; obtain ⟨_, _, _, _, _, _, _, _, _, _, _, _, _, _⟩ := cells7 BK297.out) | (refine gl_ 68 (some 10) Tryz.func68 #[.int .i64 a0_0] ?_; (with_reducible refine (impl_twoSided.calls a0_0 false _ A5.out).mono ?_); rintro e w' ⟨rfl, ⟨nd, rfl⟩⟩; refine ⟨_, rfl, ?_⟩) | ((with_reducible refine gate_dst (N := 18) rfl ?_); refine Kd.R_lit (Kd.int .i64) _ 2 ?hg (N := 18) ?hd (xs := ([a0_1] : List Int)) (inner := [.int .i64 a0_1]) (ok := fun _ => True) (okp := fun _ => True) ?hr ?hp (fun _ hk => hk) trivial (Below.refl _ _) (Nat.le_refl _) (by simp) ?_; (case hd => rfl); (case hg => rfl); (case hr => first | (go_simp; done) | (go_simp; rfl)); (case hp => exact (Reps.one (show Kd.M (Kd.int .i64) _ _ _ a0_1 [.int .i64 a0_1] from rfl) (Reps.none _ _))); intro v303 w13 ho14 hb hg_ hnew_; clear hg_ hnew_; (first | rw [← Ny302.out] at ho14 | (simp only [Int.reduceToNat] at ho14; rw [← Ny302.out] at ho14)); have HO304 := Aside0.mk (Kd.R_lower ho14 (below_size (cB1_ GE297.out))); replace BK297 := Aside0.mk (blk_below (g := gb297) (o := .cells #[.int .i64 a0_0, .int .i64 a0_1, .int .i64 a0_2, .int .i64 a0_3, .int .i64 a0_4, .int .i64 a0_5, .slice A0_6 l0_6.length c0_6] 36 (0, 0)) (cO_ BK297.out) hb); replace HB := Aside0.mk (below_step (cB1_ GE297.out) hb); clear hb ho14))
   go_ret
   exact ⟨_, ce_, cR_ HO304.out, cB1_ GE297.out⟩

/-! ### impl_grouped: function 53 -/
def impl_grouped.f (a0 : Int) : Option (Bool) := (impl_in.f a0 7 10).bind fun t305 => (some t305)
theorem impl_grouped.calls (a0 : Int) (r : Bool) (w : World) (h : impl_grouped.f a0 = some r) :
  Calls Tryz.prog 53 #[.int .i64 a0] w fun e w' => e = .returned (.bool r) ∧ Drawn0 w w' := by
 have H : ((impl_in.f a0 7 10).bind fun t305 => (some t305)) = some r := h
 clear h
 obtain ⟨t305, A2, H⟩ := bnd_ H
 try dsimp only at H
 obtain rfl := Option.some.inj H
 go_enter Tryz.func53, Tryz.ntmps53
 go_wp2_with (first | (refine gl_ 40 (some 4) Tryz.func40 #[.int .i64 a0, .int .i64 7, .int .i64 10] ?_; (with_reducible refine (impl_in.calls a0 7 10 t305 _ A2.out).mono ?_); rintro e w' ⟨rfl, ⟨nd, rfl⟩⟩; refine ⟨_, rfl, ?_⟩))
 go_ret
 exact ⟨cs_, cD_⟩

/-! ### impl_size_int64: function 69 -/
def impl_size_int64.f (l0 : List Int) : Option (Int) := some (l0.length : Int)
theorem impl_size_int64.calls (A0 : Option Addr) (c0 : Nat) (l0 : List Int) (r : Int) (w : World) (hr0 : Kd.C (Kd.int .i64) w A0 l0.length l0) (hc0 : l0.length ≤ c0) (h : impl_size_int64.f l0 = some r) :
  Calls Tryz.prog 69 #[.slice A0 l0.length c0] w fun e w' => e = .returned (.int .i64 r) ∧ Drawn0 w w' := by
 have HR0 := Aside0.mk hr0
 have HC0 := Aside0.mk hc0
 clear hr0 hc0
 have H : (some (l0.length : Int)) = some r := h
 clear h
 obtain rfl := Option.some.inj H
 go_enter Tryz.func69, Tryz.ntmps69
 go_wp2
 go_ret
 exact ⟨cs_, cD_⟩

/-! ### impl_Node_width: function 46 -/
def impl_Node_width.f (a0_0 : Int) (a0_1 : Int) (a0_2 : Int) (a0_3 : Int) (a0_4 : Int) (a0_5 : Int) (l0_6 : List Int) (l1 : List Int) : Option (Int) := if a0_0 = 1 then (some a0_3) else (if a0_0 = 3 then ((impl_size_int64.f l0_6).bind fun t307 => (some t307)) else (if a0_0 = 6 then (if 0 ≤ a0_1 then (if a0_1 < (l1.length : Int) then (if 0 ≤ a0_2 then (if a0_2 < (l1.length : Int) then (some (wrap64 ((wrap64 ((rd l1 a0_1) + (rd l1 a0_2))) - a0_3))) else (none)) else (none)) else (none)) else (none)) else ((impl_grouped.f a0_0).bind fun t310 => (if t310 = true then (some (wrap64 (a0_3 + 1))) else (if 0 ≤ a0_1 then (if a0_1 < (l1.length : Int) then (some (rd l1 a0_1)) else (none)) else (none))))))
theorem impl_Node_width.calls (a0_0 : Int) (a0_1 : Int) (a0_2 : Int) (a0_3 : Int) (a0_4 : Int) (a0_5 : Int) (A0_6 : Option Addr) (c0_6 : Nat) (l0_6 : List Int) (A1 : Option Addr) (c1 : Nat) (l1 : List Int) (r : Int) (w : World) (hr0_6 : Kd.C (Kd.int .i64) w A0_6 l0_6.length l0_6) (hc0_6 : l0_6.length ≤ c0_6) (hr1 : Kd.C (Kd.int .i64) w A1 l1.length l1) (hc1 : l1.length ≤ c1) (h : impl_Node_width.f a0_0 a0_1 a0_2 a0_3 a0_4 a0_5 l0_6 l1 = some r) :
  Calls Tryz.prog 46 #[.agg #[.int .i64 a0_0, .int .i64 a0_1, .int .i64 a0_2, .int .i64 a0_3, .int .i64 a0_4, .int .i64 a0_5, .slice A0_6 l0_6.length c0_6], .slice A1 l1.length c1] w fun e w' => e = .returned (.int .i64 r) ∧ Below w.heap.size w w' := by
 have hu36 := Tryz.underlying36
 have HR0_6 := Aside0.mk hr0_6
 have HC0_6 := Aside0.mk hc0_6
 clear hr0_6 hc0_6
 have HR1 := Aside0.mk hr1
 have HC1 := Aside0.mk hc1
 clear hr1 hc1
 have HB := Aside0.mk (Below.refl w.heap.size w)
 have H : (if a0_0 = 1 then (some a0_3) else (if a0_0 = 3 then ((impl_size_int64.f l0_6).bind fun t307 => (some t307)) else (if a0_0 = 6 then (if 0 ≤ a0_1 then (if a0_1 < (l1.length : Int) then (if 0 ≤ a0_2 then (if a0_2 < (l1.length : Int) then (some (wrap64 ((wrap64 ((rd l1 a0_1) + (rd l1 a0_2))) - a0_3))) else (none)) else (none)) else (none)) else (none)) else ((impl_grouped.f a0_0).bind fun t310 => (if t310 = true then (some (wrap64 (a0_3 + 1))) else (if 0 ≤ a0_1 then (if a0_1 < (l1.length : Int) then (some (rd l1 a0_1)) else (none)) else (none))))))) = some r := h
 clear h
 by_cases c3 : a0_0 = 1
 ·rw [if_pos c3] at H
  have c3b0 : (a0_0 == 1) = true := beq_iff_eq.mpr c3
  have c3b1 : (a0_0 != 1) = false := bne_eq_false_iff_eq.mpr c3
  clear c3
  obtain rfl := Option.some.inj H
  go_enter Tryz.func46, Tryz.ntmps46
  go_wp2_with (first | (refine bx_ 2 #[.int .i64 a0_0, .int .i64 a0_1, .int .i64 a0_2, .int .i64 a0_3, .int .i64 a0_4, .int .i64 a0_5, .slice A0_6 l0_6.length c0_6] 36 ?_; intro gb306 hg w4 hbox hb; have BK306 := Aside0.mk (hbox); have GW306 := Aside0.mk ((by rw [hg]; exact (below_size cB0_) : w.heap.size ≤ gb306)); have GE306 := Aside0.mk ((by rw [hg]; exact (below_size cB0_) : w.heap.size ≤ gb306)); replace HB := Aside0.mk (below_step cB0_ hb); clear hb hbox hg; obtain ⟨_, _, _, _, _, _, _, _, _, _, _, _, _, _⟩ := cells7 BK306.out))
  repeat (go_quiet (fail); try go_wp2)
  go_ret
  exact ⟨ce_, cB1_ GE306.out⟩
 ·rw [if_neg c3] at H
  have c3b0 : (a0_0 == 1) = false := beq_eq_false_iff_ne.mpr c3
  have c3b1 : (a0_0 != 1) = true := bne_iff_ne.mpr c3
  by_cases c6 : a0_0 = 3
  ·rw [if_pos c6] at H
   have c6b0 : (a0_0 == 3) = true := beq_iff_eq.mpr c6
   have c6b1 : (a0_0 != 3) = false := bne_eq_false_iff_eq.mpr c6
   clear c6
   obtain ⟨t307, A7, H⟩ := bnd_ H
   try dsimp only at H
   obtain rfl := Option.some.inj H
   go_enter Tryz.func46, Tryz.ntmps46
   go_wp2_with (first | (refine bx_ 2 #[.int .i64 a0_0, .int .i64 a0_1, .int .i64 a0_2, .int .i64 a0_3, .int .i64 a0_4, .int .i64 a0_5, .slice A0_6 l0_6.length c0_6] 36 ?_; intro gb306 hg w8 hbox hb; have BK306 := Aside0.mk (hbox); have GW306 := Aside0.mk ((by rw [hg]; exact (below_size cB0_) : w.heap.size ≤ gb306)); have GE306 := Aside0.mk ((by rw [hg]; exact (below_size cB0_) : w.heap.size ≤ gb306)); replace HB := Aside0.mk (below_step cB0_ hb); clear hb hbox hg; obtain ⟨_, _, _, _, _, _, _, _, _, _, _, _, _, _⟩ := cells7 BK306.out) | (go_at_call 69; (with_reducible refine (impl_size_int64.calls _ _ l0_6 t307 _ ?side1 ?side2 A7.out).mono ?_); (case side1 => exact cC_ (Kd.C_below HR0_6.out HB.out)); (case side2 => exact HC0_6.out); rintro e w' ⟨rfl, ⟨nd, rfl⟩⟩; (try exact b11_1)))
   repeat (go_quiet (fail); try go_wp2)
   go_ret
   exact ⟨ce_, cB1_ GE306.out⟩
  ·rw [if_neg c6] at H
   have c6b0 : (a0_0 == 3) = false := beq_eq_false_iff_ne.mpr c6
   have c6b1 : (a0_0 != 3) = true := bne_iff_ne.mpr c6
   by_cases c10 : a0_0 = 6
   ·rw [if_pos c10] at H
    have c10b0 : (a0_0 == 6) = true := beq_iff_eq.mpr c10
    have c10b1 : (a0_0 != 6) = false := bne_eq_false_iff_eq.mpr c10
    clear c10
    by_cases c11 : 0 ≤ a0_1
    ·rw [if_pos c11] at H
     have c11b0 := decide_eq_true c11
     clear c11
     by_cases c12 : a0_1 < (l1.length : Int)
     ·rw [if_pos c12] at H
      have c12b0 := decide_eq_true c12
      clear c12
      by_cases c13 : 0 ≤ a0_2
      ·rw [if_pos c13] at H
       have c13b0 := decide_eq_true c13
       clear c13
       by_cases c14 : a0_2 < (l1.length : Int)
       ·rw [if_pos c14] at H
        have c14b0 := decide_eq_true c14
        clear c14
        obtain rfl := Option.some.inj H
        go_enter Tryz.func46, Tryz.ntmps46
        go_wp2_with (first | (refine bx_ 2 #[.int .i64 a0_0, .int .i64 a0_1, .int .i64 a0_2, .int .i64 a0_3, .int .i64 a0_4, .int .i64 a0_5, .slice A0_6 l0_6.length c0_6] 36 ?_; intro gb306 hg w15 hbox hb; have BK306 := Aside0.mk (hbox); have GW306 := Aside0.mk ((by rw [hg]; exact (below_size cB0_) : w.heap.size ≤ gb306)); have GE306 := Aside0.mk ((by rw [hg]; exact (below_size cB0_) : w.heap.size ≤ gb306)); replace HB := Aside0.mk (below_step cB0_ hb); clear hb hbox hg; obtain ⟨_, _, _, _, _, _, _, _, _, _, _, _, _, _⟩ := cells7 BK306.out; have p308 : 0 ≤ (a0_1 : Int) := cd_; have q308 : a0_1 < (l1.length : Int) := cd_; obtain ⟨ad308, e308, hx308_0⟩ := Kd.at_int HR1.out a0_1 p308 q308; cases e308; replace hx308_0 := pw_cell_below HB.out hx308_0; replace p308 := eq_true p308; replace q308 := eq_true q308; have p309 : 0 ≤ (a0_2 : Int) := cd_; have q309 : a0_2 < (l1.length : Int) := cd_; obtain ⟨ad309, e309, hx309_0⟩ := Kd.at_int HR1.out a0_2 p309 q309; obtain rfl : ad308 = ad309 := (by injection e309); replace hx309_0 := pw_cell_below HB.out hx309_0; replace p309 := eq_true p309; replace q309 := eq_true q309))
        repeat (go_quiet (fail); try go_wp2)
        go_ret
        exact ⟨ce_, cB1_ GE306.out⟩
       ·rw [if_neg c14] at H
        exact absurd H (by simp)
      ·rw [if_neg c13] at H
       exact absurd H (by simp)
     ·rw [if_neg c12] at H
      exact absurd H (by simp)
    ·rw [if_neg c11] at H
     exact absurd H (by simp)
   ·rw [if_neg c10] at H
    have c10b0 : (a0_0 == 6) = false := beq_eq_false_iff_ne.mpr c10
    have c10b1 : (a0_0 != 6) = true := bne_iff_ne.mpr c10
    obtain ⟨t310, A17, H⟩ := bnd_ H
    try dsimp only at H
    by_cases c18 : t310 = true
    ·subst c18
     rw [if_pos rfl] at H
     obtain rfl := Option.some.inj H
     go_enter Tryz.func46, Tryz.ntmps46
     go_wp2_with (first | (refine bx_ 2 #[.int .i64 a0_0, .int .i64 a0_1, .int .i64 a0_2, .int .i64 a0_3, .int .i64 a0_4, .int .i64 a0_5, .slice A0_6 l0_6.length c0_6] 36 ?_; intro gb306 hg w19 hbox hb; have BK306 := Aside0.mk (hbox); have GW306 := Aside0.mk ((by rw [hg]; exact (below_size cB0_) : w.heap.size ≤ gb306)); have GE306 := Aside0.mk ((by rw [hg]; exact (below_size cB0_) : w.heap.size ≤ gb306)); replace HB := Aside0.mk (below_step cB0_ hb); clear hb hbox hg; obtain ⟨_, _, _, _, _, _, _, _, _, _, _, _, _, _⟩ := cells7 BK306.out) | (go_at_call 53; (with_reducible refine (impl_grouped.calls a0_0 true _ A17.out).mono ?_); rintro e w' ⟨rfl, ⟨nd, rfl⟩⟩; (try exact b11_1)))
     repeat (go_quiet (fail); try go_wp2)
     go_ret
     exact ⟨ce_, cB1_ GE306.out⟩
    ·replace c18 := Bool.eq_false_iff.mpr c18
     subst c18
     rw [if_neg (show ¬ (false = true) by decide)] at H
     by_cases c21 : 0 ≤ a0_1
     ·rw [if_pos c21] at H
      have c21b0 := decide_eq_true c21
      clear c21
      by_cases c22 : a0_1 < (l1.length : Int)
      ·rw [if_pos c22] at H
       have c22b0 := decide_eq_true c22
       clear c22
       obtain rfl := Option.some.inj H
       go_enter Tryz.func46, Tryz.ntmps46
       go_wp2_with (first | (refine bx_ 2 #[.int .i64 a0_0, .int .i64 a0_1, .int .i64 a0_2, .int .i64 a0_3, .int .i64 a0_4, .int .i64 a0_5, .slice A0_6 l0_6.length c0_6] 36 ?_; intro gb306 hg w23 hbox hb; have BK306 := Aside0.mk (hbox); have GW306 := Aside0.mk ((by rw [hg]; exact (below_size cB0_) : w.heap.size ≤ gb306)); have GE306 := Aside0.mk ((by rw [hg]; exact (below_size cB0_) : w.heap.size ≤ gb306)); replace HB := Aside0.mk (below_step cB0_ hb); clear hb hbox hg; obtain ⟨_, _, _, _, _, _, _, _, _, _, _, _, _, _⟩ := cells7 BK306.out) | (go_at_call 53; (with_reducible refine (impl_grouped.calls a0_0 false _ A17.out).mono ?_); rintro e w' ⟨rfl, ⟨nd, rfl⟩⟩; (try exact b11_1); have p311 : 0 ≤ (a0_1 : Int) := cd_; have q311 : a0_1 < (l1.length : Int) := cd_; obtain ⟨ad311, e311, hx311_0⟩ := Kd.at_int HR1.out a0_1 p311 q311; cases e311; replace hx311_0 := pw_cell_below HB.out hx311_0; replace p311 := eq_true p311; replace q311 := eq_true q311))
       repeat (go_quiet (fail); try go_wp2)
       go_ret
       exact ⟨ce_, cB1_ GE306.out⟩
      ·rw [if_neg c22] at H
       exact absurd H (by simp)
     ·rw [if_neg c21] at H
      exact absurd H (by simp)

end Go.Proofs.YteibdjkfkcckkaaGreatDoor.PFnPlans
