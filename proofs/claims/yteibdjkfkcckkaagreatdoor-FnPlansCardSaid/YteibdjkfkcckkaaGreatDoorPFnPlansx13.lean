-- Written by fprint, a program of this session, out of Lean's own print of the translation. Lean checks it.
import Derived.Test.YteibdjkfkcckkaaGreatDoorDense
import Derived.Test.YteibdjkfkcckkaaGreatDoorShort
import Derived.Test.YteibdjkfkcckkaaGreatDoorPFnPlansx0
import Derived.Test.YteibdjkfkcckkaaGreatDoorPFnPlansx8
import Derived.Test.YteibdjkfkcckkaaGreatDoorPFnPlansx9
import Derived.Test.YteibdjkfkcckkaaGreatDoorPFnPlansx10
import Derived.Test.YteibdjkfkcckkaaGreatDoorPFnPlansx11
import Derived.Test.YteibdjkfkcckkaaGreatDoorPFnPlansx12
namespace Go.Proofs.YteibdjkfkcckkaaGreatDoor.PFnPlans
open Go.RowKit Go.Proofs.YteibdjkfkcckkaaGreatDoorW.PrintWords Go.Proofs.YteibdjkfkcckkaaGreatDoorW.PrintLast Go.Proofs.YteibdjkfkcckkaaGreatDoorW.PrintMore
attribute [local go_sem] max2_int min2_int max_two min_two max_three min_three max_four min_four
set_option linter.unusedVariables false
set_option maxHeartbeats 8000000
set_option maxRecDepth 100000
set_option linter.unusedSimpArgs false

theorem b13_0 {p : Prop} (h : p := by exact cB1_ GE339.out) : p := h
theorem b13_2 {p : Prop} (h : p := by exact cR_ HO_4.out) : p := h
theorem b13_4 {p : Prop} (h : p := by exact cO_ BK339.out) : p := h
theorem b13_5 {p : Prop} (h : p := by exact cC_ (Kd.C_below HR338_6.out HB.out)) : p := h
theorem q13_0 {p : Prop} (h : p := by first | exact Kd.R_nil _ _ _ _ _ | exact Kd.N_nil _ _ _ _ _ | exact Kd.V_nil _ _ _ _ _ | exact Kd.Q_nil _ _ _ _ _ | exact Kd.S_nil _ _ _ _ _) : p := h
/-! ### impl_looked: function 20 -/
mutual
def impl_looked.l0 : Nat → List (S36) → List Int → List (S36) → Int → Int → Option (List Int × Int)
 | 0, _, _, _, _, _ => none
 | k + 1, x0, x4, x15, x16, x17 => if x17 < x16 then (if 0 ≤ x17 then (if x17 < (x15.length : Int) then ((impl_in.f ((rd_T36 x15 x17).f0) 1 12).bind fun t340 => (if t340 = true then ((impl_Node_plain.f k ((rd_T36 x15 x17).f0) ((rd_T36 x15 x17).f1) ((rd_T36 x15 x17).f2) ((rd_T36 x15 x17).f3) ((rd_T36 x15 x17).f4) ((rd_T36 x15 x17).f5) ((rd_T36 x15 x17).f6)).bind fun bt341 => ((impl_sameNode.f k ((rd_T36 x15 x17).f0) ((rd_T36 x15 x17).f1) ((rd_T36 x15 x17).f2) ((rd_T36 x15 x17).f3) ((rd_T36 x15 x17).f4) ((rd_T36 x15 x17).f5) ((rd_T36 x15 x17).f6) bt341.1 bt341.2.1 bt341.2.2.1 bt341.2.2.2.1 bt341.2.2.2.2.1 bt341.2.2.2.2.2.1 bt341.2.2.2.2.2.2).bind fun t350 => (if t350 = true then ((impl_Node_reads.f ((rd_T36 x15 x17).f0) ((rd_T36 x15 x17).f1) ((rd_T36 x15 x17).f2) ((rd_T36 x15 x17).f3) ((rd_T36 x15 x17).f4) ((rd_T36 x15 x17).f5) ((rd_T36 x15 x17).f6)).bind fun t351 => (impl_looked.l1 k x0 x4 x17 x15 x16 x17 t351 (t351.length : Int) 0 ((rd_T36 x15 x17).f0) ((rd_T36 x15 x17).f1) ((rd_T36 x15 x17).f2) ((rd_T36 x15 x17).f3) ((rd_T36 x15 x17).f4) ((rd_T36 x15 x17).f5) ((rd_T36 x15 x17).f6))) else (some (([] : List Int), 1))))) else (some (([] : List Int), 5)))) else (none)) else (none)) else (some (x4, 0))
def impl_looked.l1 : Nat → List (S36) → List Int → Int → List (S36) → Int → Int → List Int → Int → Int → Int → Int → Int → Int → Int → Int → List Int → Option (List Int × Int)
 | 0, _, _, _, _, _, _, _, _, _, _, _, _, _, _, _, _ => none
 | k + 1, x0, x4, x5, x15, x16, x17, x34, x35, x36, x340000, x340001, x340002, x340003, x340004, x340005, x340006 => if x36 < x35 then (if 0 ≤ x36 then (if x36 < (x34.length : Int) then ((impl_in.f (rd x34 x36) 0 (wrap64 (x5 - 1))).bind fun t355 => (if t355 = true then (if 0 ≤ (rd x34 x36) then (if (rd x34 x36) < (x0.length : Int) then (if ((rd_T36 x0 (rd x34 x36)).f0) = 12 then (some (([] : List Int), 3)) else (impl_looked.l1 k x0 x4 x5 x15 x16 x17 x34 x35 (wrap64 (x36 + 1)) x340000 x340001 x340002 x340003 x340004 x340005 x340006)) else (none)) else (none)) else (some (([] : List Int), 3)))) else (none)) else (none)) else ((impl_Node_fault.f k x340000 x340001 x340002 x340003 x340004 x340005 x340006 x4).bind fun t357 => (if t357 = 0 then ((impl_Node_width.f x340000 x340001 x340002 x340003 x340004 x340005 x340006 x4).bind fun t358 => (if x4.length < 17592186044416 then (impl_looked.l0 k x0 (x4 ++ [t358]) x15 x16 (wrap64 (x17 + 1))) else (none))) else (some (([] : List Int), t357))))
end
def impl_looked.f (k : Nat) (l0 : List (S36)) : Option (List Int × Int) := (impl_Node.f l0).bind fun t333 => ((impl_in.f t333 1 8).bind fun t334 => (if t334 = true then (impl_looked.l0 k l0 (([] : List Int)) l0 (l0.length : Int) 0) else (some (([] : List Int), 2))))
theorem impl_looked.mono_l : ∀ k, (∀ y0 y1 y2 y3 y4, LeO (impl_looked.l0 k y0 y1 y2 y3 y4) (impl_looked.l0 (k + 1) y0 y1 y2 y3 y4)) ∧ (∀ y0 y1 y2 y3 y4 y5 y6 y7 y8 y9 y10 y11 y12 y13 y14 y15, LeO (impl_looked.l1 k y0 y1 y2 y3 y4 y5 y6 y7 y8 y9 y10 y11 y12 y13 y14 y15) (impl_looked.l1 (k + 1) y0 y1 y2 y3 y4 y5 y6 y7 y8 y9 y10 y11 y12 y13 y14 y15))
 | 0 => ⟨fun _ _ _ _ _ r h => by simp [impl_looked.l0] at h, fun _ _ _ _ _ _ _ _ _ _ _ _ _ _ _ _ r h => by simp [impl_looked.l1] at h⟩
 | k + 1 => by
  obtain ⟨ih0, ih1⟩ := impl_looked.mono_l k
  refine ⟨?_, ?_⟩
  ·intro y0 y1 y2 y3 y4
   unfold impl_looked.l0
   repeat' first
   | (with_reducible exact ih0 _ _ _ _ _)
   | (with_reducible exact ih1 _ _ _ _ _ _ _ _ _ _ _ _ _ _ _ _)
   | (with_reducible exact impl_Node_fault.mono _ _ _ _ _ _ _ _ _)
   | (with_reducible exact impl_Node_plain.mono _ _ _ _ _ _ _ _)
   | (with_reducible exact impl_sameNode.mono _ _ _ _ _ _ _ _ _ _ _ _ _ _ _)
   | (with_reducible exact LeO.refl _)
   | (with_reducible exact LeO.none _)
   | (with_reducible refine LeO.ite ?_ ?_)
   | (with_reducible refine LeO.bind ?_ (fun _ => ?_))
   | refine LeO.ite ?_ ?_
   | refine LeO.bind ?_ (fun _ => ?_)
  ·intro y0 y1 y2 y3 y4 y5 y6 y7 y8 y9 y10 y11 y12 y13 y14 y15
   unfold impl_looked.l1
   repeat' first
   | (with_reducible exact ih0 _ _ _ _ _)
   | (with_reducible exact ih1 _ _ _ _ _ _ _ _ _ _ _ _ _ _ _ _)
   | (with_reducible exact impl_Node_fault.mono _ _ _ _ _ _ _ _ _)
   | (with_reducible exact impl_Node_plain.mono _ _ _ _ _ _ _ _)
   | (with_reducible exact impl_sameNode.mono _ _ _ _ _ _ _ _ _ _ _ _ _ _ _)
   | (with_reducible exact LeO.refl _)
   | (with_reducible exact LeO.none _)
   | (with_reducible refine LeO.ite ?_ ?_)
   | (with_reducible refine LeO.bind ?_ (fun _ => ?_))
   | refine LeO.ite ?_ ?_
   | refine LeO.bind ?_ (fun _ => ?_)
theorem impl_looked.mono : ∀ a0 k, LeO (impl_looked.f k a0) (impl_looked.f (k + 1) a0) := by
 intro a0 k
 obtain ⟨ih0, ih1⟩ := impl_looked.mono_l k
 unfold impl_looked.f
 repeat' first
   | (with_reducible exact ih0 _ _ _ _ _)
   | (with_reducible exact ih1 _ _ _ _ _ _ _ _ _ _ _ _ _ _ _ _)
   | (with_reducible exact impl_Node_fault.mono _ _ _ _ _ _ _ _ _)
   | (with_reducible exact impl_Node_plain.mono _ _ _ _ _ _ _ _)
   | (with_reducible exact impl_sameNode.mono _ _ _ _ _ _ _ _ _ _ _ _ _ _ _)
   | (with_reducible exact LeO.refl _)
   | (with_reducible exact LeO.none _)
   | (with_reducible refine LeO.ite ?_ ?_)
   | (with_reducible refine LeO.bind ?_ (fun _ => ?_))
   | refine LeO.ite ?_ ?_
   | refine LeO.bind ?_ (fun _ => ?_)
theorem impl_looked.calls (k : Nat) (A0 : Option Addr) (c0 : Nat) (l0 : List (S36)) (r1 : List Int) (r2 : Int) (w : World) (hr0 : Kd.C k36 w A0 l0.length l0) (hc0 : l0.length ≤ c0) (h : impl_looked.f k l0 = some (r1, r2)) :
  Calls Tryz.prog 20 #[.slice A0 l0.length c0] w fun e w' => ∃ v0_ : Value, e = .returned (.tuple #[v0_, .int .i64 r2]) ∧ Kd.R (Kd.int .i64) 2 w' w.heap.size (fun _ => True) v0_ r1 ∧ Below w.heap.size w w' := by
 have hu36 := Tryz.underlying36
 have HR0 := Aside0.mk hr0
 have HC0 := Aside0.mk hc0
 clear hr0 hc0
 have HB := Aside0.mk (Below.refl w.heap.size w)
 have H : ((impl_Node.f l0).bind fun t333 => ((impl_in.f t333 1 8).bind fun t334 => (if t334 = true then (impl_looked.l0 k l0 (([] : List Int)) l0 (l0.length : Int) 0) else (some (([] : List Int), 2))))) = some (r1, r2) := h
 clear h
 obtain ⟨t333, A2, H⟩ := bnd_ H
 try dsimp only at H
 obtain ⟨t334, A3, H⟩ := bnd_ H
 try dsimp only at H
 by_cases c4 : t334 = true
 rotate_left
 ·replace c4 := Bool.eq_false_iff.mpr c4
  subst c4
  rw [if_neg (show ¬ (false = true) by decide)] at H
  simp only [Option.some.injEq, Prod.mk.injEq] at H
  obtain ⟨rfl, rfl⟩ := H
  go_enter Tryz.func20, Tryz.ntmps20
  go_wp2_with (first | (refine gl_ 41 (some 11) Tryz.func41 #[.slice A0 l0.length c0] ?_; (with_reducible refine (impl_Node.calls _ _ l0 t333 _ ?side1 ?side2 A2.out).mono ?_); (case side1 => exact cC_ HR0.out); (case side2 => exact HC0.out); rintro e w' ⟨rfl, ⟨nd, rfl⟩⟩; refine ⟨_, rfl, ?_⟩) | (refine gl_ 40 (some 12) Tryz.func40 #[.int .i64 t333, .int .i64 1, .int .i64 8] ?_; (with_reducible refine (impl_in.calls t333 1 8 false _ A3.out).mono ?_); rintro e w' ⟨rfl, ⟨nd, rfl⟩⟩; refine ⟨_, rfl, ?_⟩))
  go_ret2
  exact ⟨_, ce_, q13_0, cB0_⟩
 subst c4
 rw [if_pos rfl] at H
 obtain ⟨y335, hy_⟩ : ∃ y_ : List Int, y_ = (([] : List Int)) := ⟨_, rfl⟩
 replace H : (impl_looked.l0 k l0 y335 l0 (l0.length : Int) 0) = some (r1, r2) := yb_
 have Ny335 := Aside0.mk hy_
 clear hy_
 have H' := Aside0.mk H
 clear H
 go_enter Tryz.func20, Tryz.ntmps20
 go_wp2_with (first | (refine gl_ 41 (some 11) Tryz.func41 #[.slice A0 l0.length c0] ?_; (with_reducible refine (impl_Node.calls _ _ l0 t333 _ ?side1 ?side2 A2.out).mono ?_); (case side1 => exact cC_ HR0.out); (case side2 => exact HC0.out); rintro e w' ⟨rfl, ⟨nd, rfl⟩⟩; refine ⟨_, rfl, ?_⟩) | (refine gl_ 40 (some 12) Tryz.func40 #[.int .i64 t333, .int .i64 1, .int .i64 8] ?_; (with_reducible refine (impl_in.calls t333 1 8 true _ A3.out).mono ?_); rintro e w' ⟨rfl, ⟨nd, rfl⟩⟩; refine ⟨_, rfl, ?_⟩) | ((with_reducible refine gate_dst (N := 14) rfl ?_); refine Kd.R_lit (Kd.int .i64) _ 2 ?hg (N := 14) ?hd (xs := ([] : List Int)) (inner := []) (ok := fun _ => True) (okp := fun _ => True) ?hr ?hp (fun _ hk => hk) trivial (Below.refl _ _) (Nat.le_refl _) (by simp) ?_; (case hd => rfl); (case hg => rfl); (case hr => first | (go_simp; done) | (go_simp; rfl)); (case hp => exact (Reps.none _ _)); intro v336 w5 ho6 hb hg_ hnew_; clear hg_ hnew_; (first | rw [← Ny335.out] at ho6 | (simp only [Int.reduceToNat] at ho6; rw [← Ny335.out] at ho6)); have HO337 := Aside0.mk (Kd.R_lower ho6 (below_size cB0_)); replace HB := Aside0.mk (below_step cB0_ hb); clear hb ho6))
 go_loopg [4, 17] k (fun kq v4 v17 w' => ∃ (x4_1 : List Int) (x17_1 : Int), v17 = .int .i64 x17_1 ∧ Aside0 (impl_looked.l0 kq l0 x4_1 l0 (l0.length : Int) x17_1 = some (r1, r2)) ∧ Aside0 (kq ≤ k) ∧ Aside0 (Kd.R (Kd.int .i64) 2 w' w.heap.size (fun _ => True) v4 x4_1) ∧ Aside0 (Below w.heap.size w w'))
 case atStart => exact ⟨(y335), (0), cs_, H', ⟨Nat.le_refl _⟩, ⟨cR_ HO337.out⟩, ⟨cB0_⟩⟩
 case round =>
  clear H'
  obtain ⟨x4_1, x17_1, rfl, HA, HK1, HO_4, HB⟩ := hrel
  cases gk with
  | zero => exact absurd HA.out (by simp [impl_looked.l0])
  | succ k1 =>
   have H := HA.out
   clear HA
   simp only [impl_looked.l0] at H
   by_cases c7 : x17_1 < (l0.length : Int)
   rotate_left
   ·rw [if_neg c7] at H
    have c7b0 := decide_eq_false c7
    clear c7
    simp only [Option.some.injEq, Prod.mk.injEq] at H
    obtain ⟨rfl, rfl⟩ := H
    go_wp2
    go_ret2
    exact ⟨_, ce_, cR_ HO_4.out, cB0_⟩
   rw [if_pos c7] at H
   have c7b0 := decide_eq_true c7
   clear c7
   by_cases c8 : 0 ≤ x17_1
   rotate_left
   ·rw [if_neg c8] at H
    exact absurd H (by simp)
   rw [if_pos c8] at H
   have c8b0 := decide_eq_true c8
   clear c8
   by_cases c9 : x17_1 < (l0.length : Int)
   rotate_left
   ·rw [if_neg c9] at H
    exact absurd H (by simp)
   rw [if_pos c9] at H
   have c9b0 := decide_eq_true c9
   clear c9
   obtain ⟨t340, A10, H⟩ := bnd_ H
   try dsimp only at H
   by_cases c11 : t340 = true
   rotate_left
   ·replace c11 := Bool.eq_false_iff.mpr c11
    subst c11
    rw [if_neg (show ¬ (false = true) by decide)] at H
    simp only [Option.some.injEq, Prod.mk.injEq] at H
    obtain ⟨rfl, rfl⟩ := H
    have p338 : 0 ≤ (x17_1 : Int) := cd_
    have q338 : x17_1 < (l0.length : Int) := cd_
    obtain ⟨ad338, A338_6, c338_6, e338, hx338_0, hx338_1, hx338_2, hx338_3, hx338_4, hx338_5, hx338_6, hl338_6, hi338_6⟩ := at_T36 HR0.out x17_1 p338 q338
    cases e338
    replace hx338_0 := pw_cell_below HB.out hx338_0
    replace hx338_1 := pw_cell_below HB.out hx338_1
    replace hx338_2 := pw_cell_below HB.out hx338_2
    replace hx338_3 := pw_cell_below HB.out hx338_3
    replace hx338_4 := pw_cell_below HB.out hx338_4
    replace hx338_5 := pw_cell_below HB.out hx338_5
    replace hx338_6 := pw_cell_below HB.out hx338_6
    have HR338_6 := Aside0.mk hi338_6
    have HC338_6 := Aside0.mk hl338_6
    clear hi338_6 hl338_6
    replace p338 := eq_true p338
    replace q338 := eq_true q338
    go_wp2_with (first | (refine bx_ 6 #[.int .i64 0, .int .i64 0, .int .i64 0, .int .i64 0, .int .i64 0, .int .i64 0, .slice none 0 0] 36 ?_; intro gb339 hg w54 hbox hb; replace HO_4 := Aside0.mk (Kd.R_below b13_2 hb); have BK339 := Aside0.mk (hbox); have GW339 := Aside0.mk ((by rw [hg]; exact (below_size cB0_) : w.heap.size ≤ gb339)); have GE339 := Aside0.mk ((by rw [hg]; exact (below_size cB0_) : w.heap.size ≤ gb339)); replace HB := Aside0.mk (below_step cB0_ hb); clear hb hbox hg; obtain ⟨_, _, _, _, _, _, _, _, _, _, _, _, _, _⟩ := cells7 BK339.out) | (refine gl_ 40 (some 25) Tryz.func40 #[.int .i64 ((rd_T36 l0 x17_1).f0), .int .i64 1, .int .i64 12] ?_; (with_reducible refine (impl_in.calls ((rd_T36 l0 x17_1).f0) 1 12 false _ A10.out).mono ?_); rintro e w' ⟨rfl, ⟨nd, rfl⟩⟩; refine ⟨_, rfl, ?_⟩))
    go_ret2
    exact ⟨_, ce_, q13_0, cB1_ GE339.out⟩
   subst c11
   rw [if_pos rfl] at H
   obtain ⟨⟨t341, t342, t343, t344, t345, t346, t347⟩, A12, H⟩ := bnd_ H
   try dsimp only at H
   obtain ⟨t350, A13, H⟩ := bnd_ H
   try dsimp only at H
   by_cases c14 : t350 = true
   rotate_left
   ·replace c14 := Bool.eq_false_iff.mpr c14
    subst c14
    rw [if_neg (show ¬ (false = true) by decide)] at H
    simp only [Option.some.injEq, Prod.mk.injEq] at H
    obtain ⟨rfl, rfl⟩ := H
    have p338 : 0 ≤ (x17_1 : Int) := cd_
    have q338 : x17_1 < (l0.length : Int) := cd_
    obtain ⟨ad338, A338_6, c338_6, e338, hx338_0, hx338_1, hx338_2, hx338_3, hx338_4, hx338_5, hx338_6, hl338_6, hi338_6⟩ := at_T36 HR0.out x17_1 p338 q338
    cases e338
    replace hx338_0 := pw_cell_below HB.out hx338_0
    replace hx338_1 := pw_cell_below HB.out hx338_1
    replace hx338_2 := pw_cell_below HB.out hx338_2
    replace hx338_3 := pw_cell_below HB.out hx338_3
    replace hx338_4 := pw_cell_below HB.out hx338_4
    replace hx338_5 := pw_cell_below HB.out hx338_5
    replace hx338_6 := pw_cell_below HB.out hx338_6
    have HR338_6 := Aside0.mk hi338_6
    have HC338_6 := Aside0.mk hl338_6
    clear hi338_6 hl338_6
    replace p338 := eq_true p338
    replace q338 := eq_true q338
    try go_wp2_with (first | (refine bx_ 6 #[.int .i64 0, .int .i64 0, .int .i64 0, .int .i64 0, .int .i64 0, .int .i64 0, .slice none 0 0] 36 ?_; intro gb339 hg w47 hbox hb; replace HO_4 := Aside0.mk (Kd.R_below b13_2 hb); have BK339 := Aside0.mk (hbox); have GW339 := Aside0.mk ((by rw [hg]; exact (below_size cB0_) : w.heap.size ≤ gb339)); have GE339 := Aside0.mk ((by rw [hg]; exact (below_size cB0_) : w.heap.size ≤ gb339)); replace HB := Aside0.mk (below_step cB0_ hb); clear hb hbox hg; obtain ⟨_, _, _, _, _, _, _, _, _, _, _, _, _, _⟩ := cells7 BK339.out) | (refine gl_ 40 (some 25) Tryz.func40 #[.int .i64 ((rd_T36 l0 x17_1).f0), .int .i64 1, .int .i64 12] ?_; (with_reducible refine (impl_in.calls ((rd_T36 l0 x17_1).f0) 1 12 true _ A10.out).mono ?_); rintro e w' ⟨rfl, ⟨nd, rfl⟩⟩; refine ⟨_, rfl, ?_⟩))
    have n0_ : Aside0 (Kd.R (Kd.int .i64) 2 (((((((w47.setCell ⟨gb339, 0, none⟩ (.int .i64 ((rd_T36 l0 x17_1).f0))).setCell ⟨gb339, 1, none⟩ (.int .i64 ((rd_T36 l0 x17_1).f1))).setCell ⟨gb339, 2, none⟩ (.int .i64 ((rd_T36 l0 x17_1).f2))).setCell ⟨gb339, 3, none⟩ (.int .i64 ((rd_T36 l0 x17_1).f3))).setCell ⟨gb339, 4, none⟩ (.int .i64 ((rd_T36 l0 x17_1).f4))).setCell ⟨gb339, 5, none⟩ (.int .i64 ((rd_T36 l0 x17_1).f5))).setCell ⟨gb339, 6, none⟩ (.slice A338_6 ((rd_T36 l0 x17_1).f6).length c338_6)) w.heap.size (fun _ => True) u4 x4_1) := ⟨by refine cR_ ?_; exact Kd.R_mono (Kd.R_far (p := ⟨gb339, 6, none⟩) (Kd.R_far (p := ⟨gb339, 5, none⟩) (Kd.R_far (p := ⟨gb339, 4, none⟩) (Kd.R_far (p := ⟨gb339, 3, none⟩) (Kd.R_far (p := ⟨gb339, 2, none⟩) (Kd.R_far (p := ⟨gb339, 1, none⟩) (Kd.R_far (p := ⟨gb339, 0, none⟩) (Kd.R_types HO_4.out BK339.out (by decide)) (fun _ hk => hk.2) (.int .i64 ((rd_T36 l0 x17_1).f0))) (fun _ hk => hk.2) (.int .i64 ((rd_T36 l0 x17_1).f1))) (fun _ hk => hk.2) (.int .i64 ((rd_T36 l0 x17_1).f2))) (fun _ hk => hk.2) (.int .i64 ((rd_T36 l0 x17_1).f3))) (fun _ hk => hk.2) (.int .i64 ((rd_T36 l0 x17_1).f4))) (fun _ hk => hk.2) (.int .i64 ((rd_T36 l0 x17_1).f5))) (fun _ hk => hk.2) (.slice A338_6 ((rd_T36 l0 x17_1).f6).length c338_6)) (fun _ hk => trivial)⟩
    have n1_ : Aside0 ((((((((w47.setCell ⟨gb339, 0, none⟩ (.int .i64 ((rd_T36 l0 x17_1).f0))).setCell ⟨gb339, 1, none⟩ (.int .i64 ((rd_T36 l0 x17_1).f1))).setCell ⟨gb339, 2, none⟩ (.int .i64 ((rd_T36 l0 x17_1).f2))).setCell ⟨gb339, 3, none⟩ (.int .i64 ((rd_T36 l0 x17_1).f3))).setCell ⟨gb339, 4, none⟩ (.int .i64 ((rd_T36 l0 x17_1).f4))).setCell ⟨gb339, 5, none⟩ (.int .i64 ((rd_T36 l0 x17_1).f5))).setCell ⟨gb339, 6, none⟩ (.slice A338_6 ((rd_T36 l0 x17_1).f6).length c338_6)).heap[gb339]? = some (.cells #[.int .i64 ((rd_T36 l0 x17_1).f0), .int .i64 ((rd_T36 l0 x17_1).f1), .int .i64 ((rd_T36 l0 x17_1).f2), .int .i64 ((rd_T36 l0 x17_1).f3), .int .i64 ((rd_T36 l0 x17_1).f4), .int .i64 ((rd_T36 l0 x17_1).f5), .slice A338_6 ((rd_T36 l0 x17_1).f6).length c338_6] 36 (0, 0))) := ⟨by refine cO_ ?_; refine blk_put (cs := #[.int .i64 ((rd_T36 l0 x17_1).f0), .int .i64 ((rd_T36 l0 x17_1).f1), .int .i64 ((rd_T36 l0 x17_1).f2), .int .i64 ((rd_T36 l0 x17_1).f3), .int .i64 ((rd_T36 l0 x17_1).f4), .int .i64 ((rd_T36 l0 x17_1).f5), .slice none 0 0]) ?_ 6 _ rfl; refine cO_ ?_; refine blk_put (cs := #[.int .i64 ((rd_T36 l0 x17_1).f0), .int .i64 ((rd_T36 l0 x17_1).f1), .int .i64 ((rd_T36 l0 x17_1).f2), .int .i64 ((rd_T36 l0 x17_1).f3), .int .i64 ((rd_T36 l0 x17_1).f4), .int .i64 0, .slice none 0 0]) ?_ 5 _ rfl; refine cO_ ?_; refine blk_put (cs := #[.int .i64 ((rd_T36 l0 x17_1).f0), .int .i64 ((rd_T36 l0 x17_1).f1), .int .i64 ((rd_T36 l0 x17_1).f2), .int .i64 ((rd_T36 l0 x17_1).f3), .int .i64 0, .int .i64 0, .slice none 0 0]) ?_ 4 _ rfl; refine cO_ ?_; refine blk_put (cs := #[.int .i64 ((rd_T36 l0 x17_1).f0), .int .i64 ((rd_T36 l0 x17_1).f1), .int .i64 ((rd_T36 l0 x17_1).f2), .int .i64 0, .int .i64 0, .int .i64 0, .slice none 0 0]) ?_ 3 _ rfl; refine cO_ ?_; refine blk_put (cs := #[.int .i64 ((rd_T36 l0 x17_1).f0), .int .i64 ((rd_T36 l0 x17_1).f1), .int .i64 0, .int .i64 0, .int .i64 0, .int .i64 0, .slice none 0 0]) ?_ 2 _ rfl; refine cO_ ?_; refine blk_put (cs := #[.int .i64 ((rd_T36 l0 x17_1).f0), .int .i64 0, .int .i64 0, .int .i64 0, .int .i64 0, .int .i64 0, .slice none 0 0]) ?_ 1 _ rfl; refine cO_ ?_; refine blk_put (cs := #[.int .i64 0, .int .i64 0, .int .i64 0, .int .i64 0, .int .i64 0, .int .i64 0, .slice none 0 0]) ?_ 0 _ rfl; refine cO_ ?_; exact BK339.out⟩
    have n2_ : Aside0 (Below w.heap.size w (((((((w47.setCell ⟨gb339, 0, none⟩ (.int .i64 ((rd_T36 l0 x17_1).f0))).setCell ⟨gb339, 1, none⟩ (.int .i64 ((rd_T36 l0 x17_1).f1))).setCell ⟨gb339, 2, none⟩ (.int .i64 ((rd_T36 l0 x17_1).f2))).setCell ⟨gb339, 3, none⟩ (.int .i64 ((rd_T36 l0 x17_1).f3))).setCell ⟨gb339, 4, none⟩ (.int .i64 ((rd_T36 l0 x17_1).f4))).setCell ⟨gb339, 5, none⟩ (.int .i64 ((rd_T36 l0 x17_1).f5))).setCell ⟨gb339, 6, none⟩ (.slice A338_6 ((rd_T36 l0 x17_1).f6).length c338_6))) := ⟨cB1_ GE339.out⟩
    (try clear HO_4)
    (try clear BK339)
    (try clear HB)
    generalize (((((((w47.setCell ⟨gb339, 0, none⟩ (.int .i64 ((rd_T36 l0 x17_1).f0))).setCell ⟨gb339, 1, none⟩ (.int .i64 ((rd_T36 l0 x17_1).f1))).setCell ⟨gb339, 2, none⟩ (.int .i64 ((rd_T36 l0 x17_1).f2))).setCell ⟨gb339, 3, none⟩ (.int .i64 ((rd_T36 l0 x17_1).f3))).setCell ⟨gb339, 4, none⟩ (.int .i64 ((rd_T36 l0 x17_1).f4))).setCell ⟨gb339, 5, none⟩ (.int .i64 ((rd_T36 l0 x17_1).f5))).setCell ⟨gb339, 6, none⟩ (.slice A338_6 ((rd_T36 l0 x17_1).f6).length c338_6)) = w49 at n0_ n1_ n2_ ⊢
    have HO_4 := n0_
    have BK339 := n1_
    have HB := n2_
    clear n0_ n1_ n2_
    (try simp only [World.drewN_drewN]); (try (rw [drewN_self w49]; generalize hq_ : World.drewN w49 _ = w49; have n0_ : Aside0 (Kd.R (Kd.int .i64) 2 w49 w.heap.size (fun _ => True) u4 x4_1) := ⟨by rw [← hq_]; exact b13_2⟩; have n1_ : Aside0 (w49.heap[gb339]? = some (.cells #[.int .i64 ((rd_T36 l0 x17_1).f0), .int .i64 ((rd_T36 l0 x17_1).f1), .int .i64 ((rd_T36 l0 x17_1).f2), .int .i64 ((rd_T36 l0 x17_1).f3), .int .i64 ((rd_T36 l0 x17_1).f4), .int .i64 ((rd_T36 l0 x17_1).f5), .slice A338_6 ((rd_T36 l0 x17_1).f6).length c338_6] 36 (0, 0))) := ⟨by rw [← hq_]; exact b13_4⟩; have n2_ : Aside0 (Below w.heap.size w w49) := ⟨by rw [← hq_]; exact b13_0⟩; clear HO_4 BK339 HB hq_; have HO_4 := n0_; have BK339 := n1_; have HB := n2_; clear n0_ n1_ n2_))
    replace HO_4 := Aside0.mk (Kd.R_drew HO_4.out)
    replace BK339 := Aside0.mk (blk_drew BK339.out)
    replace HB := Aside0.mk (below_drew1 HB.out)
    refine start_ (n := 6) (S := fun w' => w'.cell? ⟨gb339, 0, none⟩ = some (.int .i64 ((rd_T36 l0 x17_1).f0)) ∧ w'.cell? ⟨gb339, 1, none⟩ = some (.int .i64 ((rd_T36 l0 x17_1).f1)) ∧ w'.cell? ⟨gb339, 2, none⟩ = some (.int .i64 ((rd_T36 l0 x17_1).f2)) ∧ w'.cell? ⟨gb339, 3, none⟩ = some (.int .i64 ((rd_T36 l0 x17_1).f3)) ∧ w'.cell? ⟨gb339, 4, none⟩ = some (.int .i64 ((rd_T36 l0 x17_1).f4)) ∧ w'.cell? ⟨gb339, 5, none⟩ = some (.int .i64 ((rd_T36 l0 x17_1).f5)) ∧ w'.cell? ⟨gb339, 6, none⟩ = some (.slice A338_6 ((rd_T36 l0 x17_1).f6).length c338_6)) (ds := []) (bl 6 0) (by kernel_rfl) rfl rfl ⟨(blk_cell BK339.out 0).trans rfl, (blk_cell BK339.out 1).trans rfl, (blk_cell BK339.out 2).trans rfl, (blk_cell BK339.out 3).trans rfl, (blk_cell BK339.out 4).trans rfl, (blk_cell BK339.out 5).trans rfl, (blk_cell BK339.out 6).trans rfl⟩ (fun hHeld => ?_)
    generalize w49.drew = w50 at HO_4 BK339 HB hHeld ⊢
    refine tk_ 0 (some 28) (bl 6 1) rfl hHeld (fun w' s_ => by obtain ⟨s0, s1, s2, s3, s4, s5, s6⟩ := s_; go_simp; with_reducible rfl) ?_
    refine tk_ 1 (some 29) (bl 6 3) rfl hHeld (fun w' s_ => by obtain ⟨s0, s1, s2, s3, s4, s5, s6⟩ := s_; go_simp; with_reducible rfl) ?_
    refine ok_ 2 (some 30) (bl 6 7) rfl (fun K hK => ?_)
    refine goes_ Tryz.func43 (by kernel_rfl) rfl #[.agg #[.int .i64 ((rd_T36 l0 x17_1).f0), .int .i64 ((rd_T36 l0 x17_1).f1), .int .i64 ((rd_T36 l0 x17_1).f2), .int .i64 ((rd_T36 l0 x17_1).f3), .int .i64 ((rd_T36 l0 x17_1).f4), .int .i64 ((rd_T36 l0 x17_1).f5), .slice A338_6 ((rd_T36 l0 x17_1).f6).length c338_6]] (by rfl) rfl rfl cx_ ?_
    with_reducible refine (impl_Node_plain.calls k1 ((rd_T36 l0 x17_1).f0) ((rd_T36 l0 x17_1).f1) ((rd_T36 l0 x17_1).f2) ((rd_T36 l0 x17_1).f3) ((rd_T36 l0 x17_1).f4) ((rd_T36 l0 x17_1).f5) (fun k_ => k_ < w.heap.size) _ _ ((rd_T36 l0 x17_1).f6) t341 t342 t343 t344 t345 t346 t347 _ ?side1 A12.out).mono ?_
    (case side1 => exact (by exact Kd.V_mk HC338_6.out (Kd.F_below (Kd.C_F (Kd.heap_int .i64) HR338_6.out) b13_0)))
    rintro e w51 ⟨v348, rfl, ho0, hb⟩
    refine ⟨_, rfl, ?_⟩
    have HO349 := Aside0.mk (Kd.V_lower (Kd.V_mono (ok' := fun k_ => some k_ ≠ (u4 : Value).ownBlock ∧ k_ ≠ gb339) ho0 (fun k_ hk_ => ⟨Or.elim hk_ (fun hs_ => fun e_ => Nat.not_le.2 hs_ (Kd.R_base HO_4.out k_ e_.symm)) (fun hn_ => (Kd.fresh' (Kd.R_lt b13_2) k_ hn_)), Or.elim hk_ (fun hs_ => fun e_ => Nat.not_le.2 hs_ (by rw [e_]; exact GW339.out)) (fun hn_ => (Kd.freshB (g := gb339) (o := .cells #[.int .i64 ((rd_T36 l0 x17_1).f0), .int .i64 ((rd_T36 l0 x17_1).f1), .int .i64 ((rd_T36 l0 x17_1).f2), .int .i64 ((rd_T36 l0 x17_1).f3), .int .i64 ((rd_T36 l0 x17_1).f4), .int .i64 ((rd_T36 l0 x17_1).f5), .slice A338_6 ((rd_T36 l0 x17_1).f6).length c338_6] 36 (0, 0)) b13_4 k_ hn_))⟩)) (below_size b13_0))
    replace HO_4 := Aside0.mk (Kd.R_below b13_2 hb)
    replace BK339 := Aside0.mk (blk_below (g := gb339) (o := .cells #[.int .i64 ((rd_T36 l0 x17_1).f0), .int .i64 ((rd_T36 l0 x17_1).f1), .int .i64 ((rd_T36 l0 x17_1).f2), .int .i64 ((rd_T36 l0 x17_1).f3), .int .i64 ((rd_T36 l0 x17_1).f4), .int .i64 ((rd_T36 l0 x17_1).f5), .slice A338_6 ((rd_T36 l0 x17_1).f6).length c338_6] 36 (0, 0)) b13_4 hb)
    replace HB := Aside0.mk (below_step b13_0 hb)
    (try clear hb)
    (try clear ho0)
    obtain ⟨Ao52, co52, eo52⟩ := Kd.V_slice HO349.out
    (first | subst eo52 | (injection eo52 with f1_ f2_ f3_; have f4_ := f1_.symm; have f5_ := f3_.symm; clear f1_ f2_ f3_; subst f4_; subst f5_))
    refine hK.out _ _ ⟨(blk_cell BK339.out 0).trans rfl, (blk_cell BK339.out 1).trans rfl, (blk_cell BK339.out 2).trans rfl, (blk_cell BK339.out 3).trans rfl, (blk_cell BK339.out 4).trans rfl, (blk_cell BK339.out 5).trans rfl, (blk_cell BK339.out 6).trans rfl⟩ (fun hHeld => ?_)
    clear hK K
    refine nm_ (some 30) ?_
    refine ok_ 3 (some 31) (bl 6 15) rfl (fun K hK => ?_)
    refine goes_ Tryz.func42 (by kernel_rfl) rfl #[.agg #[.int .i64 ((rd_T36 l0 x17_1).f0), .int .i64 ((rd_T36 l0 x17_1).f1), .int .i64 ((rd_T36 l0 x17_1).f2), .int .i64 ((rd_T36 l0 x17_1).f3), .int .i64 ((rd_T36 l0 x17_1).f4), .int .i64 ((rd_T36 l0 x17_1).f5), .slice A338_6 ((rd_T36 l0 x17_1).f6).length c338_6], .agg #[.int .i64 t341, .int .i64 t342, .int .i64 t343, .int .i64 t344, .int .i64 t345, .int .i64 t346, .slice Ao52 t347.length co52]] (by rfl) rfl rfl cx_ ?_
    with_reducible refine (impl_sameNode.calls k1 ((rd_T36 l0 x17_1).f0) ((rd_T36 l0 x17_1).f1) ((rd_T36 l0 x17_1).f2) ((rd_T36 l0 x17_1).f3) ((rd_T36 l0 x17_1).f4) ((rd_T36 l0 x17_1).f5) _ _ ((rd_T36 l0 x17_1).f6) t341 t342 t343 t344 t345 t346 _ _ t347 false _ ?side1 ?side2 ?side3 ?side4 A13.out).mono ?_
    (case side1 => exact b13_5)
    (case side2 => exact HC338_6.out)
    (case side3 => exact cC_ ((Kd.V_reads' HO349.out).2.2))
    (case side4 => exact (Kd.V_reads' HO349.out).2.1)
    rintro e w53 ⟨rfl, hb⟩
    refine ⟨_, rfl, ?_⟩
    replace HO_4 := Aside0.mk (Kd.R_below b13_2 hb)
    replace HO349 := Aside0.mk (Kd.V_below (cV_ HO349.out) hb)
    replace BK339 := Aside0.mk (blk_below (g := gb339) (o := .cells #[.int .i64 ((rd_T36 l0 x17_1).f0), .int .i64 ((rd_T36 l0 x17_1).f1), .int .i64 ((rd_T36 l0 x17_1).f2), .int .i64 ((rd_T36 l0 x17_1).f3), .int .i64 ((rd_T36 l0 x17_1).f4), .int .i64 ((rd_T36 l0 x17_1).f5), .slice A338_6 ((rd_T36 l0 x17_1).f6).length c338_6] 36 (0, 0)) b13_4 hb)
    replace HB := Aside0.mk (below_step b13_0 hb)
    (try clear hb)
    refine hK.out _ _ ⟨(blk_cell BK339.out 0).trans rfl, (blk_cell BK339.out 1).trans rfl, (blk_cell BK339.out 2).trans rfl, (blk_cell BK339.out 3).trans rfl, (blk_cell BK339.out 4).trans rfl, (blk_cell BK339.out 5).trans rfl, (blk_cell BK339.out 6).trans rfl⟩ (fun hHeld => ?_)
    clear hK K
    refine nm_ (some 31) ?_
    refine pk_ 4 (some 32) (bl 6 31) rfl ?_
    refine pk_ 5 (some 27) (bl 6 63) rfl ?_
    refine done_ (by kernel_rfl) ?_
    try go_wp2
    go_ret2
    exact ⟨_, ce_, q13_0, cB1_ GE339.out⟩
   subst c14
   rw [if_pos rfl] at H
   obtain ⟨t351, A15, H⟩ := bnd_ H
   try dsimp only at H
   have H' := Aside0.mk H
   clear H
   have p338 : 0 ≤ (x17_1 : Int) := cd_
   have q338 : x17_1 < (l0.length : Int) := cd_
   obtain ⟨ad338, A338_6, c338_6, e338, hx338_0, hx338_1, hx338_2, hx338_3, hx338_4, hx338_5, hx338_6, hl338_6, hi338_6⟩ := at_T36 HR0.out x17_1 p338 q338
   cases e338
   replace hx338_0 := pw_cell_below HB.out hx338_0
   replace hx338_1 := pw_cell_below HB.out hx338_1
   replace hx338_2 := pw_cell_below HB.out hx338_2
   replace hx338_3 := pw_cell_below HB.out hx338_3
   replace hx338_4 := pw_cell_below HB.out hx338_4
   replace hx338_5 := pw_cell_below HB.out hx338_5
   replace hx338_6 := pw_cell_below HB.out hx338_6
   have HR338_6 := Aside0.mk hi338_6
   have HC338_6 := Aside0.mk hl338_6
   clear hi338_6 hl338_6
   replace p338 := eq_true p338
   replace q338 := eq_true q338
   try go_wp2_with (first | (refine bx_ 6 #[.int .i64 0, .int .i64 0, .int .i64 0, .int .i64 0, .int .i64 0, .int .i64 0, .slice none 0 0] 36 ?_; intro gb339 hg w16 hbox hb; replace HO_4 := Aside0.mk (Kd.R_below b13_2 hb); have BK339 := Aside0.mk (hbox); have GW339 := Aside0.mk ((by rw [hg]; exact (below_size cB0_) : w.heap.size ≤ gb339)); have GE339 := Aside0.mk ((by rw [hg]; exact (below_size cB0_) : w.heap.size ≤ gb339)); replace HB := Aside0.mk (below_step cB0_ hb); clear hb hbox hg; obtain ⟨_, _, _, _, _, _, _, _, _, _, _, _, _, _⟩ := cells7 BK339.out) | (refine gl_ 40 (some 25) Tryz.func40 #[.int .i64 ((rd_T36 l0 x17_1).f0), .int .i64 1, .int .i64 12] ?_; (with_reducible refine (impl_in.calls ((rd_T36 l0 x17_1).f0) 1 12 true _ A10.out).mono ?_); rintro e w' ⟨rfl, ⟨nd, rfl⟩⟩; refine ⟨_, rfl, ?_⟩))
   have n0_ : Aside0 (Kd.R (Kd.int .i64) 2 (((((((w16.setCell ⟨gb339, 0, none⟩ (.int .i64 ((rd_T36 l0 x17_1).f0))).setCell ⟨gb339, 1, none⟩ (.int .i64 ((rd_T36 l0 x17_1).f1))).setCell ⟨gb339, 2, none⟩ (.int .i64 ((rd_T36 l0 x17_1).f2))).setCell ⟨gb339, 3, none⟩ (.int .i64 ((rd_T36 l0 x17_1).f3))).setCell ⟨gb339, 4, none⟩ (.int .i64 ((rd_T36 l0 x17_1).f4))).setCell ⟨gb339, 5, none⟩ (.int .i64 ((rd_T36 l0 x17_1).f5))).setCell ⟨gb339, 6, none⟩ (.slice A338_6 ((rd_T36 l0 x17_1).f6).length c338_6)) w.heap.size (fun _ => True) u4 x4_1) := ⟨by refine cR_ ?_; exact Kd.R_mono (Kd.R_far (p := ⟨gb339, 6, none⟩) (Kd.R_far (p := ⟨gb339, 5, none⟩) (Kd.R_far (p := ⟨gb339, 4, none⟩) (Kd.R_far (p := ⟨gb339, 3, none⟩) (Kd.R_far (p := ⟨gb339, 2, none⟩) (Kd.R_far (p := ⟨gb339, 1, none⟩) (Kd.R_far (p := ⟨gb339, 0, none⟩) (Kd.R_types HO_4.out BK339.out (by decide)) (fun _ hk => hk.2) (.int .i64 ((rd_T36 l0 x17_1).f0))) (fun _ hk => hk.2) (.int .i64 ((rd_T36 l0 x17_1).f1))) (fun _ hk => hk.2) (.int .i64 ((rd_T36 l0 x17_1).f2))) (fun _ hk => hk.2) (.int .i64 ((rd_T36 l0 x17_1).f3))) (fun _ hk => hk.2) (.int .i64 ((rd_T36 l0 x17_1).f4))) (fun _ hk => hk.2) (.int .i64 ((rd_T36 l0 x17_1).f5))) (fun _ hk => hk.2) (.slice A338_6 ((rd_T36 l0 x17_1).f6).length c338_6)) (fun _ hk => trivial)⟩
   have n1_ : Aside0 ((((((((w16.setCell ⟨gb339, 0, none⟩ (.int .i64 ((rd_T36 l0 x17_1).f0))).setCell ⟨gb339, 1, none⟩ (.int .i64 ((rd_T36 l0 x17_1).f1))).setCell ⟨gb339, 2, none⟩ (.int .i64 ((rd_T36 l0 x17_1).f2))).setCell ⟨gb339, 3, none⟩ (.int .i64 ((rd_T36 l0 x17_1).f3))).setCell ⟨gb339, 4, none⟩ (.int .i64 ((rd_T36 l0 x17_1).f4))).setCell ⟨gb339, 5, none⟩ (.int .i64 ((rd_T36 l0 x17_1).f5))).setCell ⟨gb339, 6, none⟩ (.slice A338_6 ((rd_T36 l0 x17_1).f6).length c338_6)).heap[gb339]? = some (.cells #[.int .i64 ((rd_T36 l0 x17_1).f0), .int .i64 ((rd_T36 l0 x17_1).f1), .int .i64 ((rd_T36 l0 x17_1).f2), .int .i64 ((rd_T36 l0 x17_1).f3), .int .i64 ((rd_T36 l0 x17_1).f4), .int .i64 ((rd_T36 l0 x17_1).f5), .slice A338_6 ((rd_T36 l0 x17_1).f6).length c338_6] 36 (0, 0))) := ⟨by refine cO_ ?_; refine blk_put (cs := #[.int .i64 ((rd_T36 l0 x17_1).f0), .int .i64 ((rd_T36 l0 x17_1).f1), .int .i64 ((rd_T36 l0 x17_1).f2), .int .i64 ((rd_T36 l0 x17_1).f3), .int .i64 ((rd_T36 l0 x17_1).f4), .int .i64 ((rd_T36 l0 x17_1).f5), .slice none 0 0]) ?_ 6 _ rfl; refine cO_ ?_; refine blk_put (cs := #[.int .i64 ((rd_T36 l0 x17_1).f0), .int .i64 ((rd_T36 l0 x17_1).f1), .int .i64 ((rd_T36 l0 x17_1).f2), .int .i64 ((rd_T36 l0 x17_1).f3), .int .i64 ((rd_T36 l0 x17_1).f4), .int .i64 0, .slice none 0 0]) ?_ 5 _ rfl; refine cO_ ?_; refine blk_put (cs := #[.int .i64 ((rd_T36 l0 x17_1).f0), .int .i64 ((rd_T36 l0 x17_1).f1), .int .i64 ((rd_T36 l0 x17_1).f2), .int .i64 ((rd_T36 l0 x17_1).f3), .int .i64 0, .int .i64 0, .slice none 0 0]) ?_ 4 _ rfl; refine cO_ ?_; refine blk_put (cs := #[.int .i64 ((rd_T36 l0 x17_1).f0), .int .i64 ((rd_T36 l0 x17_1).f1), .int .i64 ((rd_T36 l0 x17_1).f2), .int .i64 0, .int .i64 0, .int .i64 0, .slice none 0 0]) ?_ 3 _ rfl; refine cO_ ?_; refine blk_put (cs := #[.int .i64 ((rd_T36 l0 x17_1).f0), .int .i64 ((rd_T36 l0 x17_1).f1), .int .i64 0, .int .i64 0, .int .i64 0, .int .i64 0, .slice none 0 0]) ?_ 2 _ rfl; refine cO_ ?_; refine blk_put (cs := #[.int .i64 ((rd_T36 l0 x17_1).f0), .int .i64 0, .int .i64 0, .int .i64 0, .int .i64 0, .int .i64 0, .slice none 0 0]) ?_ 1 _ rfl; refine cO_ ?_; refine blk_put (cs := #[.int .i64 0, .int .i64 0, .int .i64 0, .int .i64 0, .int .i64 0, .int .i64 0, .slice none 0 0]) ?_ 0 _ rfl; refine cO_ ?_; exact BK339.out⟩
   have n2_ : Aside0 (Below w.heap.size w (((((((w16.setCell ⟨gb339, 0, none⟩ (.int .i64 ((rd_T36 l0 x17_1).f0))).setCell ⟨gb339, 1, none⟩ (.int .i64 ((rd_T36 l0 x17_1).f1))).setCell ⟨gb339, 2, none⟩ (.int .i64 ((rd_T36 l0 x17_1).f2))).setCell ⟨gb339, 3, none⟩ (.int .i64 ((rd_T36 l0 x17_1).f3))).setCell ⟨gb339, 4, none⟩ (.int .i64 ((rd_T36 l0 x17_1).f4))).setCell ⟨gb339, 5, none⟩ (.int .i64 ((rd_T36 l0 x17_1).f5))).setCell ⟨gb339, 6, none⟩ (.slice A338_6 ((rd_T36 l0 x17_1).f6).length c338_6))) := ⟨cB1_ GE339.out⟩
   (try clear HO_4)
   (try clear BK339)
   (try clear HB)
   generalize (((((((w16.setCell ⟨gb339, 0, none⟩ (.int .i64 ((rd_T36 l0 x17_1).f0))).setCell ⟨gb339, 1, none⟩ (.int .i64 ((rd_T36 l0 x17_1).f1))).setCell ⟨gb339, 2, none⟩ (.int .i64 ((rd_T36 l0 x17_1).f2))).setCell ⟨gb339, 3, none⟩ (.int .i64 ((rd_T36 l0 x17_1).f3))).setCell ⟨gb339, 4, none⟩ (.int .i64 ((rd_T36 l0 x17_1).f4))).setCell ⟨gb339, 5, none⟩ (.int .i64 ((rd_T36 l0 x17_1).f5))).setCell ⟨gb339, 6, none⟩ (.slice A338_6 ((rd_T36 l0 x17_1).f6).length c338_6)) = w18 at n0_ n1_ n2_ ⊢
   have HO_4 := n0_
   have BK339 := n1_
   have HB := n2_
   clear n0_ n1_ n2_
   (try simp only [World.drewN_drewN]); (try (rw [drewN_self w18]; generalize hq_ : World.drewN w18 _ = w18; have n0_ : Aside0 (Kd.R (Kd.int .i64) 2 w18 w.heap.size (fun _ => True) u4 x4_1) := ⟨by rw [← hq_]; exact b13_2⟩; have n1_ : Aside0 (w18.heap[gb339]? = some (.cells #[.int .i64 ((rd_T36 l0 x17_1).f0), .int .i64 ((rd_T36 l0 x17_1).f1), .int .i64 ((rd_T36 l0 x17_1).f2), .int .i64 ((rd_T36 l0 x17_1).f3), .int .i64 ((rd_T36 l0 x17_1).f4), .int .i64 ((rd_T36 l0 x17_1).f5), .slice A338_6 ((rd_T36 l0 x17_1).f6).length c338_6] 36 (0, 0))) := ⟨by rw [← hq_]; exact b13_4⟩; have n2_ : Aside0 (Below w.heap.size w w18) := ⟨by rw [← hq_]; exact b13_0⟩; clear HO_4 BK339 HB hq_; have HO_4 := n0_; have BK339 := n1_; have HB := n2_; clear n0_ n1_ n2_))
   replace HO_4 := Aside0.mk (Kd.R_drew HO_4.out)
   replace BK339 := Aside0.mk (blk_drew BK339.out)
   replace HB := Aside0.mk (below_drew1 HB.out)
   refine start_ (n := 6) (S := fun w' => w'.cell? ⟨gb339, 0, none⟩ = some (.int .i64 ((rd_T36 l0 x17_1).f0)) ∧ w'.cell? ⟨gb339, 1, none⟩ = some (.int .i64 ((rd_T36 l0 x17_1).f1)) ∧ w'.cell? ⟨gb339, 2, none⟩ = some (.int .i64 ((rd_T36 l0 x17_1).f2)) ∧ w'.cell? ⟨gb339, 3, none⟩ = some (.int .i64 ((rd_T36 l0 x17_1).f3)) ∧ w'.cell? ⟨gb339, 4, none⟩ = some (.int .i64 ((rd_T36 l0 x17_1).f4)) ∧ w'.cell? ⟨gb339, 5, none⟩ = some (.int .i64 ((rd_T36 l0 x17_1).f5)) ∧ w'.cell? ⟨gb339, 6, none⟩ = some (.slice A338_6 ((rd_T36 l0 x17_1).f6).length c338_6)) (ds := []) (bl 6 0) (by kernel_rfl) rfl rfl ⟨(blk_cell BK339.out 0).trans rfl, (blk_cell BK339.out 1).trans rfl, (blk_cell BK339.out 2).trans rfl, (blk_cell BK339.out 3).trans rfl, (blk_cell BK339.out 4).trans rfl, (blk_cell BK339.out 5).trans rfl, (blk_cell BK339.out 6).trans rfl⟩ (fun hHeld => ?_)
   generalize w18.drew = w19 at HO_4 BK339 HB hHeld ⊢
   refine tk_ 0 (some 28) (bl 6 1) rfl hHeld (fun w' s_ => by obtain ⟨s0, s1, s2, s3, s4, s5, s6⟩ := s_; go_simp; with_reducible rfl) ?_
   refine tk_ 1 (some 29) (bl 6 3) rfl hHeld (fun w' s_ => by obtain ⟨s0, s1, s2, s3, s4, s5, s6⟩ := s_; go_simp; with_reducible rfl) ?_
   refine ok_ 2 (some 30) (bl 6 7) rfl (fun K hK => ?_)
   refine goes_ Tryz.func43 (by kernel_rfl) rfl #[.agg #[.int .i64 ((rd_T36 l0 x17_1).f0), .int .i64 ((rd_T36 l0 x17_1).f1), .int .i64 ((rd_T36 l0 x17_1).f2), .int .i64 ((rd_T36 l0 x17_1).f3), .int .i64 ((rd_T36 l0 x17_1).f4), .int .i64 ((rd_T36 l0 x17_1).f5), .slice A338_6 ((rd_T36 l0 x17_1).f6).length c338_6]] (by rfl) rfl rfl cx_ ?_
   with_reducible refine (impl_Node_plain.calls k1 ((rd_T36 l0 x17_1).f0) ((rd_T36 l0 x17_1).f1) ((rd_T36 l0 x17_1).f2) ((rd_T36 l0 x17_1).f3) ((rd_T36 l0 x17_1).f4) ((rd_T36 l0 x17_1).f5) (fun k_ => k_ < w.heap.size) _ _ ((rd_T36 l0 x17_1).f6) t341 t342 t343 t344 t345 t346 t347 _ ?side1 A12.out).mono ?_
   (case side1 => exact (by exact Kd.V_mk HC338_6.out (Kd.F_below (Kd.C_F (Kd.heap_int .i64) HR338_6.out) b13_0)))
   rintro e w20 ⟨v348, rfl, ho0, hb⟩
   refine ⟨_, rfl, ?_⟩
   have HO349 := Aside0.mk (Kd.V_lower (Kd.V_mono (ok' := fun k_ => some k_ ≠ (u4 : Value).ownBlock ∧ k_ ≠ gb339) ho0 (fun k_ hk_ => ⟨Or.elim hk_ (fun hs_ => fun e_ => Nat.not_le.2 hs_ (Kd.R_base HO_4.out k_ e_.symm)) (fun hn_ => (Kd.fresh' (Kd.R_lt b13_2) k_ hn_)), Or.elim hk_ (fun hs_ => fun e_ => Nat.not_le.2 hs_ (by rw [e_]; exact GW339.out)) (fun hn_ => (Kd.freshB (g := gb339) (o := .cells #[.int .i64 ((rd_T36 l0 x17_1).f0), .int .i64 ((rd_T36 l0 x17_1).f1), .int .i64 ((rd_T36 l0 x17_1).f2), .int .i64 ((rd_T36 l0 x17_1).f3), .int .i64 ((rd_T36 l0 x17_1).f4), .int .i64 ((rd_T36 l0 x17_1).f5), .slice A338_6 ((rd_T36 l0 x17_1).f6).length c338_6] 36 (0, 0)) b13_4 k_ hn_))⟩)) (below_size b13_0))
   replace HO_4 := Aside0.mk (Kd.R_below b13_2 hb)
   replace BK339 := Aside0.mk (blk_below (g := gb339) (o := .cells #[.int .i64 ((rd_T36 l0 x17_1).f0), .int .i64 ((rd_T36 l0 x17_1).f1), .int .i64 ((rd_T36 l0 x17_1).f2), .int .i64 ((rd_T36 l0 x17_1).f3), .int .i64 ((rd_T36 l0 x17_1).f4), .int .i64 ((rd_T36 l0 x17_1).f5), .slice A338_6 ((rd_T36 l0 x17_1).f6).length c338_6] 36 (0, 0)) b13_4 hb)
   replace HB := Aside0.mk (below_step b13_0 hb)
   (try clear hb)
   (try clear ho0)
   obtain ⟨Ao21, co21, eo21⟩ := Kd.V_slice HO349.out
   (first | subst eo21 | (injection eo21 with f1_ f2_ f3_; have f4_ := f1_.symm; have f5_ := f3_.symm; clear f1_ f2_ f3_; subst f4_; subst f5_))
   refine hK.out _ _ ⟨(blk_cell BK339.out 0).trans rfl, (blk_cell BK339.out 1).trans rfl, (blk_cell BK339.out 2).trans rfl, (blk_cell BK339.out 3).trans rfl, (blk_cell BK339.out 4).trans rfl, (blk_cell BK339.out 5).trans rfl, (blk_cell BK339.out 6).trans rfl⟩ (fun hHeld => ?_)
   clear hK K
   refine nm_ (some 30) ?_
   refine ok_ 3 (some 31) (bl 6 15) rfl (fun K hK => ?_)
   refine goes_ Tryz.func42 (by kernel_rfl) rfl #[.agg #[.int .i64 ((rd_T36 l0 x17_1).f0), .int .i64 ((rd_T36 l0 x17_1).f1), .int .i64 ((rd_T36 l0 x17_1).f2), .int .i64 ((rd_T36 l0 x17_1).f3), .int .i64 ((rd_T36 l0 x17_1).f4), .int .i64 ((rd_T36 l0 x17_1).f5), .slice A338_6 ((rd_T36 l0 x17_1).f6).length c338_6], .agg #[.int .i64 t341, .int .i64 t342, .int .i64 t343, .int .i64 t344, .int .i64 t345, .int .i64 t346, .slice Ao21 t347.length co21]] (by rfl) rfl rfl cx_ ?_
   with_reducible refine (impl_sameNode.calls k1 ((rd_T36 l0 x17_1).f0) ((rd_T36 l0 x17_1).f1) ((rd_T36 l0 x17_1).f2) ((rd_T36 l0 x17_1).f3) ((rd_T36 l0 x17_1).f4) ((rd_T36 l0 x17_1).f5) _ _ ((rd_T36 l0 x17_1).f6) t341 t342 t343 t344 t345 t346 _ _ t347 true _ ?side1 ?side2 ?side3 ?side4 A13.out).mono ?_
   (case side1 => exact b13_5)
   (case side2 => exact HC338_6.out)
   (case side3 => exact cC_ ((Kd.V_reads' HO349.out).2.2))
   (case side4 => exact (Kd.V_reads' HO349.out).2.1)
   rintro e w22 ⟨rfl, hb⟩
   refine ⟨_, rfl, ?_⟩
   replace HO_4 := Aside0.mk (Kd.R_below b13_2 hb)
   replace HO349 := Aside0.mk (Kd.V_below (cV_ HO349.out) hb)
   replace BK339 := Aside0.mk (blk_below (g := gb339) (o := .cells #[.int .i64 ((rd_T36 l0 x17_1).f0), .int .i64 ((rd_T36 l0 x17_1).f1), .int .i64 ((rd_T36 l0 x17_1).f2), .int .i64 ((rd_T36 l0 x17_1).f3), .int .i64 ((rd_T36 l0 x17_1).f4), .int .i64 ((rd_T36 l0 x17_1).f5), .slice A338_6 ((rd_T36 l0 x17_1).f6).length c338_6] 36 (0, 0)) b13_4 hb)
   replace HB := Aside0.mk (below_step b13_0 hb)
   (try clear hb)
   refine hK.out _ _ ⟨(blk_cell BK339.out 0).trans rfl, (blk_cell BK339.out 1).trans rfl, (blk_cell BK339.out 2).trans rfl, (blk_cell BK339.out 3).trans rfl, (blk_cell BK339.out 4).trans rfl, (blk_cell BK339.out 5).trans rfl, (blk_cell BK339.out 6).trans rfl⟩ (fun hHeld => ?_)
   clear hK K
   refine nm_ (some 31) ?_
   refine pk_ 4 (some 32) (bl 6 31) rfl ?_
   refine pk_ 5 (some 27) (bl 6 63) rfl ?_
   refine done_ (by kernel_rfl) ?_
   obtain ⟨_, _, _, _, _, _, _, _, _, _, _, _, _, _⟩ := cells7 BK339.out
   try go_wp2_with (first | (refine gl_ 44 (some 34) Tryz.func44 #[.agg #[.int .i64 ((rd_T36 l0 x17_1).f0), .int .i64 ((rd_T36 l0 x17_1).f1), .int .i64 ((rd_T36 l0 x17_1).f2), .int .i64 ((rd_T36 l0 x17_1).f3), .int .i64 ((rd_T36 l0 x17_1).f4), .int .i64 ((rd_T36 l0 x17_1).f5), .slice A338_6 ((rd_T36 l0 x17_1).f6).length c338_6]] ?_; (with_reducible refine (impl_Node_reads.calls ((rd_T36 l0 x17_1).f0) ((rd_T36 l0 x17_1).f1) ((rd_T36 l0 x17_1).f2) ((rd_T36 l0 x17_1).f3) ((rd_T36 l0 x17_1).f4) ((rd_T36 l0 x17_1).f5) _ _ ((rd_T36 l0 x17_1).f6) t351 _ ?side1 ?side2 A15.out).mono ?_); (case side1 => exact b13_5); (case side2 => exact HC338_6.out); rintro e w24 ⟨v352, rfl, ho0, hb⟩; refine ⟨_, rfl, ?_⟩; replace HO349 := Aside0.mk (Kd.V_elder' (cV_ HO349.out) (Kd.R_base ho0) hb); have HO353 := Aside0.mk (Kd.R_lower (Kd.R_new' ho0 (Kd.R_lt b13_2)) (below_size b13_0)); replace HO_4 := Aside0.mk (Kd.R_elder' b13_2 (Kd.R_base ho0) hb); replace BK339 := Aside0.mk (blk_below (g := gb339) (o := .cells #[.int .i64 ((rd_T36 l0 x17_1).f0), .int .i64 ((rd_T36 l0 x17_1).f1), .int .i64 ((rd_T36 l0 x17_1).f2), .int .i64 ((rd_T36 l0 x17_1).f3), .int .i64 ((rd_T36 l0 x17_1).f4), .int .i64 ((rd_T36 l0 x17_1).f5), .slice A338_6 ((rd_T36 l0 x17_1).f6).length c338_6] 36 (0, 0)) b13_4 hb); replace HB := Aside0.mk (below_step b13_0 hb); (try clear hb); (try clear ho0); obtain ⟨Ao25, co25, eo25⟩ := Kd.R_slice HO353.out; subst eo25))
   go_loopg [36] k1 (fun kq v36 w' => ∃ (x36_2 : Int), v36 = .int .i64 x36_2 ∧ Aside0 (impl_looked.l1 kq l0 x4_1 x17_1 l0 (l0.length : Int) x17_1 t351 (t351.length : Int) x36_2 ((rd_T36 l0 x17_1).f0) ((rd_T36 l0 x17_1).f1) ((rd_T36 l0 x17_1).f2) ((rd_T36 l0 x17_1).f3) ((rd_T36 l0 x17_1).f4) ((rd_T36 l0 x17_1).f5) ((rd_T36 l0 x17_1).f6) = some (r1, r2)) ∧ Aside0 (kq ≤ k1) ∧ Aside0 (Kd.R (Kd.int .i64) 2 w' w.heap.size (fun k_ => some k_ ≠ ((.slice Ao25 t351.length co25) : Value).ownBlock) u4 x4_1) ∧ Aside0 (Kd.R (Kd.int .i64) 2 w' w.heap.size (fun k_ => some k_ ≠ (u4 : Value).ownBlock) (.slice Ao25 t351.length co25) t351) ∧ Aside0 (w'.heap[gb339]? = some (.cells #[.int .i64 ((rd_T36 l0 x17_1).f0), .int .i64 ((rd_T36 l0 x17_1).f1), .int .i64 ((rd_T36 l0 x17_1).f2), .int .i64 ((rd_T36 l0 x17_1).f3), .int .i64 ((rd_T36 l0 x17_1).f4), .int .i64 ((rd_T36 l0 x17_1).f5), (.slice A338_6 ((rd_T36 l0 x17_1).f6).length c338_6)] 36 (0, 0))) ∧ Aside0 (Below w.heap.size w w'))
   case atStart => exact ⟨(0), cs_, H', ⟨Nat.le_refl _⟩, ⟨by refine cR_ ?_; exact Kd.R_mono HO_4.out (fun _ hk => hk.2)⟩, ⟨by refine cR_ ?_; exact Kd.R_mono HO353.out (fun _ hk => hk.2)⟩, ⟨cO_ BK339.out⟩, ⟨cB1_ GE339.out⟩⟩
   case round =>
    clear H'
    try clear c7b0
    try clear c8b0
    try clear c9b0
    try clear hx338_0
    try clear hx338_1
    try clear hx338_2
    try clear hx338_3
    try clear hx338_4
    try clear hx338_5
    try clear hx338_6
    try clear p338
    try clear q338
    obtain ⟨x36_2, rfl, HA, HK2, HO_4, HO_34, BK339, HB⟩ := hrel
    cases gk with
    | zero => exact absurd HA.out (by simp [impl_looked.l1])
    | succ k2 =>
     have H := HA.out
     clear HA
     simp only [impl_looked.l1] at H
     by_cases c26 : x36_2 < (t351.length : Int)
     rotate_left
     ·rw [if_neg c26] at H
      have c26b0 := decide_eq_false c26
      clear c26
      obtain ⟨t357, A34, H⟩ := bnd_ H
      try dsimp only at H
      by_cases c35 : t357 = 0
      rotate_left
      ·rw [if_neg c35] at H
       have c35b0 : (t357 == 0) = false := beq_eq_false_iff_ne.mpr c35
       have c35b1 : (t357 != 0) = true := bne_iff_ne.mpr c35
       simp only [Option.some.injEq, Prod.mk.injEq] at H
       obtain ⟨rfl, rfl⟩ := H
       obtain ⟨_, _, _, _, _, _, _, _, _, _, _, _, _, _⟩ := cells7 BK339.out
       obtain ⟨Ao45, co45, eo45⟩ := Kd.R_slice HO_4.out
       subst eo45
       go_wp2_with (first | (refine gl_ 45 (some 56) Tryz.func45 #[.agg #[.int .i64 ((rd_T36 l0 x17_1).f0), .int .i64 ((rd_T36 l0 x17_1).f1), .int .i64 ((rd_T36 l0 x17_1).f2), .int .i64 ((rd_T36 l0 x17_1).f3), .int .i64 ((rd_T36 l0 x17_1).f4), .int .i64 ((rd_T36 l0 x17_1).f5), .slice A338_6 ((rd_T36 l0 x17_1).f6).length c338_6], .slice Ao45 x4_1.length co45] ?_; (with_reducible refine (impl_Node_fault.calls k2 ((rd_T36 l0 x17_1).f0) ((rd_T36 l0 x17_1).f1) ((rd_T36 l0 x17_1).f2) ((rd_T36 l0 x17_1).f3) ((rd_T36 l0 x17_1).f4) ((rd_T36 l0 x17_1).f5) _ _ ((rd_T36 l0 x17_1).f6) _ _ x4_1 t357 _ ?side1 ?side2 ?side3 ?side4 A34.out).mono ?_); (case side1 => exact b13_5); (case side2 => exact HC338_6.out); (case side3 => exact cC_ ((Kd.R_reads' HO_4.out).2.2)); (case side4 => exact (Kd.R_reads' HO_4.out).2.1); rintro e w46 ⟨rfl, hb⟩; refine ⟨_, rfl, ?_⟩; replace HO_4 := Aside0.mk (Kd.R_below b13_2 hb); replace HO_34 := Aside0.mk (Kd.R_below (cR_ HO_34.out) hb); replace BK339 := Aside0.mk (blk_below (g := gb339) (o := .cells #[.int .i64 ((rd_T36 l0 x17_1).f0), .int .i64 ((rd_T36 l0 x17_1).f1), .int .i64 ((rd_T36 l0 x17_1).f2), .int .i64 ((rd_T36 l0 x17_1).f3), .int .i64 ((rd_T36 l0 x17_1).f4), .int .i64 ((rd_T36 l0 x17_1).f5), .slice A338_6 ((rd_T36 l0 x17_1).f6).length c338_6] 36 (0, 0)) b13_4 hb); replace HB := Aside0.mk (below_step b13_0 hb); (try clear hb)))
       go_ret2
       exact ⟨_, ce_, q13_0, cB1_ GE339.out⟩
      rw [if_pos c35] at H
      have c35b0 : (t357 == 0) = true := beq_iff_eq.mpr c35
      have c35b1 : (t357 != 0) = false := bne_eq_false_iff_eq.mpr c35
      clear c35
      obtain ⟨t358, A36, H⟩ := bnd_ H
      try dsimp only at H
      by_cases c37 : x4_1.length < 17592186044416
      rotate_left
      ·rw [if_neg c37] at H
       exact absurd H (by simp)
      rw [if_pos c37] at H
      have LMc37 := Aside0.mk c37
      clear c37
      obtain ⟨y359, hy_⟩ : ∃ y_ : List Int, y_ = (x4_1 ++ [t358]) := ⟨_, rfl⟩
      replace H : (impl_looked.l0 k2 l0 y359 l0 (l0.length : Int) (wrap64 (x17_1 + 1))) = some (r1, r2) := yb_
      have Ny359 := Aside0.mk hy_
      clear hy_
      have H' := Aside0.mk H
      clear H
      obtain ⟨_, _, _, _, _, _, _, _, _, _, _, _, _, _⟩ := cells7 BK339.out
      obtain ⟨Ao39, co39, eo39⟩ := Kd.R_slice HO_4.out
      subst eo39
      go_wp2_with (first | (refine gl_ 45 (some 56) Tryz.func45 #[.agg #[.int .i64 ((rd_T36 l0 x17_1).f0), .int .i64 ((rd_T36 l0 x17_1).f1), .int .i64 ((rd_T36 l0 x17_1).f2), .int .i64 ((rd_T36 l0 x17_1).f3), .int .i64 ((rd_T36 l0 x17_1).f4), .int .i64 ((rd_T36 l0 x17_1).f5), .slice A338_6 ((rd_T36 l0 x17_1).f6).length c338_6], .slice Ao39 x4_1.length co39] ?_; (with_reducible refine (impl_Node_fault.calls k2 ((rd_T36 l0 x17_1).f0) ((rd_T36 l0 x17_1).f1) ((rd_T36 l0 x17_1).f2) ((rd_T36 l0 x17_1).f3) ((rd_T36 l0 x17_1).f4) ((rd_T36 l0 x17_1).f5) _ _ ((rd_T36 l0 x17_1).f6) _ _ x4_1 t357 _ ?side1 ?side2 ?side3 ?side4 A34.out).mono ?_); (case side1 => exact b13_5); (case side2 => exact HC338_6.out); (case side3 => exact cC_ ((Kd.R_reads' HO_4.out).2.2)); (case side4 => exact (Kd.R_reads' HO_4.out).2.1); rintro e w40 ⟨rfl, hb⟩; refine ⟨_, rfl, ?_⟩; replace HO_4 := Aside0.mk (Kd.R_below b13_2 hb); replace HO_34 := Aside0.mk (Kd.R_below (cR_ HO_34.out) hb); replace BK339 := Aside0.mk (blk_below (g := gb339) (o := .cells #[.int .i64 ((rd_T36 l0 x17_1).f0), .int .i64 ((rd_T36 l0 x17_1).f1), .int .i64 ((rd_T36 l0 x17_1).f2), .int .i64 ((rd_T36 l0 x17_1).f3), .int .i64 ((rd_T36 l0 x17_1).f4), .int .i64 ((rd_T36 l0 x17_1).f5), .slice A338_6 ((rd_T36 l0 x17_1).f6).length c338_6] 36 (0, 0)) b13_4 hb); replace HB := Aside0.mk (below_step b13_0 hb); (try clear hb); obtain ⟨_, _, _, _, _, _, _, _, _, _, _, _, _, _⟩ := cells7 BK339.out) | (refine gl_ 46 (some 63) Tryz.func46 #[.agg #[.int .i64 ((rd_T36 l0 x17_1).f0), .int .i64 ((rd_T36 l0 x17_1).f1), .int .i64 ((rd_T36 l0 x17_1).f2), .int .i64 ((rd_T36 l0 x17_1).f3), .int .i64 ((rd_T36 l0 x17_1).f4), .int .i64 ((rd_T36 l0 x17_1).f5), .slice A338_6 ((rd_T36 l0 x17_1).f6).length c338_6], .slice Ao39 x4_1.length co39] ?_; (with_reducible refine (impl_Node_width.calls ((rd_T36 l0 x17_1).f0) ((rd_T36 l0 x17_1).f1) ((rd_T36 l0 x17_1).f2) ((rd_T36 l0 x17_1).f3) ((rd_T36 l0 x17_1).f4) ((rd_T36 l0 x17_1).f5) _ _ ((rd_T36 l0 x17_1).f6) _ _ x4_1 t358 _ ?side1 ?side2 ?side3 ?side4 A36.out).mono ?_); (case side1 => exact b13_5); (case side2 => exact HC338_6.out); (case side3 => exact cC_ ((Kd.R_reads' HO_4.out).2.2)); (case side4 => exact (Kd.R_reads' HO_4.out).2.1); rintro e w42 ⟨rfl, hb⟩; refine ⟨_, rfl, ?_⟩; replace HO_4 := Aside0.mk (Kd.R_below b13_2 hb); replace HO_34 := Aside0.mk (Kd.R_below (cR_ HO_34.out) hb); replace BK339 := Aside0.mk (blk_below (g := gb339) (o := .cells #[.int .i64 ((rd_T36 l0 x17_1).f0), .int .i64 ((rd_T36 l0 x17_1).f1), .int .i64 ((rd_T36 l0 x17_1).f2), .int .i64 ((rd_T36 l0 x17_1).f3), .int .i64 ((rd_T36 l0 x17_1).f4), .int .i64 ((rd_T36 l0 x17_1).f5), .slice A338_6 ((rd_T36 l0 x17_1).f6).length c338_6] 36 (0, 0)) b13_4 hb); replace HB := Aside0.mk (below_step b13_0 hb); (try clear hb)) | ((with_reducible refine gate_builtin (b := .append) (xs := #[.tmp 60, .tmp 64]) rfl ?_); at_builtin; refine Kd.R_append (Kd.int .i64) (w0 := w) w.heap.size rfl (.tmp 60) (.tmp 64) 34 2 (.int .i64 0) 8 rfl Tryz.underlying34 info2 rfl (by decide) (by omega) (.slice Ao39 x4_1.length co39) x4_1 t358 [.int .i64 t358] (fun k_ => some k_ ≠ (.slice Ao25 t351.length co25 : Value).ownBlock) (fun _ => False) rfl rfl ?aP (fun _ hk => hk.elim) ?aF ?aO ?aB ?aS ?aL ?_; (case aP => exact rfl); (case aB => exact b13_0); (case aF => exact (by exact (fun k_ hk => Kd.fresh' (Kd.R_lt (cR_ HO_34.out)) k_ hk))); (case aO => exact b13_2); (case aS => exact (by exact (below_size b13_0))); (case aL => exact co_ LMc37.out); intro v360 w43 ho hb hg hat; rw [← Ny359.out] at ho; replace HO_34 := Aside0.mk (Kd.R_after (ok := (fun _ => True)) (by refine cR_ ?_; exact Kd.R_mono HO_34.out (fun _ hk => ⟨trivial, hk⟩)) hg hat); replace BK339 := Aside0.mk (blk_grown (g := gb339) (o := .cells #[.int .i64 ((rd_T36 l0 x17_1).f0), .int .i64 ((rd_T36 l0 x17_1).f1), .int .i64 ((rd_T36 l0 x17_1).f2), .int .i64 ((rd_T36 l0 x17_1).f3), .int .i64 ((rd_T36 l0 x17_1).f4), .int .i64 ((rd_T36 l0 x17_1).f5), .slice A338_6 ((rd_T36 l0 x17_1).f6).length c338_6] 36 (0, 0)) b13_4 hg (Kd.R_ne HO_4.out BK339.out (by decide))); replace HB := Aside0.mk (hb); have HO361 := Aside0.mk (ho); clear HO_4; clear ho hb hg hat))
      go_roundg k2
      case measure => have := HK1.out; have := HK2.out; omega
      case rel => exact ⟨(y359), (wrap64 (x17_1 + 1)), cs_, H', ⟨by have := HK1.out; have := HK2.out; omega⟩, ⟨by refine cR_ ?_; exact Kd.R_mono HO361.out (fun _ hk => trivial)⟩, ⟨cB1_ GE339.out⟩⟩
     rw [if_pos c26] at H
     have c26b0 := decide_eq_true c26
     clear c26
     by_cases c27 : 0 ≤ x36_2
     rotate_left
     ·rw [if_neg c27] at H
      exact absurd H (by simp)
     rw [if_pos c27] at H
     have c27b0 := decide_eq_true c27
     clear c27
     by_cases c28 : x36_2 < (t351.length : Int)
     rotate_left
     ·rw [if_neg c28] at H
      exact absurd H (by simp)
     rw [if_pos c28] at H
     have c28b0 := decide_eq_true c28
     clear c28
     obtain ⟨t355, A29, H⟩ := bnd_ H
     try dsimp only at H
     by_cases c30 : t355 = true
     rotate_left
     ·replace c30 := Bool.eq_false_iff.mpr c30
      subst c30
      rw [if_neg (show ¬ (false = true) by decide)] at H
      simp only [Option.some.injEq, Prod.mk.injEq] at H
      obtain ⟨rfl, rfl⟩ := H
      have p354 : 0 ≤ (x36_2 : Int) := cd_
      have q354 : x36_2 < (t351.length : Int) := cd_
      obtain ⟨ad354, e354, hx354_0⟩ := Kd.at_int (Kd.R_reads' HO_34.out).2.2 x36_2 p354 q354
      cases e354
      replace p354 := eq_true p354
      replace q354 := eq_true q354
      go_wp2_with (first | (refine gl_ 40 (some 43) Tryz.func40 #[.int .i64 (rd t351 x36_2), .int .i64 0, .int .i64 (wrap64 (x17_1 - 1))] ?_; (with_reducible refine (impl_in.calls (rd t351 x36_2) 0 (wrap64 (x17_1 - 1)) false _ A29.out).mono ?_); rintro e w' ⟨rfl, ⟨nd, rfl⟩⟩; refine ⟨_, rfl, ?_⟩))
      go_ret2
      exact ⟨_, ce_, q13_0, cB1_ GE339.out⟩
     subst c30
     rw [if_pos rfl] at H
     by_cases c31 : 0 ≤ (rd t351 x36_2)
     rotate_left
     ·rw [if_neg c31] at H
      exact absurd H (by simp)
     rw [if_pos c31] at H
     have c31b0 := decide_eq_true c31
     clear c31
     by_cases c32 : (rd t351 x36_2) < (l0.length : Int)
     rotate_left
     ·rw [if_neg c32] at H
      exact absurd H (by simp)
     rw [if_pos c32] at H
     have c32b0 := decide_eq_true c32
     clear c32
     by_cases c33 : ((rd_T36 l0 (rd t351 x36_2)).f0) = 12
     ·rw [if_pos c33] at H
      have c33b0 : (((rd_T36 l0 (rd t351 x36_2)).f0) == 12) = true := beq_iff_eq.mpr c33
      have c33b1 : (((rd_T36 l0 (rd t351 x36_2)).f0) != 12) = false := bne_eq_false_iff_eq.mpr c33
      clear c33
      simp only [Option.some.injEq, Prod.mk.injEq] at H
      obtain ⟨rfl, rfl⟩ := H
      have p354 : 0 ≤ (x36_2 : Int) := cd_
      have q354 : x36_2 < (t351.length : Int) := cd_
      obtain ⟨ad354, e354, hx354_0⟩ := Kd.at_int (Kd.R_reads' HO_34.out).2.2 x36_2 p354 q354
      cases e354
      replace p354 := eq_true p354
      replace q354 := eq_true q354
      go_wp2_with (first | (refine gl_ 40 (some 43) Tryz.func40 #[.int .i64 (rd t351 x36_2), .int .i64 0, .int .i64 (wrap64 (x17_1 - 1))] ?_; (with_reducible refine (impl_in.calls (rd t351 x36_2) 0 (wrap64 (x17_1 - 1)) true _ A29.out).mono ?_); rintro e w' ⟨rfl, ⟨nd, rfl⟩⟩; refine ⟨_, rfl, ?_⟩; have p356 : 0 ≤ ((rd t351 x36_2) : Int) := cd_; have q356 : (rd t351 x36_2) < (l0.length : Int) := cd_; obtain ⟨ad356, A356_6, c356_6, e356, hx356_0, hx356_1, hx356_2, hx356_3, hx356_4, hx356_5, hx356_6, hl356_6, hi356_6⟩ := at_T36 HR0.out (rd t351 x36_2) p356 q356; obtain rfl : ad338 = ad356 := (by injection e356); replace hx356_0 := pw_cell_below HB.out hx356_0; replace hx356_1 := pw_cell_below HB.out hx356_1; replace hx356_2 := pw_cell_below HB.out hx356_2; replace hx356_3 := pw_cell_below HB.out hx356_3; replace hx356_4 := pw_cell_below HB.out hx356_4; replace hx356_5 := pw_cell_below HB.out hx356_5; replace hx356_6 := pw_cell_below HB.out hx356_6; have HR356_6 := Aside0.mk hi356_6; have HC356_6 := Aside0.mk hl356_6; clear hi356_6 hl356_6; replace p356 := eq_true p356; replace q356 := eq_true q356))
      go_ret2
      exact ⟨_, ce_, q13_0, cB1_ GE339.out⟩
     rw [if_neg c33] at H
     have c33b0 : (((rd_T36 l0 (rd t351 x36_2)).f0) == 12) = false := beq_eq_false_iff_ne.mpr c33
     have c33b1 : (((rd_T36 l0 (rd t351 x36_2)).f0) != 12) = true := bne_iff_ne.mpr c33
     have H' := Aside0.mk H
     clear H
     have p354 : 0 ≤ (x36_2 : Int) := cd_
     have q354 : x36_2 < (t351.length : Int) := cd_
     obtain ⟨ad354, e354, hx354_0⟩ := Kd.at_int (Kd.R_reads' HO_34.out).2.2 x36_2 p354 q354
     cases e354
     replace p354 := eq_true p354
     replace q354 := eq_true q354
     go_wp2_with (first | (refine gl_ 40 (some 43) Tryz.func40 #[.int .i64 (rd t351 x36_2), .int .i64 0, .int .i64 (wrap64 (x17_1 - 1))] ?_; (with_reducible refine (impl_in.calls (rd t351 x36_2) 0 (wrap64 (x17_1 - 1)) true _ A29.out).mono ?_); rintro e w' ⟨rfl, ⟨nd, rfl⟩⟩; refine ⟨_, rfl, ?_⟩; have p356 : 0 ≤ ((rd t351 x36_2) : Int) := cd_; have q356 : (rd t351 x36_2) < (l0.length : Int) := cd_; obtain ⟨ad356, A356_6, c356_6, e356, hx356_0, hx356_1, hx356_2, hx356_3, hx356_4, hx356_5, hx356_6, hl356_6, hi356_6⟩ := at_T36 HR0.out (rd t351 x36_2) p356 q356; obtain rfl : ad338 = ad356 := (by injection e356); replace hx356_0 := pw_cell_below HB.out hx356_0; replace hx356_1 := pw_cell_below HB.out hx356_1; replace hx356_2 := pw_cell_below HB.out hx356_2; replace hx356_3 := pw_cell_below HB.out hx356_3; replace hx356_4 := pw_cell_below HB.out hx356_4; replace hx356_5 := pw_cell_below HB.out hx356_5; replace hx356_6 := pw_cell_below HB.out hx356_6; have HR356_6 := Aside0.mk hi356_6; have HC356_6 := Aside0.mk hl356_6; clear hi356_6 hl356_6; replace p356 := eq_true p356; replace q356 := eq_true q356))
     go_roundg k2
     case measure => have := HK1.out; have := HK2.out; omega
     case rel => exact ⟨(wrap64 (x36_2 + 1)), cs_, H', ⟨by have := HK1.out; have := HK2.out; omega⟩, ⟨cR_ HO_4.out⟩, ⟨cR_ HO_34.out⟩, ⟨cO_ BK339.out⟩, ⟨cB1_ GE339.out⟩⟩

/-! ### impl_PlanFault: function 9 -/
def impl_PlanFault.f (k : Nat) (l0 : List (S36)) : Option (Int) := (impl_looked.f k l0).bind fun bt362 => (some bt362.2)
theorem impl_PlanFault.mono : ∀ a0 k, LeO (impl_PlanFault.f k a0) (impl_PlanFault.f (k + 1) a0) := by
 intro a0 k
 unfold impl_PlanFault.f
 repeat' first
   | (with_reducible exact impl_looked.mono _ _)
   | (with_reducible exact LeO.refl _)
   | (with_reducible exact LeO.none _)
   | (with_reducible refine LeO.ite ?_ ?_)
   | (with_reducible refine LeO.bind ?_ (fun _ => ?_))
   | refine LeO.ite ?_ ?_
   | refine LeO.bind ?_ (fun _ => ?_)
theorem impl_PlanFault.calls (k : Nat) (A0 : Option Addr) (c0 : Nat) (l0 : List (S36)) (r : Int) (w : World) (hr0 : Kd.C k36 w A0 l0.length l0) (hc0 : l0.length ≤ c0) (h : impl_PlanFault.f k l0 = some r) :
  Calls Tryz.prog 9 #[.slice A0 l0.length c0] w fun e w' => e = .returned (.int .i64 r) ∧ Below w.heap.size w w' := by
 have HR0 := Aside0.mk hr0
 have HC0 := Aside0.mk hc0
 clear hr0 hc0
 have HB := Aside0.mk (Below.refl w.heap.size w)
 have H : ((impl_looked.f k l0).bind fun bt362 => (some bt362.2)) = some r := h
 clear h
 obtain ⟨⟨t362, t363⟩, A2, H⟩ := bnd_ H
 try dsimp only at H
 obtain rfl := Option.some.inj H
 go_enter Tryz.func9, Tryz.ntmps9
 go_wp2_with (first | (refine gl_ 20 (some 7) Tryz.func20 #[.slice A0 l0.length c0] ?_; (with_reducible refine (impl_looked.calls k _ _ l0 t362 t363 _ ?side1 ?side2 A2.out).mono ?_); (case side1 => exact cC_ HR0.out); (case side2 => exact HC0.out); rintro e w3 ⟨v364, rfl, ho0, hb⟩; refine ⟨_, rfl, ?_⟩; have HO365 := Aside0.mk (Kd.R_lower ho0 (below_size cB0_)); replace HB := Aside0.mk (below_step cB0_ hb); (try clear hb); (try clear ho0)))
 go_ret
 exact ⟨ce_, cB0_⟩

/-! ### strings_Join: function 33 -/
def strings_Join.f (l0 : List ByteArray) (a1 : ByteArray) : Option ByteArray := if l0.length ≤ 140737488355328 ∧ (Lib.join (l0.map (·.data.toList)) a1.data.toList).length ≤ 140737488355328 then some ⟨(Lib.join (l0.map (·.data.toList)) a1.data.toList).toArray⟩ else none
theorem strings_Join.calls (A0 : Option Addr) (c0 : Nat) (l0 : List ByteArray) (a1 : ByteArray) (r : ByteArray) (w : World) (hA0 : ∀ ad, A0 = some ad → ∃ g, ad = ⟨g, 0, none⟩) (hr0 : Kd.C Kd.string w A0 l0.length l0) (hc0 : l0.length ≤ c0) (h : strings_Join.f l0 a1 = some r) :
  Calls Tryz.prog 33 #[.slice A0 l0.length c0, .string a1] w fun e w' => e = .returned (.string r) ∧ Below w.heap.size w w' := by
 unfold strings_Join.f at h
 by_cases c : l0.length ≤ 140737488355328 ∧ (Lib.join (l0.map (·.data.toList)) a1.data.toList).length ≤ 140737488355328
 ·rw [if_pos c] at h
  obtain rfl := Option.some.inj h
  exact Tab.join_rows hA0 hr0 hc0 c.1 c.2
 rw [if_neg c] at h
 exact absurd h (by simp)

/-! ### strings_Split: function 47 -/
def strings_Split.f (a0 : ByteArray) (a1 : ByteArray) : Option (List ByteArray) := if a0.size < 4294967281 ∧ 1 ≤ a1.size then some (Lib.splitB a1 0 (Lib.countB a0 a1) a0) else none
theorem strings_Split.calls (a0 : ByteArray) (a1 : ByteArray) (r : List ByteArray) (w : World) (htab : Tab.Tab w) (h : strings_Split.f a0 a1 = some r) :
  Calls Tryz.prog 47 #[.string a0, .string a1] w fun e w' => ∃ v0_ : Value, e = .returned (v0_) ∧ Kd.R Kd.string 9 w' w.heap.size (fun _ => True) v0_ r ∧ Below w.heap.size w w' := by
 unfold strings_Split.f at h
 by_cases c : a0.size < 4294967281 ∧ 1 ≤ a1.size
 ·rw [if_pos c] at h
  obtain rfl := Option.some.inj h
  exact Tab.split_rows htab c.1 c.2
 rw [if_neg c] at h
 exact absurd h (by simp)

/-! ### impl_decimal: function 66 -/
def impl_decimal.f (a0 : Int) : Option ByteArray := if -9223372036854775808 ≤ a0 ∧ a0 ≤ 9223372036854775807 then some ⟨(Lib.itoa a0).toArray⟩ else none
/-- A number in decimal, where the table of the powers of ten reads as the text lays it. -/
theorem impl_decimal.calls (a0 : Int) (r : ByteArray) (w : World) (htab : Tab.Tab w) (h : impl_decimal.f a0 = some r) :
  Calls Tryz.prog 66 #[.int .i64 a0] w fun e w' => e = .returned (.string r) ∧ Below w.heap.size w w' := by
 have hb_ : (-9223372036854775808 ≤ a0 ∧ a0 ≤ 9223372036854775807) ∧ (⟨(Lib.itoa a0).toArray⟩ : ByteArray) = r := by
  unfold impl_decimal.f at h
  by_cases c : -9223372036854775808 ≤ a0 ∧ a0 ≤ 9223372036854775807
  ·rw [if_pos c] at h; exact ⟨c, Option.some.inj h⟩
  ·rw [if_neg c] at h; exact absurd h (by simp)
 obtain ⟨⟨h0, h1⟩, rfl⟩ := hb_
 clear h
 obtain ⟨s, hs⟩ : ∃ s, s = (Lib.itoa a0).toArray := ⟨_, rfl⟩
 have HS := Aside0.mk hs
 have hc := Tryz.strconv_FormatInt_10 a0 h0 h1 w (Tab.tabIs htab)
 rw [← hs] at hc ⊢
 clear hs h0 h1 htab
 go_enter Tryz.func66, Tryz.ntmps66
 go_wp2_with (first | (go_at_call 79; refine hc.mono ?_; rintro e w' ⟨rfl, k, os, rfl⟩))
 go_ret
 exact ⟨rfl, Tab.below_grow _ _ _⟩

end Go.Proofs.YteibdjkfkcckkaaGreatDoor.PFnPlans
