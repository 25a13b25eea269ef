-- Written by fprint, a program of this session, out of Lean's own print of the translation. Lean checks it.
import Derived.Test.YteibdjkfkcckkaaDoorShort
import Derived.Test.YteibdjkfkcckkaaDoorPFnExactFormatPlanx0
import Derived.Test.YteibdjkfkcckkaaDoorPFnExactFormatPlanx7
import Derived.Test.YteibdjkfkcckkaaDoorPFnExactFormatPlanx8
import Derived.Test.YteibdjkfkcckkaaDoorPFnExactFormatPlanx9
import Derived.Test.YteibdjkfkcckkaaDoorPFnExactFormatPlanx10
namespace Go.Proofs.YteibdjkfkcckkaaDoor.PFnExactFormatPlan
open Go.RowKit Go.Proofs.YteibdjkfkcckkaaDoorW.PrintWords Go.Proofs.YteibdjkfkcckkaaDoorW.PrintLast Go.Proofs.YteibdjkfkcckkaaDoorW.PrintMore
attribute [local go_sem] max2_int min2_int max_two min_two max_three min_three max_four min_four   -- for this text's walks alone
set_option linter.unusedVariables false
set_option linter.unusedSimpArgs false

theorem b11_0 {p : Prop} (h : p := by repeat (first | (with_reducible first | exact HB.out | apply below_alloc | apply pw_below_drewN | apply below_drew1 | refine below_set ?_ GE269.out) | exact HB.out)) : p := h
theorem b11_1 {p : Prop} (h : p := by (try simp only [List.map_toArray, List.map_cons, List.map_nil]); first | done | rfl | (simp only [List.length_drop, List.length_take]; rfl)) : p := h
theorem b11_2 {p : Prop} (h : p := by (with_reducible repeat (first | apply Kd.R_alloc | apply Kd.R_drewN | apply Kd.R_drew)); exact HO_4.out) : p := h
theorem b11_3 {p : Prop} (h : p := by repeat (first | (with_reducible first | exact HB.out | apply below_alloc | apply pw_below_drewN | apply below_drew1) | exact HB.out)) : p := h
theorem b11_4 {p : Prop} (h : p := by (with_reducible repeat (first | refine blk_drewN ?_ _ | refine blk_drew ?_ | refine blk_alloc ?_ _)); exact BK269.out) : p := h
theorem b11_5 {p : Prop} (h : p := by repeat (first | exact (Kd.C_below HR268_6.out HB.out) | (with_reducible refine Kd.C_alloc ?_ _) | (with_reducible refine Kd.C_drewN ?_ _) | (with_reducible refine Kd.C_drew ?_))) : p := h
theorem b11_6 {p : Prop} (h : p := by first | (with_reducible assumption) | assumption) : p := h
/-! ### impl_looked: function 21 -/
mutual
def impl_looked.l0 : Nat → List (S35) → List Int → List (S35) → Int → Int → Option (List Int × Int)
 | 0, _, _, _, _, _ => none
 | k + 1, x0, x4, x15, x16, x17 => if x17 < x16 then (if 0 ≤ x17 then (if x17 < (x15.length : Int) then ((impl_in.f ((rd_T35 x15 x17).f0) 1 12).bind fun t270 => (if t270 = true then ((impl_Node_plain.f k ((rd_T35 x15 x17).f0) ((rd_T35 x15 x17).f1) ((rd_T35 x15 x17).f2) ((rd_T35 x15 x17).f3) ((rd_T35 x15 x17).f4) ((rd_T35 x15 x17).f5) ((rd_T35 x15 x17).f6)).bind fun bt271 => ((impl_sameNode.f k ((rd_T35 x15 x17).f0) ((rd_T35 x15 x17).f1) ((rd_T35 x15 x17).f2) ((rd_T35 x15 x17).f3) ((rd_T35 x15 x17).f4) ((rd_T35 x15 x17).f5) ((rd_T35 x15 x17).f6) bt271.1 bt271.2.1 bt271.2.2.1 bt271.2.2.2.1 bt271.2.2.2.2.1 bt271.2.2.2.2.2.1 bt271.2.2.2.2.2.2).bind fun t280 => (if t280 = true then ((impl_Node_reads.f ((rd_T35 x15 x17).f0) ((rd_T35 x15 x17).f1) ((rd_T35 x15 x17).f2) ((rd_T35 x15 x17).f3) ((rd_T35 x15 x17).f4) ((rd_T35 x15 x17).f5) ((rd_T35 x15 x17).f6)).bind fun t281 => (impl_looked.l1 k x0 x4 x17 x15 x16 x17 t281 (t281.length : Int) 0 ((rd_T35 x15 x17).f0) ((rd_T35 x15 x17).f1) ((rd_T35 x15 x17).f2) ((rd_T35 x15 x17).f3) ((rd_T35 x15 x17).f4) ((rd_T35 x15 x17).f5) ((rd_T35 x15 x17).f6))) else (some (([] : List Int), 1))))) else (some (([] : List Int), 5)))) else (none)) else (none)) else (some (x4, 0))
def impl_looked.l1 : Nat → List (S35) → List Int → Int → List (S35) → Int → Int → List Int → Int → Int → Int → Int → Int → Int → Int → Int → List Int → Option (List Int × Int)
 | 0, _, _, _, _, _, _, _, _, _, _, _, _, _, _, _, _ => none
 | k + 1, x0, x4, x5, x15, x16, x17, x34, x35, x36, x270000, x270001, x270002, x270003, x270004, x270005, x270006 => if x36 < x35 then (if 0 ≤ x36 then (if x36 < (x34.length : Int) then ((impl_in.f (rd x34 x36) 0 (wrap64 (x5 - 1))).bind fun t285 => (if t285 = true then (if 0 ≤ (rd x34 x36) then (if (rd x34 x36) < (x0.length : Int) then (if ((rd_T35 x0 (rd x34 x36)).f0) = 12 then (some (([] : List Int), 3)) else (impl_looked.l1 k x0 x4 x5 x15 x16 x17 x34 x35 (wrap64 (x36 + 1)) x270000 x270001 x270002 x270003 x270004 x270005 x270006)) else (none)) else (none)) else (some (([] : List Int), 3)))) else (none)) else (none)) else ((impl_Node_fault.f k x270000 x270001 x270002 x270003 x270004 x270005 x270006 x4).bind fun t287 => (if t287 = 0 then ((impl_Node_width.f x270000 x270001 x270002 x270003 x270004 x270005 x270006 x4).bind fun t288 => (if x4.length < 17592186044416 then (impl_looked.l0 k x0 (x4 ++ [t288]) x15 x16 (wrap64 (x17 + 1))) else (none))) else (some (([] : List Int), t287))))
end
def impl_looked.f (k : Nat) (l0 : List (S35)) : Option (List Int × Int) := (impl_Node.f l0).bind fun t263 => ((impl_in.f t263 1 8).bind fun t264 => (if t264 = true then (impl_looked.l0 k l0 (([] : List Int)) l0 (l0.length : Int) 0) else (some (([] : List Int), 2))))
theorem impl_looked.mono_l : ∀ k, (∀ y0 y1 y2 y3 y4, LeO (impl_looked.l0 k y0 y1 y2 y3 y4) (impl_looked.l0 (k + 1) y0 y1 y2 y3 y4)) ∧ (∀ y0 y1 y2 y3 y4 y5 y6 y7 y8 y9 y10 y11 y12 y13 y14 y15, LeO (impl_looked.l1 k y0 y1 y2 y3 y4 y5 y6 y7 y8 y9 y10 y11 y12 y13 y14 y15) (impl_looked.l1 (k + 1) y0 y1 y2 y3 y4 y5 y6 y7 y8 y9 y10 y11 y12 y13 y14 y15))
 | 0 => ⟨fun _ _ _ _ _ r h => by simp [impl_looked.l0] at h, fun _ _ _ _ _ _ _ _ _ _ _ _ _ _ _ _ r h => by simp [impl_looked.l1] at h⟩
 | k + 1 => by
  obtain ⟨ih0, ih1⟩ := impl_looked.mono_l k
  refine ⟨?_, ?_⟩
  ·intro y0 y1 y2 y3 y4
   unfold impl_looked.l0
   repeat' first
   | (with_reducible exact ih0 _ _ _ _ _)
   | (with_reducible exact ih1 _ _ _ _ _ _ _ _ _ _ _ _ _ _ _ _)
   | (with_reducible exact impl_Node_fault.mono _ _ _ _ _ _ _ _ _)
   | (with_reducible exact impl_Node_plain.mono _ _ _ _ _ _ _ _)
   | (with_reducible exact impl_sameNode.mono _ _ _ _ _ _ _ _ _ _ _ _ _ _ _)
   | (with_reducible exact LeO.refl _)
   | (with_reducible exact LeO.none _)
   | (with_reducible refine LeO.ite ?_ ?_)
   | (with_reducible refine LeO.bind ?_ (fun _ => ?_))
   | exact ih0 _ _ _ _ _
   | exact ih1 _ _ _ _ _ _ _ _ _ _ _ _ _ _ _ _
   | exact impl_Node_fault.mono _ _ _ _ _ _ _ _ _
   | exact impl_Node_plain.mono _ _ _ _ _ _ _ _
   | exact impl_sameNode.mono _ _ _ _ _ _ _ _ _ _ _ _ _ _ _
   | exact LeO.none _
   | refine LeO.ite ?_ ?_
   | refine LeO.bind ?_ (fun _ => ?_)
  ·intro y0 y1 y2 y3 y4 y5 y6 y7 y8 y9 y10 y11 y12 y13 y14 y15
   unfold impl_looked.l1
   repeat' first
   | (with_reducible exact ih0 _ _ _ _ _)
   | (with_reducible exact ih1 _ _ _ _ _ _ _ _ _ _ _ _ _ _ _ _)
   | (with_reducible exact impl_Node_fault.mono _ _ _ _ _ _ _ _ _)
   | (with_reducible exact impl_Node_plain.mono _ _ _ _ _ _ _ _)
   | (with_reducible exact impl_sameNode.mono _ _ _ _ _ _ _ _ _ _ _ _ _ _ _)
   | (with_reducible exact LeO.refl _)
   | (with_reducible exact LeO.none _)
   | (with_reducible refine LeO.ite ?_ ?_)
   | (with_reducible refine LeO.bind ?_ (fun _ => ?_))
   | exact ih0 _ _ _ _ _
   | exact ih1 _ _ _ _ _ _ _ _ _ _ _ _ _ _ _ _
   | exact impl_Node_fault.mono _ _ _ _ _ _ _ _ _
   | exact impl_Node_plain.mono _ _ _ _ _ _ _ _
   | exact impl_sameNode.mono _ _ _ _ _ _ _ _ _ _ _ _ _ _ _
   | exact LeO.none _
   | refine LeO.ite ?_ ?_
   | refine LeO.bind ?_ (fun _ => ?_)
theorem impl_looked.mono : ∀ a0 k, LeO (impl_looked.f k a0) (impl_looked.f (k + 1) a0) := by
 intro a0 k
 obtain ⟨ih0, ih1⟩ := impl_looked.mono_l k
 unfold impl_looked.f
 repeat' first
   | (with_reducible exact ih0 _ _ _ _ _)
   | (with_reducible exact ih1 _ _ _ _ _ _ _ _ _ _ _ _ _ _ _ _)
   | (with_reducible exact impl_Node_fault.mono _ _ _ _ _ _ _ _ _)
   | (with_reducible exact impl_Node_plain.mono _ _ _ _ _ _ _ _)
   | (with_reducible exact impl_sameNode.mono _ _ _ _ _ _ _ _ _ _ _ _ _ _ _)
   | (with_reducible exact LeO.refl _)
   | (with_reducible exact LeO.none _)
   | (with_reducible refine LeO.ite ?_ ?_)
   | (with_reducible refine LeO.bind ?_ (fun _ => ?_))
   | exact ih0 _ _ _ _ _
   | exact ih1 _ _ _ _ _ _ _ _ _ _ _ _ _ _ _ _
   | exact impl_Node_fault.mono _ _ _ _ _ _ _ _ _
   | exact impl_Node_plain.mono _ _ _ _ _ _ _ _
   | exact impl_sameNode.mono _ _ _ _ _ _ _ _ _ _ _ _ _ _ _
   | exact LeO.none _
   | refine LeO.ite ?_ ?_
   | refine LeO.bind ?_ (fun _ => ?_)
set_option maxHeartbeats 8000000 in
set_option maxRecDepth 100000 in
theorem impl_looked.calls (k : Nat) (A0 : Option Addr) (c0 : Nat) (l0 : List (S35)) (r1 : List Int) (r2 : Int) (w : World) (hr0 : Kd.C k35 w A0 l0.length l0) (hc0 : l0.length ≤ c0) (h : impl_looked.f k l0 = some (r1, r2)) :
  Calls Tryd.prog 21 #[.slice A0 l0.length c0] w fun e w' => ∃ v0_ : Value, e = .returned (.tuple #[v0_, .int .i64 r2]) ∧ Kd.R (Kd.int .i64) 2 w' w.heap.size (fun _ => True) v0_ r1 ∧ Below w.heap.size w w' := by
 have hu35 := Tryd.underlying35
 have HR0 := Aside0.mk hr0
 have HC0 := Aside0.mk hc0
 clear hr0 hc0
 have HB := Aside0.mk (Below.refl w.heap.size w)
 have H : ((impl_Node.f l0).bind fun t263 => ((impl_in.f t263 1 8).bind fun t264 => (if t264 = true then (impl_looked.l0 k l0 (([] : List Int)) l0 (l0.length : Int) 0) else (some (([] : List Int), 2))))) = some (r1, r2) := h
 clear h
 replace H := Option.bind_eq_some_iff.mp H
 obtain ⟨t263, A20, H⟩ := H
 replace H : ((impl_in.f t263 1 8).bind fun t264 => (if t264 = true then (impl_looked.l0 k l0 (([] : List Int)) l0 (l0.length : Int) 0) else (some (([] : List Int), 2)))) = some (r1, r2) := H
 have A2 := Aside0.mk A20
 clear A20
 replace H := Option.bind_eq_some_iff.mp H
 obtain ⟨t264, A30, H⟩ := H
 replace H : (if t264 = true then (impl_looked.l0 k l0 (([] : List Int)) l0 (l0.length : Int) 0) else (some (([] : List Int), 2))) = some (r1, r2) := H
 have A3 := Aside0.mk A30
 clear A30
 by_cases c4 : t264 = true
 ·subst c4
  have H1 : (impl_looked.l0 k l0 (([] : List Int)) l0 (l0.length : Int) 0) = some (r1, r2) := by rw [if_pos rfl] at H; exact H
  clear H
  have H := H1
  clear H1
  obtain ⟨y265, hy265⟩ : ∃ y_ : List Int, y_ = (([] : List Int)) := ⟨_, rfl⟩
  replace H : (impl_looked.l0 k l0 y265 l0 (l0.length : Int) 0) = some (r1, r2) := by first | (rw [hy265]; with_reducible exact H) | (have H2_ := (Option.bind_some _ _).symm.trans H; rw [hy265]; with_reducible exact H2_) | (have H2_ := (Option.bind_some _ _).symm.trans H; with_reducible exact H2_) | with_reducible exact H | (rw [hy265]; exact H) | exact H
  have Ny265 := Aside0.mk hy265
  clear hy265
  have H' := Aside0.mk H
  clear H
  go_enter Tryd.func21, Tryd.ntmps21
  go_wp2_with (first | ((with_reducible refine gate_callee (f := 32) rfl ?_); refine goesL_ (some 11) rfl rfl Tryd.func32 (by kernel_rfl) rfl #[.slice A0 l0.length c0] rfl b11_1 ?_; (with_reducible refine (impl_Node.calls _ _ l0 t263 _ ?side1 ?side2 A2.out).mono ?_); (case side1 => exact (by repeat (first | exact HR0.out | (with_reducible refine Kd.C_alloc ?_ _) | (with_reducible refine Kd.C_drewN ?_ _) | (with_reducible refine Kd.C_drew ?_)))); (case side2 => exact HC0.out); rintro e w' ⟨rfl, ⟨nd, rfl⟩⟩; refine ⟨_, rfl, ?_⟩) | ((with_reducible refine gate_callee (f := 31) rfl ?_); refine goesL_ (some 12) rfl rfl Tryd.func31 (by kernel_rfl) rfl #[.int .i64 t263, .int .i64 1, .int .i64 8] rfl b11_1 ?_; (with_reducible refine (impl_in.calls t263 1 8 true _ A3.out).mono ?_); rintro e w' ⟨rfl, ⟨nd, rfl⟩⟩; refine ⟨_, rfl, ?_⟩) | ((with_reducible refine gate_dst (N := 14) rfl ?_); refine Kd.R_lit (Kd.int .i64) _ 2 ?hg (N := 14) ?hd (xs := ([] : List Int)) (inner := []) (ok := fun _ => True) (okp := fun _ => True) ?hr ?hp (fun _ hk => hk) trivial (Below.refl _ _) (Nat.le_refl _) (by simp) ?_; (case hd => rfl); (case hg => rfl); (case hr => first | (go_simp; done) | (go_simp; rfl)); (case hp => exact (Reps.none _ _)); intro v266 w5 ho6 hb hg_ hnew_; clear hg_ hnew_; (first | rw [← Ny265.out] at ho6 | (simp only [Int.reduceToNat] at ho6; rw [← Ny265.out] at ho6)); have n0_ := Aside0.mk (Kd.R_lower ho6 (below_size b11_3)); have n1_ := Aside0.mk (below_step b11_3 hb); clear HB; have HO267 := n0_; have HB := n1_; clear n0_ n1_; clear hb ho6))
  go_loopg [4, 17] k (fun kq v4 v17 w' => ∃ (x4_1 : List Int) (x17_1 : Int), v17 = .int .i64 x17_1 ∧ Aside0 (impl_looked.l0 kq l0 x4_1 l0 (l0.length : Int) x17_1 = some (r1, r2)) ∧ Aside0 (kq ≤ k) ∧ Aside0 (Kd.R (Kd.int .i64) 2 w' w.heap.size (fun _ => True) v4 x4_1) ∧ Aside0 (Below w.heap.size w w'))
  case atStart => exact ⟨(y265), (0), (by first | rfl | (simp; done) | (simp [*]; done)), H', ⟨Nat.le_refl _⟩, ⟨by (with_reducible repeat (first | apply Kd.R_alloc | apply Kd.R_drewN | apply Kd.R_drew)); exact HO267.out⟩, ⟨by repeat (first | (with_reducible first | exact HB.out | apply below_alloc | apply pw_below_drewN | apply below_drew1) | exact HB.out)⟩⟩
  case round =>
   clear H'
   try clear c2
   try clear p2
   try clear c3
   try clear c4
   obtain ⟨x4_1, x17_1, rfl, HA, HK1, HO_4, HB⟩ := hrel
   cases gk with
   | zero => exact absurd HA.out (by simp [impl_looked.l0])
   | succ k1 =>
    have H := HA.out
    clear HA
    simp only [impl_looked.l0] at H
    by_cases c7 : x17_1 < (l0.length : Int)
    ·rw [if_pos c7] at H
     have c7b0 : decide (x17_1 < (l0.length : Int)) = true := decide_eq_true c7
     clear c7
     by_cases c8 : 0 ≤ x17_1
     ·rw [if_pos c8] at H
      have c8b0 : decide (0 ≤ x17_1) = true := decide_eq_true c8
      clear c8
      by_cases c9 : x17_1 < (l0.length : Int)
      ·rw [if_pos c9] at H
       have c9b0 : decide (x17_1 < (l0.length : Int)) = true := decide_eq_true c9
       clear c9
       replace H := Option.bind_eq_some_iff.mp H
       obtain ⟨t270, A100, H⟩ := H
       replace H : (if t270 = true then ((impl_Node_plain.f k1 ((rd_T35 l0 x17_1).f0) ((rd_T35 l0 x17_1).f1) ((rd_T35 l0 x17_1).f2) ((rd_T35 l0 x17_1).f3) ((rd_T35 l0 x17_1).f4) ((rd_T35 l0 x17_1).f5) ((rd_T35 l0 x17_1).f6)).bind fun bt271 => ((impl_sameNode.f k1 ((rd_T35 l0 x17_1).f0) ((rd_T35 l0 x17_1).f1) ((rd_T35 l0 x17_1).f2) ((rd_T35 l0 x17_1).f3) ((rd_T35 l0 x17_1).f4) ((rd_T35 l0 x17_1).f5) ((rd_T35 l0 x17_1).f6) bt271.1 bt271.2.1 bt271.2.2.1 bt271.2.2.2.1 bt271.2.2.2.2.1 bt271.2.2.2.2.2.1 bt271.2.2.2.2.2.2).bind fun t280 => (if t280 = true then ((impl_Node_reads.f ((rd_T35 l0 x17_1).f0) ((rd_T35 l0 x17_1).f1) ((rd_T35 l0 x17_1).f2) ((rd_T35 l0 x17_1).f3) ((rd_T35 l0 x17_1).f4) ((rd_T35 l0 x17_1).f5) ((rd_T35 l0 x17_1).f6)).bind fun t281 => (impl_looked.l1 k1 l0 x4_1 x17_1 l0 (l0.length : Int) x17_1 t281 (t281.length : Int) 0 ((rd_T35 l0 x17_1).f0) ((rd_T35 l0 x17_1).f1) ((rd_T35 l0 x17_1).f2) ((rd_T35 l0 x17_1).f3) ((rd_T35 l0 x17_1).f4) ((rd_T35 l0 x17_1).f5) ((rd_T35 l0 x17_1).f6))) else (some (([] : List Int), 1))))) else (some (([] : List Int), 5))) = some (r1, r2) := H
       have A10 := Aside0.mk A100
       clear A100
       by_cases c11 : t270 = true
       ·subst c11
        have H1 : ((impl_Node_plain.f k1 ((rd_T35 l0 x17_1).f0) ((rd_T35 l0 x17_1).f1) ((rd_T35 l0 x17_1).f2) ((rd_T35 l0 x17_1).f3) ((rd_T35 l0 x17_1).f4) ((rd_T35 l0 x17_1).f5) ((rd_T35 l0 x17_1).f6)).bind fun bt271 => ((impl_sameNode.f k1 ((rd_T35 l0 x17_1).f0) ((rd_T35 l0 x17_1).f1) ((rd_T35 l0 x17_1).f2) ((rd_T35 l0 x17_1).f3) ((rd_T35 l0 x17_1).f4) ((rd_T35 l0 x17_1).f5) ((rd_T35 l0 x17_1).f6) bt271.1 bt271.2.1 bt271.2.2.1 bt271.2.2.2.1 bt271.2.2.2.2.1 bt271.2.2.2.2.2.1 bt271.2.2.2.2.2.2).bind fun t280 => (if t280 = true then ((impl_Node_reads.f ((rd_T35 l0 x17_1).f0) ((rd_T35 l0 x17_1).f1) ((rd_T35 l0 x17_1).f2) ((rd_T35 l0 x17_1).f3) ((rd_T35 l0 x17_1).f4) ((rd_T35 l0 x17_1).f5) ((rd_T35 l0 x17_1).f6)).bind fun t281 => (impl_looked.l1 k1 l0 x4_1 x17_1 l0 (l0.length : Int) x17_1 t281 (t281.length : Int) 0 ((rd_T35 l0 x17_1).f0) ((rd_T35 l0 x17_1).f1) ((rd_T35 l0 x17_1).f2) ((rd_T35 l0 x17_1).f3) ((rd_T35 l0 x17_1).f4) ((rd_T35 l0 x17_1).f5) ((rd_T35 l0 x17_1).f6))) else (some (([] : List Int), 1))))) = some (r1, r2) := by rw [if_pos rfl] at H; exact H
        clear H
        have H := H1
        clear H1
        replace H := Option.bind_eq_some_iff.mp H
        obtain ⟨⟨t271, t272, t273, t274, t275, t276, t277⟩, A120, H⟩ := H
        replace H : ((impl_sameNode.f k1 ((rd_T35 l0 x17_1).f0) ((rd_T35 l0 x17_1).f1) ((rd_T35 l0 x17_1).f2) ((rd_T35 l0 x17_1).f3) ((rd_T35 l0 x17_1).f4) ((rd_T35 l0 x17_1).f5) ((rd_T35 l0 x17_1).f6) t271 t272 t273 t274 t275 t276 t277).bind fun t280 => (if t280 = true then ((impl_Node_reads.f ((rd_T35 l0 x17_1).f0) ((rd_T35 l0 x17_1).f1) ((rd_T35 l0 x17_1).f2) ((rd_T35 l0 x17_1).f3) ((rd_T35 l0 x17_1).f4) ((rd_T35 l0 x17_1).f5) ((rd_T35 l0 x17_1).f6)).bind fun t281 => (impl_looked.l1 k1 l0 x4_1 x17_1 l0 (l0.length : Int) x17_1 t281 (t281.length : Int) 0 ((rd_T35 l0 x17_1).f0) ((rd_T35 l0 x17_1).f1) ((rd_T35 l0 x17_1).f2) ((rd_T35 l0 x17_1).f3) ((rd_T35 l0 x17_1).f4) ((rd_T35 l0 x17_1).f5) ((rd_T35 l0 x17_1).f6))) else (some (([] : List Int), 1)))) = some (r1, r2) := H
        have A12 := Aside0.mk A120
        clear A120
        replace H := Option.bind_eq_some_iff.mp H
        obtain ⟨t280, A130, H⟩ := H
        replace H : (if t280 = true then ((impl_Node_reads.f ((rd_T35 l0 x17_1).f0) ((rd_T35 l0 x17_1).f1) ((rd_T35 l0 x17_1).f2) ((rd_T35 l0 x17_1).f3) ((rd_T35 l0 x17_1).f4) ((rd_T35 l0 x17_1).f5) ((rd_T35 l0 x17_1).f6)).bind fun t281 => (impl_looked.l1 k1 l0 x4_1 x17_1 l0 (l0.length : Int) x17_1 t281 (t281.length : Int) 0 ((rd_T35 l0 x17_1).f0) ((rd_T35 l0 x17_1).f1) ((rd_T35 l0 x17_1).f2) ((rd_T35 l0 x17_1).f3) ((rd_T35 l0 x17_1).f4) ((rd_T35 l0 x17_1).f5) ((rd_T35 l0 x17_1).f6))) else (some (([] : List Int), 1))) = some (r1, r2) := H
        have A13 := Aside0.mk A130
        clear A130
        by_cases c14 : t280 = true
        ·subst c14
         have H1 : ((impl_Node_reads.f ((rd_T35 l0 x17_1).f0) ((rd_T35 l0 x17_1).f1) ((rd_T35 l0 x17_1).f2) ((rd_T35 l0 x17_1).f3) ((rd_T35 l0 x17_1).f4) ((rd_T35 l0 x17_1).f5) ((rd_T35 l0 x17_1).f6)).bind fun t281 => (impl_looked.l1 k1 l0 x4_1 x17_1 l0 (l0.length : Int) x17_1 t281 (t281.length : Int) 0 ((rd_T35 l0 x17_1).f0) ((rd_T35 l0 x17_1).f1) ((rd_T35 l0 x17_1).f2) ((rd_T35 l0 x17_1).f3) ((rd_T35 l0 x17_1).f4) ((rd_T35 l0 x17_1).f5) ((rd_T35 l0 x17_1).f6))) = some (r1, r2) := by rw [if_pos rfl] at H; exact H
         clear H
         have H := H1
         clear H1
         replace H := Option.bind_eq_some_iff.mp H
         obtain ⟨t281, A150, H⟩ := H
         replace H : (impl_looked.l1 k1 l0 x4_1 x17_1 l0 (l0.length : Int) x17_1 t281 (t281.length : Int) 0 ((rd_T35 l0 x17_1).f0) ((rd_T35 l0 x17_1).f1) ((rd_T35 l0 x17_1).f2) ((rd_T35 l0 x17_1).f3) ((rd_T35 l0 x17_1).f4) ((rd_T35 l0 x17_1).f5) ((rd_T35 l0 x17_1).f6)) = some (r1, r2) := H
         have A15 := Aside0.mk A150
         clear A150
         have H' := Aside0.mk H
         clear H
         have p268 : 0 ≤ (x17_1 : Int) := of_decide_eq_true b11_6
         have q268 : x17_1 < (l0.length : Int) := of_decide_eq_true b11_6
         obtain ⟨ad268, A268_6, c268_6, e268, hx268_0, hx268_1, hx268_2, hx268_3, hx268_4, hx268_5, hx268_6, hl268_6, hi268_6⟩ := at_T35 HR0.out x17_1 p268 q268
         cases e268
         replace hx268_0 := (HB.out.cell (World.block_lt_of_cell? w _ hx268_0)).trans hx268_0
         replace hx268_1 := (HB.out.cell (World.block_lt_of_cell? w _ hx268_1)).trans hx268_1
         replace hx268_2 := (HB.out.cell (World.block_lt_of_cell? w _ hx268_2)).trans hx268_2
         replace hx268_3 := (HB.out.cell (World.block_lt_of_cell? w _ hx268_3)).trans hx268_3
         replace hx268_4 := (HB.out.cell (World.block_lt_of_cell? w _ hx268_4)).trans hx268_4
         replace hx268_5 := (HB.out.cell (World.block_lt_of_cell? w _ hx268_5)).trans hx268_5
         replace hx268_6 := (HB.out.cell (World.block_lt_of_cell? w _ hx268_6)).trans hx268_6
         have HR268_6 := Aside0.mk hi268_6
         have HC268_6 := Aside0.mk hl268_6
         clear hi268_6 hl268_6
         replace p268 := eq_true p268
         replace q268 := eq_true q268
         try go_wp2_with (first | ((with_reducible refine gate_dst (N := 6) rfl ?_); refine box_event ?hg (N := 6) ?hd (cs := #[.int .i64 0, .int .i64 0, .int .i64 0, .int .i64 0, .int .i64 0, .int .i64 0, .slice none 0 0]) (t := 35) ?hr ?_; (case hd => rfl); (case hg => rfl); (case hr => first | (go_simp; done) | (go_simp; rfl)); intro gb269 hg w16 hbox hb; have n0_ := Aside0.mk (Kd.R_below b11_2 hb); have n1_ := Aside0.mk (below_step b11_3 hb); have n2_ := Aside0.mk (hbox); have n3_ := Aside0.mk ((by rw [hg]; exact (below_size b11_3) : w.heap.size ≤ gb269)); have n4_ := Aside0.mk ((by rw [hg]; exact (below_size b11_3) : w.heap.size ≤ gb269)); clear HO_4; clear HB; have HO_4 := n0_; have HB := n1_; have BK269 := n2_; have GW269 := n3_; have GE269 := n4_; clear n0_ n1_ n2_ n3_ n4_; clear hb hbox hg; obtain ⟨hcz17_0, hcz17_1, hcz17_2, hcz17_3, hcz17_4, hcz17_5, hcz17_6, hfz17_0, hfz17_1, hfz17_2, hfz17_3, hfz17_4, hfz17_5, hfz17_6⟩ := cells7 BK269.out) | ((with_reducible refine gate_callee (f := 31) rfl ?_); refine goesL_ (some 25) rfl rfl Tryd.func31 (by kernel_rfl) rfl #[.int .i64 ((rd_T35 l0 x17_1).f0), .int .i64 1, .int .i64 12] rfl b11_1 ?_; (with_reducible refine (impl_in.calls ((rd_T35 l0 x17_1).f0) 1 12 true _ A10.out).mono ?_); rintro e w' ⟨rfl, ⟨nd, rfl⟩⟩; refine ⟨_, rfl, ?_⟩))
         have n0_ : Aside0 (Kd.R (Kd.int .i64) 2 (((((((w16.setCell ⟨gb269, 0, none⟩ (.int .i64 ((rd_T35 l0 x17_1).f0))).setCell ⟨gb269, 1, none⟩ (.int .i64 ((rd_T35 l0 x17_1).f1))).setCell ⟨gb269, 2, none⟩ (.int .i64 ((rd_T35 l0 x17_1).f2))).setCell ⟨gb269, 3, none⟩ (.int .i64 ((rd_T35 l0 x17_1).f3))).setCell ⟨gb269, 4, none⟩ (.int .i64 ((rd_T35 l0 x17_1).f4))).setCell ⟨gb269, 5, none⟩ (.int .i64 ((rd_T35 l0 x17_1).f5))).setCell ⟨gb269, 6, none⟩ (.slice A268_6 ((rd_T35 l0 x17_1).f6).length c268_6)) w.heap.size (fun _ => True) u4 x4_1) := ⟨by (with_reducible repeat (first | apply Kd.R_alloc | apply Kd.R_drewN | apply Kd.R_drew)); exact Kd.R_mono (Kd.R_far (p := ⟨gb269, 6, none⟩) (Kd.R_far (p := ⟨gb269, 5, none⟩) (Kd.R_far (p := ⟨gb269, 4, none⟩) (Kd.R_far (p := ⟨gb269, 3, none⟩) (Kd.R_far (p := ⟨gb269, 2, none⟩) (Kd.R_far (p := ⟨gb269, 1, none⟩) (Kd.R_far (p := ⟨gb269, 0, none⟩) (Kd.R_types HO_4.out BK269.out (by decide)) (fun _ hk => hk.2) (.int .i64 ((rd_T35 l0 x17_1).f0))) (fun _ hk => hk.2) (.int .i64 ((rd_T35 l0 x17_1).f1))) (fun _ hk => hk.2) (.int .i64 ((rd_T35 l0 x17_1).f2))) (fun _ hk => hk.2) (.int .i64 ((rd_T35 l0 x17_1).f3))) (fun _ hk => hk.2) (.int .i64 ((rd_T35 l0 x17_1).f4))) (fun _ hk => hk.2) (.int .i64 ((rd_T35 l0 x17_1).f5))) (fun _ hk => hk.2) (.slice A268_6 ((rd_T35 l0 x17_1).f6).length c268_6)) (fun _ hk => trivial)⟩
         have n1_ : Aside0 ((((((((w16.setCell ⟨gb269, 0, none⟩ (.int .i64 ((rd_T35 l0 x17_1).f0))).setCell ⟨gb269, 1, none⟩ (.int .i64 ((rd_T35 l0 x17_1).f1))).setCell ⟨gb269, 2, none⟩ (.int .i64 ((rd_T35 l0 x17_1).f2))).setCell ⟨gb269, 3, none⟩ (.int .i64 ((rd_T35 l0 x17_1).f3))).setCell ⟨gb269, 4, none⟩ (.int .i64 ((rd_T35 l0 x17_1).f4))).setCell ⟨gb269, 5, none⟩ (.int .i64 ((rd_T35 l0 x17_1).f5))).setCell ⟨gb269, 6, none⟩ (.slice A268_6 ((rd_T35 l0 x17_1).f6).length c268_6)).heap[gb269]? = some (.cells #[.int .i64 ((rd_T35 l0 x17_1).f0), .int .i64 ((rd_T35 l0 x17_1).f1), .int .i64 ((rd_T35 l0 x17_1).f2), .int .i64 ((rd_T35 l0 x17_1).f3), .int .i64 ((rd_T35 l0 x17_1).f4), .int .i64 ((rd_T35 l0 x17_1).f5), .slice A268_6 ((rd_T35 l0 x17_1).f6).length c268_6] 35 (0, 0))) := ⟨by (with_reducible repeat (first | refine blk_drewN ?_ _ | refine blk_drew ?_ | refine blk_alloc ?_ _)); refine blk_put (cs := #[.int .i64 ((rd_T35 l0 x17_1).f0), .int .i64 ((rd_T35 l0 x17_1).f1), .int .i64 ((rd_T35 l0 x17_1).f2), .int .i64 ((rd_T35 l0 x17_1).f3), .int .i64 ((rd_T35 l0 x17_1).f4), .int .i64 ((rd_T35 l0 x17_1).f5), .slice none 0 0]) ?_ 6 _ rfl; (with_reducible repeat (first | refine blk_drewN ?_ _ | refine blk_drew ?_ | refine blk_alloc ?_ _)); refine blk_put (cs := #[.int .i64 ((rd_T35 l0 x17_1).f0), .int .i64 ((rd_T35 l0 x17_1).f1), .int .i64 ((rd_T35 l0 x17_1).f2), .int .i64 ((rd_T35 l0 x17_1).f3), .int .i64 ((rd_T35 l0 x17_1).f4), .int .i64 0, .slice none 0 0]) ?_ 5 _ rfl; (with_reducible repeat (first | refine blk_drewN ?_ _ | refine blk_drew ?_ | refine blk_alloc ?_ _)); refine blk_put (cs := #[.int .i64 ((rd_T35 l0 x17_1).f0), .int .i64 ((rd_T35 l0 x17_1).f1), .int .i64 ((rd_T35 l0 x17_1).f2), .int .i64 ((rd_T35 l0 x17_1).f3), .int .i64 0, .int .i64 0, .slice none 0 0]) ?_ 4 _ rfl; (with_reducible repeat (first | refine blk_drewN ?_ _ | refine blk_drew ?_ | refine blk_alloc ?_ _)); refine blk_put (cs := #[.int .i64 ((rd_T35 l0 x17_1).f0), .int .i64 ((rd_T35 l0 x17_1).f1), .int .i64 ((rd_T35 l0 x17_1).f2), .int .i64 0, .int .i64 0, .int .i64 0, .slice none 0 0]) ?_ 3 _ rfl; (with_reducible repeat (first | refine blk_drewN ?_ _ | refine blk_drew ?_ | refine blk_alloc ?_ _)); refine blk_put (cs := #[.int .i64 ((rd_T35 l0 x17_1).f0), .int .i64 ((rd_T35 l0 x17_1).f1), .int .i64 0, .int .i64 0, .int .i64 0, .int .i64 0, .slice none 0 0]) ?_ 2 _ rfl; (with_reducible repeat (first | refine blk_drewN ?_ _ | refine blk_drew ?_ | refine blk_alloc ?_ _)); refine blk_put (cs := #[.int .i64 ((rd_T35 l0 x17_1).f0), .int .i64 0, .int .i64 0, .int .i64 0, .int .i64 0, .int .i64 0, .slice none 0 0]) ?_ 1 _ rfl; (with_reducible repeat (first | refine blk_drewN ?_ _ | refine blk_drew ?_ | refine blk_alloc ?_ _)); refine blk_put (cs := #[.int .i64 0, .int .i64 0, .int .i64 0, .int .i64 0, .int .i64 0, .int .i64 0, .slice none 0 0]) ?_ 0 _ rfl; (with_reducible repeat (first | refine blk_drewN ?_ _ | refine blk_drew ?_ | refine blk_alloc ?_ _)); exact BK269.out⟩
         have n2_ : Aside0 (Below w.heap.size w (((((((w16.setCell ⟨gb269, 0, none⟩ (.int .i64 ((rd_T35 l0 x17_1).f0))).setCell ⟨gb269, 1, none⟩ (.int .i64 ((rd_T35 l0 x17_1).f1))).setCell ⟨gb269, 2, none⟩ (.int .i64 ((rd_T35 l0 x17_1).f2))).setCell ⟨gb269, 3, none⟩ (.int .i64 ((rd_T35 l0 x17_1).f3))).setCell ⟨gb269, 4, none⟩ (.int .i64 ((rd_T35 l0 x17_1).f4))).setCell ⟨gb269, 5, none⟩ (.int .i64 ((rd_T35 l0 x17_1).f5))).setCell ⟨gb269, 6, none⟩ (.slice A268_6 ((rd_T35 l0 x17_1).f6).length c268_6))) := ⟨by repeat (first | (with_reducible first | exact HB.out | apply below_alloc | apply pw_below_drewN | apply below_drew1 | refine below_set ?_ GE269.out) | exact HB.out)⟩
         (try clear HO_4)
         (try clear BK269)
         (try clear HB)
         generalize (((((((w16.setCell ⟨gb269, 0, none⟩ (.int .i64 ((rd_T35 l0 x17_1).f0))).setCell ⟨gb269, 1, none⟩ (.int .i64 ((rd_T35 l0 x17_1).f1))).setCell ⟨gb269, 2, none⟩ (.int .i64 ((rd_T35 l0 x17_1).f2))).setCell ⟨gb269, 3, none⟩ (.int .i64 ((rd_T35 l0 x17_1).f3))).setCell ⟨gb269, 4, none⟩ (.int .i64 ((rd_T35 l0 x17_1).f4))).setCell ⟨gb269, 5, none⟩ (.int .i64 ((rd_T35 l0 x17_1).f5))).setCell ⟨gb269, 6, none⟩ (.slice A268_6 ((rd_T35 l0 x17_1).f6).length c268_6)) = w18 at n0_ n1_ n2_ ⊢
         have HO_4 := n0_
         have BK269 := n1_
         have HB := n2_
         clear n0_ n1_ n2_
         (try simp only [World.drewN_drewN]); (try (rw [drewN_self w18]; generalize hq_ : World.drewN w18 _ = w18; have n0_ : Aside0 (Kd.R (Kd.int .i64) 2 w18 w.heap.size (fun _ => True) u4 x4_1) := ⟨by rw [← hq_]; exact b11_2⟩; have n1_ : Aside0 (w18.heap[gb269]? = some (.cells #[.int .i64 ((rd_T35 l0 x17_1).f0), .int .i64 ((rd_T35 l0 x17_1).f1), .int .i64 ((rd_T35 l0 x17_1).f2), .int .i64 ((rd_T35 l0 x17_1).f3), .int .i64 ((rd_T35 l0 x17_1).f4), .int .i64 ((rd_T35 l0 x17_1).f5), .slice A268_6 ((rd_T35 l0 x17_1).f6).length c268_6] 35 (0, 0))) := ⟨by rw [← hq_]; exact b11_4⟩; have n2_ : Aside0 (Below w.heap.size w w18) := ⟨by rw [← hq_]; exact b11_0⟩; clear HO_4 BK269 HB hq_; have HO_4 := n0_; have BK269 := n1_; have HB := n2_; clear n0_ n1_ n2_))
         have n0_ := Aside0.mk (Kd.R_drew HO_4.out)
         have n1_ := Aside0.mk (blk_drew BK269.out)
         have n2_ := Aside0.mk (below_drew1 HB.out)
         clear HO_4
         clear BK269
         clear HB
         have HO_4 := n0_
         have BK269 := n1_
         have HB := n2_
         clear n0_ n1_ n2_
         refine start_ (n := 6) (S := fun w' => w'.cell? ⟨gb269, 0, none⟩ = some (.int .i64 ((rd_T35 l0 x17_1).f0)) ∧ w'.cell? ⟨gb269, 1, none⟩ = some (.int .i64 ((rd_T35 l0 x17_1).f1)) ∧ w'.cell? ⟨gb269, 2, none⟩ = some (.int .i64 ((rd_T35 l0 x17_1).f2)) ∧ w'.cell? ⟨gb269, 3, none⟩ = some (.int .i64 ((rd_T35 l0 x17_1).f3)) ∧ w'.cell? ⟨gb269, 4, none⟩ = some (.int .i64 ((rd_T35 l0 x17_1).f4)) ∧ w'.cell? ⟨gb269, 5, none⟩ = some (.int .i64 ((rd_T35 l0 x17_1).f5)) ∧ w'.cell? ⟨gb269, 6, none⟩ = some (.slice A268_6 ((rd_T35 l0 x17_1).f6).length c268_6)) (ds := []) (bl 6 0) (by kernel_rfl) rfl rfl ⟨(blk_cell BK269.out 0).trans rfl, (blk_cell BK269.out 1).trans rfl, (blk_cell BK269.out 2).trans rfl, (blk_cell BK269.out 3).trans rfl, (blk_cell BK269.out 4).trans rfl, (blk_cell BK269.out 5).trans rfl, (blk_cell BK269.out 6).trans rfl⟩ (fun hHeld => ?_)
         generalize w18.drew = w19 at HO_4 BK269 HB hHeld ⊢
         refine tk_ 0 (some 28) (bl 6 1) rfl hHeld (fun w' s_ => by obtain ⟨s0, s1, s2, s3, s4, s5, s6⟩ := s_; go_simp; with_reducible rfl) ?_
         refine tk_ 1 (some 29) (bl 6 3) rfl hHeld (fun w' s_ => by obtain ⟨s0, s1, s2, s3, s4, s5, s6⟩ := s_; go_simp; with_reducible rfl) ?_
         refine ok_ 2 (some 30) (bl 6 7) rfl (fun K hK => ?_)
         refine goes_ Tryd.func34 (by kernel_rfl) rfl #[.agg #[.int .i64 ((rd_T35 l0 x17_1).f0), .int .i64 ((rd_T35 l0 x17_1).f1), .int .i64 ((rd_T35 l0 x17_1).f2), .int .i64 ((rd_T35 l0 x17_1).f3), .int .i64 ((rd_T35 l0 x17_1).f4), .int .i64 ((rd_T35 l0 x17_1).f5), .slice A268_6 ((rd_T35 l0 x17_1).f6).length c268_6]] (by rfl) rfl rfl b11_1 ?_
         with_reducible refine (impl_Node_plain.calls k1 ((rd_T35 l0 x17_1).f0) ((rd_T35 l0 x17_1).f1) ((rd_T35 l0 x17_1).f2) ((rd_T35 l0 x17_1).f3) ((rd_T35 l0 x17_1).f4) ((rd_T35 l0 x17_1).f5) (fun k_ => k_ < w.heap.size) _ _ ((rd_T35 l0 x17_1).f6) t271 t272 t273 t274 t275 t276 t277 _ ?side1 A12.out).mono ?_
         (case side1 => exact (by exact Kd.V_mk HC268_6.out (Kd.F_below (Kd.C_F (Kd.heap_int .i64) HR268_6.out) b11_0)))
         rintro e w20 ⟨v278, rfl, ho0, hb⟩
         refine ⟨_, rfl, ?_⟩
         have n0_ := Aside0.mk (Kd.R_below b11_2 hb)
         have n1_ := Aside0.mk (Kd.V_lower (Kd.V_mono (ok' := fun k_ => some k_ ≠ (u4 : Value).ownBlock ∧ k_ ≠ gb269) ho0 (fun k_ hk_ => ⟨Or.elim hk_ (fun hs_ => fun e_ => Nat.not_le.2 hs_ (Kd.R_base HO_4.out k_ e_.symm)) (fun hn_ => (Kd.fresh' (Kd.R_lt b11_2) k_ hn_)), Or.elim hk_ (fun hs_ => fun e_ => Nat.not_le.2 hs_ (by rw [e_]; exact GW269.out)) (fun hn_ => (Kd.freshB (g := gb269) (o := .cells #[.int .i64 ((rd_T35 l0 x17_1).f0), .int .i64 ((rd_T35 l0 x17_1).f1), .int .i64 ((rd_T35 l0 x17_1).f2), .int .i64 ((rd_T35 l0 x17_1).f3), .int .i64 ((rd_T35 l0 x17_1).f4), .int .i64 ((rd_T35 l0 x17_1).f5), .slice A268_6 ((rd_T35 l0 x17_1).f6).length c268_6] 35 (0, 0)) b11_4 k_ hn_))⟩)) (below_size b11_0))
         have n2_ := Aside0.mk (blk_below (g := gb269) (o := .cells #[.int .i64 ((rd_T35 l0 x17_1).f0), .int .i64 ((rd_T35 l0 x17_1).f1), .int .i64 ((rd_T35 l0 x17_1).f2), .int .i64 ((rd_T35 l0 x17_1).f3), .int .i64 ((rd_T35 l0 x17_1).f4), .int .i64 ((rd_T35 l0 x17_1).f5), .slice A268_6 ((rd_T35 l0 x17_1).f6).length c268_6] 35 (0, 0)) b11_4 hb)
         have n3_ := Aside0.mk (below_step b11_0 hb)
         clear HO_4
         clear BK269
         clear HB
         have HO_4 := n0_
         have HO279 := n1_
         have BK269 := n2_
         have HB := n3_
         clear n0_ n1_ n2_ n3_
         (try clear hb)
         (try clear hb2)
         (try clear hk)
         (try clear hi)
         (try clear ho0)
         obtain ⟨Ao21, co21, eo21⟩ := Kd.V_slice HO279.out
         (first | subst eo21 | (injection eo21 with f1_ f2_ f3_; have f4_ := f1_.symm; have f5_ := f3_.symm; clear f1_ f2_ f3_; subst f4_; subst f5_))
         refine hK.out _ _ ⟨(blk_cell BK269.out 0).trans rfl, (blk_cell BK269.out 1).trans rfl, (blk_cell BK269.out 2).trans rfl, (blk_cell BK269.out 3).trans rfl, (blk_cell BK269.out 4).trans rfl, (blk_cell BK269.out 5).trans rfl, (blk_cell BK269.out 6).trans rfl⟩ (fun hHeld => ?_)
         clear hK K
         refine norm_ (a' := ?_) ?_ ?_
         rotate_left
         ·show Act.put _ (some 30) _ = _
          simp only [Act.put, List.setIfInBounds_toArray, List.set_cons_zero, List.set_cons_succ, i64_w, i32_w]
          rfl
         refine ok_ 3 (some 31) (bl 6 15) rfl (fun K hK => ?_)
         refine goes_ Tryd.func33 (by kernel_rfl) rfl #[.agg #[.int .i64 ((rd_T35 l0 x17_1).f0), .int .i64 ((rd_T35 l0 x17_1).f1), .int .i64 ((rd_T35 l0 x17_1).f2), .int .i64 ((rd_T35 l0 x17_1).f3), .int .i64 ((rd_T35 l0 x17_1).f4), .int .i64 ((rd_T35 l0 x17_1).f5), .slice A268_6 ((rd_T35 l0 x17_1).f6).length c268_6], .agg #[.int .i64 t271, .int .i64 t272, .int .i64 t273, .int .i64 t274, .int .i64 t275, .int .i64 t276, .slice Ao21 t277.length co21]] (by rfl) rfl rfl b11_1 ?_
         with_reducible refine (impl_sameNode.calls k1 ((rd_T35 l0 x17_1).f0) ((rd_T35 l0 x17_1).f1) ((rd_T35 l0 x17_1).f2) ((rd_T35 l0 x17_1).f3) ((rd_T35 l0 x17_1).f4) ((rd_T35 l0 x17_1).f5) _ _ ((rd_T35 l0 x17_1).f6) t271 t272 t273 t274 t275 t276 _ _ t277 true _ ?side1 ?side2 ?side3 ?side4 A13.out).mono ?_
         (case side1 => exact b11_5)
         (case side2 => exact HC268_6.out)
         (case side3 => exact (by repeat (first | exact (Kd.V_reads' HO279.out).2.2 | (with_reducible refine Kd.C_alloc ?_ _) | (with_reducible refine Kd.C_drewN ?_ _) | (with_reducible refine Kd.C_drew ?_))))
         (case side4 => exact (Kd.V_reads' HO279.out).2.1)
         rintro e w22 ⟨rfl, hb⟩
         refine ⟨_, rfl, ?_⟩
         have n0_ := Aside0.mk (Kd.R_below b11_2 hb)
         have n1_ := Aside0.mk (Kd.V_below (by (with_reducible repeat (first | apply Kd.V_alloc | apply Kd.V_drewN | apply Kd.V_drew)); exact HO279.out) hb)
         have n2_ := Aside0.mk (blk_below (g := gb269) (o := .cells #[.int .i64 ((rd_T35 l0 x17_1).f0), .int .i64 ((rd_T35 l0 x17_1).f1), .int .i64 ((rd_T35 l0 x17_1).f2), .int .i64 ((rd_T35 l0 x17_1).f3), .int .i64 ((rd_T35 l0 x17_1).f4), .int .i64 ((rd_T35 l0 x17_1).f5), .slice A268_6 ((rd_T35 l0 x17_1).f6).length c268_6] 35 (0, 0)) b11_4 hb)
         have n3_ := Aside0.mk (below_step b11_0 hb)
         clear HO_4
         clear HO279
         clear BK269
         clear HB
         have HO_4 := n0_
         have HO279 := n1_
         have BK269 := n2_
         have HB := n3_
         clear n0_ n1_ n2_ n3_
         (try clear hb)
         (try clear hb2)
         (try clear hk)
         (try clear hi)
         refine hK.out _ _ ⟨(blk_cell BK269.out 0).trans rfl, (blk_cell BK269.out 1).trans rfl, (blk_cell BK269.out 2).trans rfl, (blk_cell BK269.out 3).trans rfl, (blk_cell BK269.out 4).trans rfl, (blk_cell BK269.out 5).trans rfl, (blk_cell BK269.out 6).trans rfl⟩ (fun hHeld => ?_)
         clear hK K
         refine norm_ (a' := ?_) ?_ ?_
         rotate_left
         ·show Act.put _ (some 31) _ = _
          simp only [Act.put, List.setIfInBounds_toArray, List.set_cons_zero, List.set_cons_succ, i64_w, i32_w]
          rfl
         refine pk_ 4 (some 32) (bl 6 31) rfl ?_
         refine pk_ 5 (some 27) (bl 6 63) rfl ?_
         refine done_ (by kernel_rfl) ?_
         obtain ⟨hcz23_0, hcz23_1, hcz23_2, hcz23_3, hcz23_4, hcz23_5, hcz23_6, hfz23_0, hfz23_1, hfz23_2, hfz23_3, hfz23_4, hfz23_5, hfz23_6⟩ := cells7 BK269.out
         try go_wp2_with (first | ((with_reducible refine gate_callee (f := 35) rfl ?_); refine goesL_ (some 34) rfl rfl Tryd.func35 (by kernel_rfl) rfl #[.agg #[.int .i64 ((rd_T35 l0 x17_1).f0), .int .i64 ((rd_T35 l0 x17_1).f1), .int .i64 ((rd_T35 l0 x17_1).f2), .int .i64 ((rd_T35 l0 x17_1).f3), .int .i64 ((rd_T35 l0 x17_1).f4), .int .i64 ((rd_T35 l0 x17_1).f5), .slice A268_6 ((rd_T35 l0 x17_1).f6).length c268_6]] rfl b11_1 ?_; (with_reducible refine (impl_Node_reads.calls ((rd_T35 l0 x17_1).f0) ((rd_T35 l0 x17_1).f1) ((rd_T35 l0 x17_1).f2) ((rd_T35 l0 x17_1).f3) ((rd_T35 l0 x17_1).f4) ((rd_T35 l0 x17_1).f5) _ _ ((rd_T35 l0 x17_1).f6) t281 _ ?side1 ?side2 A15.out).mono ?_); (case side1 => exact b11_5); (case side2 => exact HC268_6.out); rintro e w24 ⟨v282, rfl, ho0, hb⟩; refine ⟨_, rfl, ?_⟩; have n0_ := Aside0.mk (Kd.R_elder' b11_2 (Kd.R_base ho0) hb); have n1_ := Aside0.mk (Kd.V_elder' (by (with_reducible repeat (first | apply Kd.V_alloc | apply Kd.V_drewN | apply Kd.V_drew)); exact HO279.out) (Kd.R_base ho0) hb); have n2_ := Aside0.mk (Kd.R_lower (Kd.R_new' ho0 (Kd.R_lt b11_2)) (below_size b11_0)); have n3_ := Aside0.mk (blk_below (g := gb269) (o := .cells #[.int .i64 ((rd_T35 l0 x17_1).f0), .int .i64 ((rd_T35 l0 x17_1).f1), .int .i64 ((rd_T35 l0 x17_1).f2), .int .i64 ((rd_T35 l0 x17_1).f3), .int .i64 ((rd_T35 l0 x17_1).f4), .int .i64 ((rd_T35 l0 x17_1).f5), .slice A268_6 ((rd_T35 l0 x17_1).f6).length c268_6] 35 (0, 0)) b11_4 hb); have n4_ := Aside0.mk (below_step b11_0 hb); clear HO_4; clear HO279; clear BK269; clear HB; have HO_4 := n0_; have HO279 := n1_; have HO283 := n2_; have BK269 := n3_; have HB := n4_; clear n0_ n1_ n2_ n3_ n4_; (try clear hb); (try clear hb2); (try clear hk); (try clear hi); (try clear ho0); obtain ⟨Ao25, co25, eo25⟩ := Kd.R_slice HO283.out; subst eo25))
         go_loopg [36] k1 (fun kq v36 w' => ∃ (x36_2 : Int), v36 = .int .i64 x36_2 ∧ Aside0 (impl_looked.l1 kq l0 x4_1 x17_1 l0 (l0.length : Int) x17_1 t281 (t281.length : Int) x36_2 ((rd_T35 l0 x17_1).f0) ((rd_T35 l0 x17_1).f1) ((rd_T35 l0 x17_1).f2) ((rd_T35 l0 x17_1).f3) ((rd_T35 l0 x17_1).f4) ((rd_T35 l0 x17_1).f5) ((rd_T35 l0 x17_1).f6) = some (r1, r2)) ∧ Aside0 (kq ≤ k1) ∧ Aside0 (Kd.R (Kd.int .i64) 2 w' w.heap.size (fun k_ => some k_ ≠ ((.slice Ao25 t281.length co25) : Value).ownBlock) u4 x4_1) ∧ Aside0 (Kd.R (Kd.int .i64) 2 w' w.heap.size (fun k_ => some k_ ≠ (u4 : Value).ownBlock) (.slice Ao25 t281.length co25) t281) ∧ Aside0 (w'.heap[gb269]? = some (.cells #[.int .i64 ((rd_T35 l0 x17_1).f0), .int .i64 ((rd_T35 l0 x17_1).f1), .int .i64 ((rd_T35 l0 x17_1).f2), .int .i64 ((rd_T35 l0 x17_1).f3), .int .i64 ((rd_T35 l0 x17_1).f4), .int .i64 ((rd_T35 l0 x17_1).f5), (.slice A268_6 ((rd_T35 l0 x17_1).f6).length c268_6)] 35 (0, 0))) ∧ Aside0 (Below w.heap.size w w'))
         case atStart => exact ⟨(0), (by first | rfl | (simp; done) | (simp [*]; done)), H', ⟨Nat.le_refl _⟩, ⟨by (with_reducible repeat (first | apply Kd.R_alloc | apply Kd.R_drewN | apply Kd.R_drew)); exact Kd.R_mono HO_4.out (fun _ hk => hk.2)⟩, ⟨by (with_reducible repeat (first | apply Kd.R_alloc | apply Kd.R_drewN | apply Kd.R_drew)); exact Kd.R_mono HO283.out (fun _ hk => hk.2)⟩, ⟨by (with_reducible repeat (first | refine blk_drewN ?_ _ | refine blk_drew ?_ | refine blk_alloc ?_ _)); exact BK269.out⟩, ⟨by repeat (first | (with_reducible first | exact HB.out | apply below_alloc | apply pw_below_drewN | apply below_drew1 | refine below_set ?_ GE269.out) | exact HB.out)⟩⟩
         case round =>
          clear H'
          try clear c1
          try clear c2
          try clear p2
          try clear q2
          try clear hx2
          try clear c3
          try clear c4
          try clear c7
          try clear c7b0
          try clear c8
          try clear c8b0
          try clear c9
          try clear c9b0
          try clear c11
          try clear c14
          try clear c21
          try clear hcz17_0
          try clear hcz17_1
          try clear hcz17_2
          try clear hcz17_3
          try clear hcz17_4
          try clear hcz17_5
          try clear hcz17_6
          try clear hcz23_0
          try clear hcz23_1
          try clear hcz23_2
          try clear hcz23_3
          try clear hcz23_4
          try clear hcz23_5
          try clear hcz23_6
          try clear hfz17_0
          try clear hfz17_1
          try clear hfz17_2
          try clear hfz17_3
          try clear hfz17_4
          try clear hfz17_5
          try clear hfz17_6
          try clear hfz23_0
          try clear hfz23_1
          try clear hfz23_2
          try clear hfz23_3
          try clear hfz23_4
          try clear hfz23_5
          try clear hfz23_6
          try clear hx268_0
          try clear hx268_1
          try clear hx268_2
          try clear hx268_3
          try clear hx268_4
          try clear hx268_5
          try clear hx268_6
          try clear p2
          try clear p268
          try clear q268
          obtain ⟨x36_2, rfl, HA, HK2, HO_4, HO_34, BK269, HB⟩ := hrel
          cases gk with
          | zero => exact absurd HA.out (by simp [impl_looked.l1])
          | succ k2 =>
           have H := HA.out
           clear HA
           simp only [impl_looked.l1] at H
           by_cases c26 : x36_2 < (t281.length : Int)
           ·rw [if_pos c26] at H
            have c26b0 : decide (x36_2 < (t281.length : Int)) = true := decide_eq_true c26
            clear c26
            by_cases c27 : 0 ≤ x36_2
            ·rw [if_pos c27] at H
             have c27b0 : decide (0 ≤ x36_2) = true := decide_eq_true c27
             clear c27
             by_cases c28 : x36_2 < (t281.length : Int)
             ·rw [if_pos c28] at H
              have c28b0 : decide (x36_2 < (t281.length : Int)) = true := decide_eq_true c28
              clear c28
              replace H := Option.bind_eq_some_iff.mp H
              obtain ⟨t285, A290, H⟩ := H
              replace H : (if t285 = true then (if 0 ≤ (rd t281 x36_2) then (if (rd t281 x36_2) < (l0.length : Int) then (if ((rd_T35 l0 (rd t281 x36_2)).f0) = 12 then (some (([] : List Int), 3)) else (impl_looked.l1 k2 l0 x4_1 x17_1 l0 (l0.length : Int) x17_1 t281 (t281.length : Int) (wrap64 (x36_2 + 1)) ((rd_T35 l0 x17_1).f0) ((rd_T35 l0 x17_1).f1) ((rd_T35 l0 x17_1).f2) ((rd_T35 l0 x17_1).f3) ((rd_T35 l0 x17_1).f4) ((rd_T35 l0 x17_1).f5) ((rd_T35 l0 x17_1).f6))) else (none)) else (none)) else (some (([] : List Int), 3))) = some (r1, r2) := H
              have A29 := Aside0.mk A290
              clear A290
              by_cases c30 : t285 = true
              ·subst c30
               have H1 : (if 0 ≤ (rd t281 x36_2) then (if (rd t281 x36_2) < (l0.length : Int) then (if ((rd_T35 l0 (rd t281 x36_2)).f0) = 12 then (some (([] : List Int), 3)) else (impl_looked.l1 k2 l0 x4_1 x17_1 l0 (l0.length : Int) x17_1 t281 (t281.length : Int) (wrap64 (x36_2 + 1)) ((rd_T35 l0 x17_1).f0) ((rd_T35 l0 x17_1).f1) ((rd_T35 l0 x17_1).f2) ((rd_T35 l0 x17_1).f3) ((rd_T35 l0 x17_1).f4) ((rd_T35 l0 x17_1).f5) ((rd_T35 l0 x17_1).f6))) else (none)) else (none)) = some (r1, r2) := by rw [if_pos rfl] at H; exact H
               clear H
               have H := H1
               clear H1
               by_cases c31 : 0 ≤ (rd t281 x36_2)
               ·rw [if_pos c31] at H
                have c31b0 : decide (0 ≤ (rd t281 x36_2)) = true := decide_eq_true c31
                clear c31
                by_cases c32 : (rd t281 x36_2) < (l0.length : Int)
                ·rw [if_pos c32] at H
                 have c32b0 : decide ((rd t281 x36_2) < (l0.length : Int)) = true := decide_eq_true c32
                 clear c32
                 by_cases c33 : ((rd_T35 l0 (rd t281 x36_2)).f0) = 12
                 ·rw [if_pos c33] at H
                  have c33b0 : (((rd_T35 l0 (rd t281 x36_2)).f0) == 12) = true := beq_iff_eq.mpr c33
                  have c33b1 : (((rd_T35 l0 (rd t281 x36_2)).f0) != 12) = false := bne_eq_false_iff_eq.mpr c33
                  clear c33
                  simp only [Option.some.injEq, Prod.mk.injEq] at H
                  obtain ⟨rfl, rfl⟩ := H
                  have p284 : 0 ≤ (x36_2 : Int) := of_decide_eq_true b11_6
                  have q284 : x36_2 < (t281.length : Int) := of_decide_eq_true b11_6
                  obtain ⟨ad284, e284, hx284_0⟩ := Kd.at_int (Kd.R_reads' HO_34.out).2.2 x36_2 p284 q284
                  cases e284
                  replace p284 := eq_true p284
                  replace q284 := eq_true q284
                  go_wp2_with (first | ((with_reducible refine gate_callee (f := 31) rfl ?_); refine goesL_ (some 43) rfl rfl Tryd.func31 (by kernel_rfl) rfl #[.int .i64 (rd t281 x36_2), .int .i64 0, .int .i64 (wrap64 (x17_1 - 1))] rfl b11_1 ?_; (with_reducible refine (impl_in.calls (rd t281 x36_2) 0 (wrap64 (x17_1 - 1)) true _ A29.out).mono ?_); rintro e w' ⟨rfl, ⟨nd, rfl⟩⟩; refine ⟨_, rfl, ?_⟩; have p286 : 0 ≤ ((rd t281 x36_2) : Int) := of_decide_eq_true b11_6; have q286 : (rd t281 x36_2) < (l0.length : Int) := of_decide_eq_true b11_6; obtain ⟨ad286, A286_6, c286_6, e286, hx286_0, hx286_1, hx286_2, hx286_3, hx286_4, hx286_5, hx286_6, hl286_6, hi286_6⟩ := at_T35 HR0.out (rd t281 x36_2) p286 q286; obtain rfl : ad268 = ad286 := (by injection e286); replace hx286_0 := (HB.out.cell (World.block_lt_of_cell? w _ hx286_0)).trans hx286_0; replace hx286_1 := (HB.out.cell (World.block_lt_of_cell? w _ hx286_1)).trans hx286_1; replace hx286_2 := (HB.out.cell (World.block_lt_of_cell? w _ hx286_2)).trans hx286_2; replace hx286_3 := (HB.out.cell (World.block_lt_of_cell? w _ hx286_3)).trans hx286_3; replace hx286_4 := (HB.out.cell (World.block_lt_of_cell? w _ hx286_4)).trans hx286_4; replace hx286_5 := (HB.out.cell (World.block_lt_of_cell? w _ hx286_5)).trans hx286_5; replace hx286_6 := (HB.out.cell (World.block_lt_of_cell? w _ hx286_6)).trans hx286_6; have HR286_6 := Aside0.mk hi286_6; have HC286_6 := Aside0.mk hl286_6; clear hi286_6 hl286_6; replace p286 := eq_true p286; replace q286 := eq_true q286))
                  go_ret2
                  exact ⟨_, by first | rfl | (simp [errW_none, errW_some] <;> rfl) | (simp [*, errW_none, errW_some] <;> rfl), by first | exact Kd.R_nil _ _ _ _ _ | exact Kd.N_nil _ _ _ _ _ | exact Kd.V_nil _ _ _ _ _ | exact Kd.Q_nil _ _ _ _ _ | exact Kd.S_nil _ _ _ _ _, by repeat (first | (with_reducible first | exact HB.out | apply below_alloc | apply pw_below_drewN | apply below_drew1 | refine below_set ?_ GE269.out) | exact HB.out)⟩
                 ·rw [if_neg c33] at H
                  have c33b0 : (((rd_T35 l0 (rd t281 x36_2)).f0) == 12) = false := beq_eq_false_iff_ne.mpr c33
                  have c33b1 : (((rd_T35 l0 (rd t281 x36_2)).f0) != 12) = true := bne_iff_ne.mpr c33
                  have H' := Aside0.mk H
                  clear H
                  have p284 : 0 ≤ (x36_2 : Int) := of_decide_eq_true b11_6
                  have q284 : x36_2 < (t281.length : Int) := of_decide_eq_true b11_6
                  obtain ⟨ad284, e284, hx284_0⟩ := Kd.at_int (Kd.R_reads' HO_34.out).2.2 x36_2 p284 q284
                  cases e284
                  replace p284 := eq_true p284
                  replace q284 := eq_true q284
                  go_wp2_with (first | ((with_reducible refine gate_callee (f := 31) rfl ?_); refine goesL_ (some 43) rfl rfl Tryd.func31 (by kernel_rfl) rfl #[.int .i64 (rd t281 x36_2), .int .i64 0, .int .i64 (wrap64 (x17_1 - 1))] rfl b11_1 ?_; (with_reducible refine (impl_in.calls (rd t281 x36_2) 0 (wrap64 (x17_1 - 1)) true _ A29.out).mono ?_); rintro e w' ⟨rfl, ⟨nd, rfl⟩⟩; refine ⟨_, rfl, ?_⟩; have p286 : 0 ≤ ((rd t281 x36_2) : Int) := of_decide_eq_true b11_6; have q286 : (rd t281 x36_2) < (l0.length : Int) := of_decide_eq_true b11_6; obtain ⟨ad286, A286_6, c286_6, e286, hx286_0, hx286_1, hx286_2, hx286_3, hx286_4, hx286_5, hx286_6, hl286_6, hi286_6⟩ := at_T35 HR0.out (rd t281 x36_2) p286 q286; obtain rfl : ad268 = ad286 := (by injection e286); replace hx286_0 := (HB.out.cell (World.block_lt_of_cell? w _ hx286_0)).trans hx286_0; replace hx286_1 := (HB.out.cell (World.block_lt_of_cell? w _ hx286_1)).trans hx286_1; replace hx286_2 := (HB.out.cell (World.block_lt_of_cell? w _ hx286_2)).trans hx286_2; replace hx286_3 := (HB.out.cell (World.block_lt_of_cell? w _ hx286_3)).trans hx286_3; replace hx286_4 := (HB.out.cell (World.block_lt_of_cell? w _ hx286_4)).trans hx286_4; replace hx286_5 := (HB.out.cell (World.block_lt_of_cell? w _ hx286_5)).trans hx286_5; replace hx286_6 := (HB.out.cell (World.block_lt_of_cell? w _ hx286_6)).trans hx286_6; have HR286_6 := Aside0.mk hi286_6; have HC286_6 := Aside0.mk hl286_6; clear hi286_6 hl286_6; replace p286 := eq_true p286; replace q286 := eq_true q286))
                  go_roundg k2
                  case measure => have := HK1.out; have := HK2.out; omega
                  case rel => exact ⟨(wrap64 (x36_2 + 1)), (by first | rfl | (simp; done) | (simp [*]; done)), H', ⟨by have := HK1.out; have := HK2.out; omega⟩, ⟨by (with_reducible repeat (first | apply Kd.R_alloc | apply Kd.R_drewN | apply Kd.R_drew)); exact HO_4.out⟩, ⟨by (with_reducible repeat (first | apply Kd.R_alloc | apply Kd.R_drewN | apply Kd.R_drew)); exact HO_34.out⟩, ⟨by (with_reducible repeat (first | refine blk_drewN ?_ _ | refine blk_drew ?_ | refine blk_alloc ?_ _)); exact BK269.out⟩, ⟨by repeat (first | (with_reducible first | exact HB.out | apply below_alloc | apply pw_below_drewN | apply below_drew1 | refine below_set ?_ GE269.out) | exact HB.out)⟩⟩
                ·rw [if_neg c32] at H
                 exact absurd H (by simp)
               ·rw [if_neg c31] at H
                exact absurd H (by simp)
              ·replace c30 := Bool.eq_false_iff.mpr c30
               subst c30
               have H1 : (some (([] : List Int), 3)) = some (r1, r2) := by rw [if_neg (show ¬ (false = true) by decide)] at H; exact H
               clear H
               have H := H1
               clear H1
               simp only [Option.some.injEq, Prod.mk.injEq] at H
               obtain ⟨rfl, rfl⟩ := H
               have p284 : 0 ≤ (x36_2 : Int) := of_decide_eq_true b11_6
               have q284 : x36_2 < (t281.length : Int) := of_decide_eq_true b11_6
               obtain ⟨ad284, e284, hx284_0⟩ := Kd.at_int (Kd.R_reads' HO_34.out).2.2 x36_2 p284 q284
               cases e284
               replace p284 := eq_true p284
               replace q284 := eq_true q284
               go_wp2_with (first | ((with_reducible refine gate_callee (f := 31) rfl ?_); refine goesL_ (some 43) rfl rfl Tryd.func31 (by kernel_rfl) rfl #[.int .i64 (rd t281 x36_2), .int .i64 0, .int .i64 (wrap64 (x17_1 - 1))] rfl b11_1 ?_; (with_reducible refine (impl_in.calls (rd t281 x36_2) 0 (wrap64 (x17_1 - 1)) false _ A29.out).mono ?_); rintro e w' ⟨rfl, ⟨nd, rfl⟩⟩; refine ⟨_, rfl, ?_⟩))
               go_ret2
               exact ⟨_, by first | rfl | (simp [errW_none, errW_some] <;> rfl) | (simp [*, errW_none, errW_some] <;> rfl), by first | exact Kd.R_nil _ _ _ _ _ | exact Kd.N_nil _ _ _ _ _ | exact Kd.V_nil _ _ _ _ _ | exact Kd.Q_nil _ _ _ _ _ | exact Kd.S_nil _ _ _ _ _, by repeat (first | (with_reducible first | exact HB.out | apply below_alloc | apply pw_below_drewN | apply below_drew1 | refine below_set ?_ GE269.out) | exact HB.out)⟩
             ·rw [if_neg c28] at H
              exact absurd H (by simp)
            ·rw [if_neg c27] at H
             exact absurd H (by simp)
           ·rw [if_neg c26] at H
            have c26b0 : decide (x36_2 < (t281.length : Int)) = false := decide_eq_false c26
            clear c26
            replace H := Option.bind_eq_some_iff.mp H
            obtain ⟨t287, A340, H⟩ := H
            replace H : (if t287 = 0 then ((impl_Node_width.f ((rd_T35 l0 x17_1).f0) ((rd_T35 l0 x17_1).f1) ((rd_T35 l0 x17_1).f2) ((rd_T35 l0 x17_1).f3) ((rd_T35 l0 x17_1).f4) ((rd_T35 l0 x17_1).f5) ((rd_T35 l0 x17_1).f6) x4_1).bind fun t288 => (if x4_1.length < 17592186044416 then (impl_looked.l0 k2 l0 (x4_1 ++ [t288]) l0 (l0.length : Int) (wrap64 (x17_1 + 1))) else (none))) else (some (([] : List Int), t287))) = some (r1, r2) := H
            have A34 := Aside0.mk A340
            clear A340
            by_cases c35 : t287 = 0
            ·rw [if_pos c35] at H
             have c35b0 : (t287 == 0) = true := beq_iff_eq.mpr c35
             have c35b1 : (t287 != 0) = false := bne_eq_false_iff_eq.mpr c35
             clear c35
             replace H := Option.bind_eq_some_iff.mp H
             obtain ⟨t288, A360, H⟩ := H
             replace H : (if x4_1.length < 17592186044416 then (impl_looked.l0 k2 l0 (x4_1 ++ [t288]) l0 (l0.length : Int) (wrap64 (x17_1 + 1))) else (none)) = some (r1, r2) := H
             have A36 := Aside0.mk A360
             clear A360
             by_cases c37 : x4_1.length < 17592186044416
             ·rw [if_pos c37] at H
              have LMc37 := Aside0.mk c37
              clear c37
              obtain ⟨y289, hy289⟩ : ∃ y_ : List Int, y_ = (x4_1 ++ [t288]) := ⟨_, rfl⟩
              replace H : (impl_looked.l0 k2 l0 y289 l0 (l0.length : Int) (wrap64 (x17_1 + 1))) = some (r1, r2) := by first | (rw [hy289]; with_reducible exact H) | (have H2_ := (Option.bind_some _ _).symm.trans H; rw [hy289]; with_reducible exact H2_) | (have H2_ := (Option.bind_some _ _).symm.trans H; with_reducible exact H2_) | with_reducible exact H | (rw [hy289]; exact H) | exact H
              have Ny289 := Aside0.mk hy289
              clear hy289
              have H' := Aside0.mk H
              clear H
              obtain ⟨hcz38_0, hcz38_1, hcz38_2, hcz38_3, hcz38_4, hcz38_5, hcz38_6, hfz38_0, hfz38_1, hfz38_2, hfz38_3, hfz38_4, hfz38_5, hfz38_6⟩ := cells7 BK269.out
              obtain ⟨Ao39, co39, eo39⟩ := Kd.R_slice HO_4.out
              subst eo39
              go_wp2_with (first | ((with_reducible refine gate_callee (f := 36) rfl ?_); refine goesL_ (some 56) rfl rfl Tryd.func36 (by kernel_rfl) rfl #[.agg #[.int .i64 ((rd_T35 l0 x17_1).f0), .int .i64 ((rd_T35 l0 x17_1).f1), .int .i64 ((rd_T35 l0 x17_1).f2), .int .i64 ((rd_T35 l0 x17_1).f3), .int .i64 ((rd_T35 l0 x17_1).f4), .int .i64 ((rd_T35 l0 x17_1).f5), .slice A268_6 ((rd_T35 l0 x17_1).f6).length c268_6], .slice Ao39 x4_1.length co39] rfl b11_1 ?_; (with_reducible refine (impl_Node_fault.calls k2 ((rd_T35 l0 x17_1).f0) ((rd_T35 l0 x17_1).f1) ((rd_T35 l0 x17_1).f2) ((rd_T35 l0 x17_1).f3) ((rd_T35 l0 x17_1).f4) ((rd_T35 l0 x17_1).f5) _ _ ((rd_T35 l0 x17_1).f6) _ _ x4_1 t287 _ ?side1 ?side2 ?side3 ?side4 A34.out).mono ?_); (case side1 => exact b11_5); (case side2 => exact HC268_6.out); (case side3 => exact (by repeat (first | exact (Kd.R_reads' HO_4.out).2.2 | (with_reducible refine Kd.C_alloc ?_ _) | (with_reducible refine Kd.C_drewN ?_ _) | (with_reducible refine Kd.C_drew ?_)))); (case side4 => exact (Kd.R_reads' HO_4.out).2.1); rintro e w40 ⟨rfl, hb⟩; refine ⟨_, rfl, ?_⟩; have n0_ := Aside0.mk (Kd.R_below b11_2 hb); have n1_ := Aside0.mk (Kd.R_below (by (with_reducible repeat (first | apply Kd.R_alloc | apply Kd.R_drewN | apply Kd.R_drew)); exact HO_34.out) hb); have n2_ := Aside0.mk (blk_below (g := gb269) (o := .cells #[.int .i64 ((rd_T35 l0 x17_1).f0), .int .i64 ((rd_T35 l0 x17_1).f1), .int .i64 ((rd_T35 l0 x17_1).f2), .int .i64 ((rd_T35 l0 x17_1).f3), .int .i64 ((rd_T35 l0 x17_1).f4), .int .i64 ((rd_T35 l0 x17_1).f5), .slice A268_6 ((rd_T35 l0 x17_1).f6).length c268_6] 35 (0, 0)) b11_4 hb); have n3_ := Aside0.mk (below_step b11_0 hb); clear HO_4; clear HO_34; clear BK269; clear HB; have HO_4 := n0_; have HO_34 := n1_; have BK269 := n2_; have HB := n3_; clear n0_ n1_ n2_ n3_; (try clear hb); (try clear hb2); (try clear hk); (try clear hi); obtain ⟨hcz41_0, hcz41_1, hcz41_2, hcz41_3, hcz41_4, hcz41_5, hcz41_6, hfz41_0, hfz41_1, hfz41_2, hfz41_3, hfz41_4, hfz41_5, hfz41_6⟩ := cells7 BK269.out) | ((with_reducible refine gate_callee (f := 37) rfl ?_); refine goesL_ (some 63) rfl rfl Tryd.func37 (by kernel_rfl) rfl #[.agg #[.int .i64 ((rd_T35 l0 x17_1).f0), .int .i64 ((rd_T35 l0 x17_1).f1), .int .i64 ((rd_T35 l0 x17_1).f2), .int .i64 ((rd_T35 l0 x17_1).f3), .int .i64 ((rd_T35 l0 x17_1).f4), .int .i64 ((rd_T35 l0 x17_1).f5), .slice A268_6 ((rd_T35 l0 x17_1).f6).length c268_6], .slice Ao39 x4_1.length co39] rfl b11_1 ?_; (with_reducible refine (impl_Node_width.calls ((rd_T35 l0 x17_1).f0) ((rd_T35 l0 x17_1).f1) ((rd_T35 l0 x17_1).f2) ((rd_T35 l0 x17_1).f3) ((rd_T35 l0 x17_1).f4) ((rd_T35 l0 x17_1).f5) _ _ ((rd_T35 l0 x17_1).f6) _ _ x4_1 t288 _ ?side1 ?side2 ?side3 ?side4 A36.out).mono ?_); (case side1 => exact b11_5); (case side2 => exact HC268_6.out); (case side3 => exact (by repeat (first | exact (Kd.R_reads' HO_4.out).2.2 | (with_reducible refine Kd.C_alloc ?_ _) | (with_reducible refine Kd.C_drewN ?_ _) | (with_reducible refine Kd.C_drew ?_)))); (case side4 => exact (Kd.R_reads' HO_4.out).2.1); rintro e w42 ⟨rfl, hb⟩; refine ⟨_, rfl, ?_⟩; have n0_ := Aside0.mk (Kd.R_below b11_2 hb); have n1_ := Aside0.mk (Kd.R_below (by (with_reducible repeat (first | apply Kd.R_alloc | apply Kd.R_drewN | apply Kd.R_drew)); exact HO_34.out) hb); have n2_ := Aside0.mk (blk_below (g := gb269) (o := .cells #[.int .i64 ((rd_T35 l0 x17_1).f0), .int .i64 ((rd_T35 l0 x17_1).f1), .int .i64 ((rd_T35 l0 x17_1).f2), .int .i64 ((rd_T35 l0 x17_1).f3), .int .i64 ((rd_T35 l0 x17_1).f4), .int .i64 ((rd_T35 l0 x17_1).f5), .slice A268_6 ((rd_T35 l0 x17_1).f6).length c268_6] 35 (0, 0)) b11_4 hb); have n3_ := Aside0.mk (below_step b11_0 hb); clear HO_4; clear HO_34; clear BK269; clear HB; have HO_4 := n0_; have HO_34 := n1_; have BK269 := n2_; have HB := n3_; clear n0_ n1_ n2_ n3_; (try clear hb); (try clear hb2); (try clear hk); (try clear hi)) | ((with_reducible refine gate_builtin (b := .append) (xs := #[.tmp 60, .tmp 64]) rfl ?_); at_builtin; refine Kd.R_append (Kd.int .i64) (w0 := w) w.heap.size rfl (.tmp 60) (.tmp 64) 30 2 (.int .i64 0) 8 rfl Tryd.underlying30 info2 rfl (by decide) (by omega) (.slice Ao39 x4_1.length co39) x4_1 t288 [.int .i64 t288] (fun k_ => some k_ ≠ (.slice Ao25 t281.length co25 : Value).ownBlock) (fun _ => False) rfl rfl ?aP (fun _ hk => hk.elim) ?aF ?aO ?aB ?aS ?aL ?_; (case aP => exact rfl); (case aB => exact (by exact b11_0)); (case aF => exact (by exact (fun k_ hk => Kd.fresh' (Kd.R_lt (by (with_reducible repeat (first | apply Kd.R_alloc | apply Kd.R_drewN | apply Kd.R_drew)); exact HO_34.out)) k_ hk))); (case aO => exact (by exact b11_2)); (case aS => exact (by exact (below_size b11_0))); (case aL => have := LMc37.out; omega); intro v290 w43 ho hb hg hat; rw [← Ny289.out] at ho; have n0_ := Aside0.mk (Kd.R_after (ok := (fun _ => True)) (by (with_reducible repeat (first | apply Kd.R_alloc | apply Kd.R_drewN | apply Kd.R_drew)); exact Kd.R_mono HO_34.out (fun _ hk => ⟨trivial, hk⟩)) hg hat); have n1_ := Aside0.mk (blk_grown (g := gb269) (o := .cells #[.int .i64 ((rd_T35 l0 x17_1).f0), .int .i64 ((rd_T35 l0 x17_1).f1), .int .i64 ((rd_T35 l0 x17_1).f2), .int .i64 ((rd_T35 l0 x17_1).f3), .int .i64 ((rd_T35 l0 x17_1).f4), .int .i64 ((rd_T35 l0 x17_1).f5), .slice A268_6 ((rd_T35 l0 x17_1).f6).length c268_6] 35 (0, 0)) b11_4 hg (Kd.R_ne HO_4.out BK269.out (by decide))); have n2_ := Aside0.mk (hb); have n3_ := Aside0.mk (ho); clear HO_34; clear BK269; clear HB; clear HO_4; have HO_34 := n0_; have BK269 := n1_; have HB := n2_; have HO291 := n3_; clear n0_ n1_ n2_ n3_; clear ho hb hg hat))
              go_roundg k2
              case measure => have := HK1.out; have := HK2.out; omega
              case rel => exact ⟨(y289), (wrap64 (x17_1 + 1)), (by first | rfl | (simp; done) | (simp [*]; done)), H', ⟨by have := HK1.out; have := HK2.out; omega⟩, ⟨by (with_reducible repeat (first | apply Kd.R_alloc | apply Kd.R_drewN | apply Kd.R_drew)); exact Kd.R_mono HO291.out (fun _ hk => trivial)⟩, ⟨by repeat (first | (with_reducible first | exact HB.out | apply below_alloc | apply pw_below_drewN | apply below_drew1 | refine below_set ?_ GE269.out) | exact HB.out)⟩⟩
             ·rw [if_neg c37] at H
              exact absurd H (by simp)
            ·rw [if_neg c35] at H
             have c35b0 : (t287 == 0) = false := beq_eq_false_iff_ne.mpr c35
             have c35b1 : (t287 != 0) = true := bne_iff_ne.mpr c35
             simp only [Option.some.injEq, Prod.mk.injEq] at H
             obtain ⟨rfl, rfl⟩ := H
             obtain ⟨hcz44_0, hcz44_1, hcz44_2, hcz44_3, hcz44_4, hcz44_5, hcz44_6, hfz44_0, hfz44_1, hfz44_2, hfz44_3, hfz44_4, hfz44_5, hfz44_6⟩ := cells7 BK269.out
             obtain ⟨Ao45, co45, eo45⟩ := Kd.R_slice HO_4.out
             subst eo45
             go_wp2_with (first | ((with_reducible refine gate_callee (f := 36) rfl ?_); refine goesL_ (some 56) rfl rfl Tryd.func36 (by kernel_rfl) rfl #[.agg #[.int .i64 ((rd_T35 l0 x17_1).f0), .int .i64 ((rd_T35 l0 x17_1).f1), .int .i64 ((rd_T35 l0 x17_1).f2), .int .i64 ((rd_T35 l0 x17_1).f3), .int .i64 ((rd_T35 l0 x17_1).f4), .int .i64 ((rd_T35 l0 x17_1).f5), .slice A268_6 ((rd_T35 l0 x17_1).f6).length c268_6], .slice Ao45 x4_1.length co45] rfl b11_1 ?_; (with_reducible refine (impl_Node_fault.calls k2 ((rd_T35 l0 x17_1).f0) ((rd_T35 l0 x17_1).f1) ((rd_T35 l0 x17_1).f2) ((rd_T35 l0 x17_1).f3) ((rd_T35 l0 x17_1).f4) ((rd_T35 l0 x17_1).f5) _ _ ((rd_T35 l0 x17_1).f6) _ _ x4_1 t287 _ ?side1 ?side2 ?side3 ?side4 A34.out).mono ?_); (case side1 => exact b11_5); (case side2 => exact HC268_6.out); (case side3 => exact (by repeat (first | exact (Kd.R_reads' HO_4.out).2.2 | (with_reducible refine Kd.C_alloc ?_ _) | (with_reducible refine Kd.C_drewN ?_ _) | (with_reducible refine Kd.C_drew ?_)))); (case side4 => exact (Kd.R_reads' HO_4.out).2.1); rintro e w46 ⟨rfl, hb⟩; refine ⟨_, rfl, ?_⟩; have n0_ := Aside0.mk (Kd.R_below b11_2 hb); have n1_ := Aside0.mk (Kd.R_below (by (with_reducible repeat (first | apply Kd.R_alloc | apply Kd.R_drewN | apply Kd.R_drew)); exact HO_34.out) hb); have n2_ := Aside0.mk (blk_below (g := gb269) (o := .cells #[.int .i64 ((rd_T35 l0 x17_1).f0), .int .i64 ((rd_T35 l0 x17_1).f1), .int .i64 ((rd_T35 l0 x17_1).f2), .int .i64 ((rd_T35 l0 x17_1).f3), .int .i64 ((rd_T35 l0 x17_1).f4), .int .i64 ((rd_T35 l0 x17_1).f5), .slice A268_6 ((rd_T35 l0 x17_1).f6).length c268_6] 35 (0, 0)) b11_4 hb); have n3_ := Aside0.mk (below_step b11_0 hb); clear HO_4; clear HO_34; clear BK269; clear HB; have HO_4 := n0_; have HO_34 := n1_; have BK269 := n2_; have HB := n3_; clear n0_ n1_ n2_ n3_; (try clear hb); (try clear hb2); (try clear hk); (try clear hi)))
             go_ret2
             exact ⟨_, by first | rfl | (simp [errW_none, errW_some] <;> rfl) | (simp [*, errW_none, errW_some] <;> rfl), by first | exact Kd.R_nil _ _ _ _ _ | exact Kd.N_nil _ _ _ _ _ | exact Kd.V_nil _ _ _ _ _ | exact Kd.Q_nil _ _ _ _ _ | exact Kd.S_nil _ _ _ _ _, by repeat (first | (with_reducible first | exact HB.out | apply below_alloc | apply pw_below_drewN | apply below_drew1 | refine below_set ?_ GE269.out) | exact HB.out)⟩
        ·replace c14 := Bool.eq_false_iff.mpr c14
         subst c14
         have H1 : (some (([] : List Int), 1)) = some (r1, r2) := by rw [if_neg (show ¬ (false = true) by decide)] at H; exact H
         clear H
         have H := H1
         clear H1
         simp only [Option.some.injEq, Prod.mk.injEq] at H
         obtain ⟨rfl, rfl⟩ := H
         have p268 : 0 ≤ (x17_1 : Int) := of_decide_eq_true b11_6
         have q268 : x17_1 < (l0.length : Int) := of_decide_eq_true b11_6
         obtain ⟨ad268, A268_6, c268_6, e268, hx268_0, hx268_1, hx268_2, hx268_3, hx268_4, hx268_5, hx268_6, hl268_6, hi268_6⟩ := at_T35 HR0.out x17_1 p268 q268
         cases e268
         replace hx268_0 := (HB.out.cell (World.block_lt_of_cell? w _ hx268_0)).trans hx268_0
         replace hx268_1 := (HB.out.cell (World.block_lt_of_cell? w _ hx268_1)).trans hx268_1
         replace hx268_2 := (HB.out.cell (World.block_lt_of_cell? w _ hx268_2)).trans hx268_2
         replace hx268_3 := (HB.out.cell (World.block_lt_of_cell? w _ hx268_3)).trans hx268_3
         replace hx268_4 := (HB.out.cell (World.block_lt_of_cell? w _ hx268_4)).trans hx268_4
         replace hx268_5 := (HB.out.cell (World.block_lt_of_cell? w _ hx268_5)).trans hx268_5
         replace hx268_6 := (HB.out.cell (World.block_lt_of_cell? w _ hx268_6)).trans hx268_6
         have HR268_6 := Aside0.mk hi268_6
         have HC268_6 := Aside0.mk hl268_6
         clear hi268_6 hl268_6
         replace p268 := eq_true p268
         replace q268 := eq_true q268
         try go_wp2_with (first | ((with_reducible refine gate_dst (N := 6) rfl ?_); refine box_event ?hg (N := 6) ?hd (cs := #[.int .i64 0, .int .i64 0, .int .i64 0, .int .i64 0, .int .i64 0, .int .i64 0, .slice none 0 0]) (t := 35) ?hr ?_; (case hd => rfl); (case hg => rfl); (case hr => first | (go_simp; done) | (go_simp; rfl)); intro gb269 hg w47 hbox hb; have n0_ := Aside0.mk (Kd.R_below b11_2 hb); have n1_ := Aside0.mk (below_step b11_3 hb); have n2_ := Aside0.mk (hbox); have n3_ := Aside0.mk ((by rw [hg]; exact (below_size b11_3) : w.heap.size ≤ gb269)); have n4_ := Aside0.mk ((by rw [hg]; exact (below_size b11_3) : w.heap.size ≤ gb269)); clear HO_4; clear HB; have HO_4 := n0_; have HB := n1_; have BK269 := n2_; have GW269 := n3_; have GE269 := n4_; clear n0_ n1_ n2_ n3_ n4_; clear hb hbox hg; obtain ⟨hcz48_0, hcz48_1, hcz48_2, hcz48_3, hcz48_4, hcz48_5, hcz48_6, hfz48_0, hfz48_1, hfz48_2, hfz48_3, hfz48_4, hfz48_5, hfz48_6⟩ := cells7 BK269.out) | ((with_reducible refine gate_callee (f := 31) rfl ?_); refine goesL_ (some 25) rfl rfl Tryd.func31 (by kernel_rfl) rfl #[.int .i64 ((rd_T35 l0 x17_1).f0), .int .i64 1, .int .i64 12] rfl b11_1 ?_; (with_reducible refine (impl_in.calls ((rd_T35 l0 x17_1).f0) 1 12 true _ A10.out).mono ?_); rintro e w' ⟨rfl, ⟨nd, rfl⟩⟩; refine ⟨_, rfl, ?_⟩))
         have n0_ : Aside0 (Kd.R (Kd.int .i64) 2 (((((((w47.setCell ⟨gb269, 0, none⟩ (.int .i64 ((rd_T35 l0 x17_1).f0))).setCell ⟨gb269, 1, none⟩ (.int .i64 ((rd_T35 l0 x17_1).f1))).setCell ⟨gb269, 2, none⟩ (.int .i64 ((rd_T35 l0 x17_1).f2))).setCell ⟨gb269, 3, none⟩ (.int .i64 ((rd_T35 l0 x17_1).f3))).setCell ⟨gb269, 4, none⟩ (.int .i64 ((rd_T35 l0 x17_1).f4))).setCell ⟨gb269, 5, none⟩ (.int .i64 ((rd_T35 l0 x17_1).f5))).setCell ⟨gb269, 6, none⟩ (.slice A268_6 ((rd_T35 l0 x17_1).f6).length c268_6)) w.heap.size (fun _ => True) u4 x4_1) := ⟨by (with_reducible repeat (first | apply Kd.R_alloc | apply Kd.R_drewN | apply Kd.R_drew)); exact Kd.R_mono (Kd.R_far (p := ⟨gb269, 6, none⟩) (Kd.R_far (p := ⟨gb269, 5, none⟩) (Kd.R_far (p := ⟨gb269, 4, none⟩) (Kd.R_far (p := ⟨gb269, 3, none⟩) (Kd.R_far (p := ⟨gb269, 2, none⟩) (Kd.R_far (p := ⟨gb269, 1, none⟩) (Kd.R_far (p := ⟨gb269, 0, none⟩) (Kd.R_types HO_4.out BK269.out (by decide)) (fun _ hk => hk.2) (.int .i64 ((rd_T35 l0 x17_1).f0))) (fun _ hk => hk.2) (.int .i64 ((rd_T35 l0 x17_1).f1))) (fun _ hk => hk.2) (.int .i64 ((rd_T35 l0 x17_1).f2))) (fun _ hk => hk.2) (.int .i64 ((rd_T35 l0 x17_1).f3))) (fun _ hk => hk.2) (.int .i64 ((rd_T35 l0 x17_1).f4))) (fun _ hk => hk.2) (.int .i64 ((rd_T35 l0 x17_1).f5))) (fun _ hk => hk.2) (.slice A268_6 ((rd_T35 l0 x17_1).f6).length c268_6)) (fun _ hk => trivial)⟩
         have n1_ : Aside0 ((((((((w47.setCell ⟨gb269, 0, none⟩ (.int .i64 ((rd_T35 l0 x17_1).f0))).setCell ⟨gb269, 1, none⟩ (.int .i64 ((rd_T35 l0 x17_1).f1))).setCell ⟨gb269, 2, none⟩ (.int .i64 ((rd_T35 l0 x17_1).f2))).setCell ⟨gb269, 3, none⟩ (.int .i64 ((rd_T35 l0 x17_1).f3))).setCell ⟨gb269, 4, none⟩ (.int .i64 ((rd_T35 l0 x17_1).f4))).setCell ⟨gb269, 5, none⟩ (.int .i64 ((rd_T35 l0 x17_1).f5))).setCell ⟨gb269, 6, none⟩ (.slice A268_6 ((rd_T35 l0 x17_1).f6).length c268_6)).heap[gb269]? = some (.cells #[.int .i64 ((rd_T35 l0 x17_1).f0), .int .i64 ((rd_T35 l0 x17_1).f1), .int .i64 ((rd_T35 l0 x17_1).f2), .int .i64 ((rd_T35 l0 x17_1).f3), .int .i64 ((rd_T35 l0 x17_1).f4), .int .i64 ((rd_T35 l0 x17_1).f5), .slice A268_6 ((rd_T35 l0 x17_1).f6).length c268_6] 35 (0, 0))) := ⟨by (with_reducible repeat (first | refine blk_drewN ?_ _ | refine blk_drew ?_ | refine blk_alloc ?_ _)); refine blk_put (cs := #[.int .i64 ((rd_T35 l0 x17_1).f0), .int .i64 ((rd_T35 l0 x17_1).f1), .int .i64 ((rd_T35 l0 x17_1).f2), .int .i64 ((rd_T35 l0 x17_1).f3), .int .i64 ((rd_T35 l0 x17_1).f4), .int .i64 ((rd_T35 l0 x17_1).f5), .slice none 0 0]) ?_ 6 _ rfl; (with_reducible repeat (first | refine blk_drewN ?_ _ | refine blk_drew ?_ | refine blk_alloc ?_ _)); refine blk_put (cs := #[.int .i64 ((rd_T35 l0 x17_1).f0), .int .i64 ((rd_T35 l0 x17_1).f1), .int .i64 ((rd_T35 l0 x17_1).f2), .int .i64 ((rd_T35 l0 x17_1).f3), .int .i64 ((rd_T35 l0 x17_1).f4), .int .i64 0, .slice none 0 0]) ?_ 5 _ rfl; (with_reducible repeat (first | refine blk_drewN ?_ _ | refine blk_drew ?_ | refine blk_alloc ?_ _)); refine blk_put (cs := #[.int .i64 ((rd_T35 l0 x17_1).f0), .int .i64 ((rd_T35 l0 x17_1).f1), .int .i64 ((rd_T35 l0 x17_1).f2), .int .i64 ((rd_T35 l0 x17_1).f3), .int .i64 0, .int .i64 0, .slice none 0 0]) ?_ 4 _ rfl; (with_reducible repeat (first | refine blk_drewN ?_ _ | refine blk_drew ?_ | refine blk_alloc ?_ _)); refine blk_put (cs := #[.int .i64 ((rd_T35 l0 x17_1).f0), .int .i64 ((rd_T35 l0 x17_1).f1), .int .i64 ((rd_T35 l0 x17_1).f2), .int .i64 0, .int .i64 0, .int .i64 0, .slice none 0 0]) ?_ 3 _ rfl; (with_reducible repeat (first | refine blk_drewN ?_ _ | refine blk_drew ?_ | refine blk_alloc ?_ _)); refine blk_put (cs := #[.int .i64 ((rd_T35 l0 x17_1).f0), .int .i64 ((rd_T35 l0 x17_1).f1), .int .i64 0, .int .i64 0, .int .i64 0, .int .i64 0, .slice none 0 0]) ?_ 2 _ rfl; (with_reducible repeat (first | refine blk_drewN ?_ _ | refine blk_drew ?_ | refine blk_alloc ?_ _)); refine blk_put (cs := #[.int .i64 ((rd_T35 l0 x17_1).f0), .int .i64 0, .int .i64 0, .int .i64 0, .int .i64 0, .int .i64 0, .slice none 0 0]) ?_ 1 _ rfl; (with_reducible repeat (first | refine blk_drewN ?_ _ | refine blk_drew ?_ | refine blk_alloc ?_ _)); refine blk_put (cs := #[.int .i64 0, .int .i64 0, .int .i64 0, .int .i64 0, .int .i64 0, .int .i64 0, .slice none 0 0]) ?_ 0 _ rfl; (with_reducible repeat (first | refine blk_drewN ?_ _ | refine blk_drew ?_ | refine blk_alloc ?_ _)); exact BK269.out⟩
         have n2_ : Aside0 (Below w.heap.size w (((((((w47.setCell ⟨gb269, 0, none⟩ (.int .i64 ((rd_T35 l0 x17_1).f0))).setCell ⟨gb269, 1, none⟩ (.int .i64 ((rd_T35 l0 x17_1).f1))).setCell ⟨gb269, 2, none⟩ (.int .i64 ((rd_T35 l0 x17_1).f2))).setCell ⟨gb269, 3, none⟩ (.int .i64 ((rd_T35 l0 x17_1).f3))).setCell ⟨gb269, 4, none⟩ (.int .i64 ((rd_T35 l0 x17_1).f4))).setCell ⟨gb269, 5, none⟩ (.int .i64 ((rd_T35 l0 x17_1).f5))).setCell ⟨gb269, 6, none⟩ (.slice A268_6 ((rd_T35 l0 x17_1).f6).length c268_6))) := ⟨by repeat (first | (with_reducible first | exact HB.out | apply below_alloc | apply pw_below_drewN | apply below_drew1 | refine below_set ?_ GE269.out) | exact HB.out)⟩
         (try clear HO_4)
         (try clear BK269)
         (try clear HB)
         generalize (((((((w47.setCell ⟨gb269, 0, none⟩ (.int .i64 ((rd_T35 l0 x17_1).f0))).setCell ⟨gb269, 1, none⟩ (.int .i64 ((rd_T35 l0 x17_1).f1))).setCell ⟨gb269, 2, none⟩ (.int .i64 ((rd_T35 l0 x17_1).f2))).setCell ⟨gb269, 3, none⟩ (.int .i64 ((rd_T35 l0 x17_1).f3))).setCell ⟨gb269, 4, none⟩ (.int .i64 ((rd_T35 l0 x17_1).f4))).setCell ⟨gb269, 5, none⟩ (.int .i64 ((rd_T35 l0 x17_1).f5))).setCell ⟨gb269, 6, none⟩ (.slice A268_6 ((rd_T35 l0 x17_1).f6).length c268_6)) = w49 at n0_ n1_ n2_ ⊢
         have HO_4 := n0_
         have BK269 := n1_
         have HB := n2_
         clear n0_ n1_ n2_
         (try simp only [World.drewN_drewN]); (try (rw [drewN_self w49]; generalize hq_ : World.drewN w49 _ = w49; have n0_ : Aside0 (Kd.R (Kd.int .i64) 2 w49 w.heap.size (fun _ => True) u4 x4_1) := ⟨by rw [← hq_]; exact b11_2⟩; have n1_ : Aside0 (w49.heap[gb269]? = some (.cells #[.int .i64 ((rd_T35 l0 x17_1).f0), .int .i64 ((rd_T35 l0 x17_1).f1), .int .i64 ((rd_T35 l0 x17_1).f2), .int .i64 ((rd_T35 l0 x17_1).f3), .int .i64 ((rd_T35 l0 x17_1).f4), .int .i64 ((rd_T35 l0 x17_1).f5), .slice A268_6 ((rd_T35 l0 x17_1).f6).length c268_6] 35 (0, 0))) := ⟨by rw [← hq_]; exact b11_4⟩; have n2_ : Aside0 (Below w.heap.size w w49) := ⟨by rw [← hq_]; exact b11_0⟩; clear HO_4 BK269 HB hq_; have HO_4 := n0_; have BK269 := n1_; have HB := n2_; clear n0_ n1_ n2_))
         have n0_ := Aside0.mk (Kd.R_drew HO_4.out)
         have n1_ := Aside0.mk (blk_drew BK269.out)
         have n2_ := Aside0.mk (below_drew1 HB.out)
         clear HO_4
         clear BK269
         clear HB
         have HO_4 := n0_
         have BK269 := n1_
         have HB := n2_
         clear n0_ n1_ n2_
         refine start_ (n := 6) (S := fun w' => w'.cell? ⟨gb269, 0, none⟩ = some (.int .i64 ((rd_T35 l0 x17_1).f0)) ∧ w'.cell? ⟨gb269, 1, none⟩ = some (.int .i64 ((rd_T35 l0 x17_1).f1)) ∧ w'.cell? ⟨gb269, 2, none⟩ = some (.int .i64 ((rd_T35 l0 x17_1).f2)) ∧ w'.cell? ⟨gb269, 3, none⟩ = some (.int .i64 ((rd_T35 l0 x17_1).f3)) ∧ w'.cell? ⟨gb269, 4, none⟩ = some (.int .i64 ((rd_T35 l0 x17_1).f4)) ∧ w'.cell? ⟨gb269, 5, none⟩ = some (.int .i64 ((rd_T35 l0 x17_1).f5)) ∧ w'.cell? ⟨gb269, 6, none⟩ = some (.slice A268_6 ((rd_T35 l0 x17_1).f6).length c268_6)) (ds := []) (bl 6 0) (by kernel_rfl) rfl rfl ⟨(blk_cell BK269.out 0).trans rfl, (blk_cell BK269.out 1).trans rfl, (blk_cell BK269.out 2).trans rfl, (blk_cell BK269.out 3).trans rfl, (blk_cell BK269.out 4).trans rfl, (blk_cell BK269.out 5).trans rfl, (blk_cell BK269.out 6).trans rfl⟩ (fun hHeld => ?_)
         generalize w49.drew = w50 at HO_4 BK269 HB hHeld ⊢
         refine tk_ 0 (some 28) (bl 6 1) rfl hHeld (fun w' s_ => by obtain ⟨s0, s1, s2, s3, s4, s5, s6⟩ := s_; go_simp; with_reducible rfl) ?_
         refine tk_ 1 (some 29) (bl 6 3) rfl hHeld (fun w' s_ => by obtain ⟨s0, s1, s2, s3, s4, s5, s6⟩ := s_; go_simp; with_reducible rfl) ?_
         refine ok_ 2 (some 30) (bl 6 7) rfl (fun K hK => ?_)
         refine goes_ Tryd.func34 (by kernel_rfl) rfl #[.agg #[.int .i64 ((rd_T35 l0 x17_1).f0), .int .i64 ((rd_T35 l0 x17_1).f1), .int .i64 ((rd_T35 l0 x17_1).f2), .int .i64 ((rd_T35 l0 x17_1).f3), .int .i64 ((rd_T35 l0 x17_1).f4), .int .i64 ((rd_T35 l0 x17_1).f5), .slice A268_6 ((rd_T35 l0 x17_1).f6).length c268_6]] (by rfl) rfl rfl b11_1 ?_
         with_reducible refine (impl_Node_plain.calls k1 ((rd_T35 l0 x17_1).f0) ((rd_T35 l0 x17_1).f1) ((rd_T35 l0 x17_1).f2) ((rd_T35 l0 x17_1).f3) ((rd_T35 l0 x17_1).f4) ((rd_T35 l0 x17_1).f5) (fun k_ => k_ < w.heap.size) _ _ ((rd_T35 l0 x17_1).f6) t271 t272 t273 t274 t275 t276 t277 _ ?side1 A12.out).mono ?_
         (case side1 => exact (by exact Kd.V_mk HC268_6.out (Kd.F_below (Kd.C_F (Kd.heap_int .i64) HR268_6.out) b11_0)))
         rintro e w51 ⟨v278, rfl, ho0, hb⟩
         refine ⟨_, rfl, ?_⟩
         have n0_ := Aside0.mk (Kd.R_below b11_2 hb)
         have n1_ := Aside0.mk (Kd.V_lower (Kd.V_mono (ok' := fun k_ => some k_ ≠ (u4 : Value).ownBlock ∧ k_ ≠ gb269) ho0 (fun k_ hk_ => ⟨Or.elim hk_ (fun hs_ => fun e_ => Nat.not_le.2 hs_ (Kd.R_base HO_4.out k_ e_.symm)) (fun hn_ => (Kd.fresh' (Kd.R_lt b11_2) k_ hn_)), Or.elim hk_ (fun hs_ => fun e_ => Nat.not_le.2 hs_ (by rw [e_]; exact GW269.out)) (fun hn_ => (Kd.freshB (g := gb269) (o := .cells #[.int .i64 ((rd_T35 l0 x17_1).f0), .int .i64 ((rd_T35 l0 x17_1).f1), .int .i64 ((rd_T35 l0 x17_1).f2), .int .i64 ((rd_T35 l0 x17_1).f3), .int .i64 ((rd_T35 l0 x17_1).f4), .int .i64 ((rd_T35 l0 x17_1).f5), .slice A268_6 ((rd_T35 l0 x17_1).f6).length c268_6] 35 (0, 0)) b11_4 k_ hn_))⟩)) (below_size b11_0))
         have n2_ := Aside0.mk (blk_below (g := gb269) (o := .cells #[.int .i64 ((rd_T35 l0 x17_1).f0), .int .i64 ((rd_T35 l0 x17_1).f1), .int .i64 ((rd_T35 l0 x17_1).f2), .int .i64 ((rd_T35 l0 x17_1).f3), .int .i64 ((rd_T35 l0 x17_1).f4), .int .i64 ((rd_T35 l0 x17_1).f5), .slice A268_6 ((rd_T35 l0 x17_1).f6).length c268_6] 35 (0, 0)) b11_4 hb)
         have n3_ := Aside0.mk (below_step b11_0 hb)
         clear HO_4
         clear BK269
         clear HB
         have HO_4 := n0_
         have HO279 := n1_
         have BK269 := n2_
         have HB := n3_
         clear n0_ n1_ n2_ n3_
         (try clear hb)
         (try clear hb2)
         (try clear hk)
         (try clear hi)
         (try clear ho0)
         obtain ⟨Ao52, co52, eo52⟩ := Kd.V_slice HO279.out
         (first | subst eo52 | (injection eo52 with f1_ f2_ f3_; have f4_ := f1_.symm; have f5_ := f3_.symm; clear f1_ f2_ f3_; subst f4_; subst f5_))
         refine hK.out _ _ ⟨(blk_cell BK269.out 0).trans rfl, (blk_cell BK269.out 1).trans rfl, (blk_cell BK269.out 2).trans rfl, (blk_cell BK269.out 3).trans rfl, (blk_cell BK269.out 4).trans rfl, (blk_cell BK269.out 5).trans rfl, (blk_cell BK269.out 6).trans rfl⟩ (fun hHeld => ?_)
         clear hK K
         refine norm_ (a' := ?_) ?_ ?_
         rotate_left
         ·show Act.put _ (some 30) _ = _
          simp only [Act.put, List.setIfInBounds_toArray, List.set_cons_zero, List.set_cons_succ, i64_w, i32_w]
          rfl
         refine ok_ 3 (some 31) (bl 6 15) rfl (fun K hK => ?_)
         refine goes_ Tryd.func33 (by kernel_rfl) rfl #[.agg #[.int .i64 ((rd_T35 l0 x17_1).f0), .int .i64 ((rd_T35 l0 x17_1).f1), .int .i64 ((rd_T35 l0 x17_1).f2), .int .i64 ((rd_T35 l0 x17_1).f3), .int .i64 ((rd_T35 l0 x17_1).f4), .int .i64 ((rd_T35 l0 x17_1).f5), .slice A268_6 ((rd_T35 l0 x17_1).f6).length c268_6], .agg #[.int .i64 t271, .int .i64 t272, .int .i64 t273, .int .i64 t274, .int .i64 t275, .int .i64 t276, .slice Ao52 t277.length co52]] (by rfl) rfl rfl b11_1 ?_
         with_reducible refine (impl_sameNode.calls k1 ((rd_T35 l0 x17_1).f0) ((rd_T35 l0 x17_1).f1) ((rd_T35 l0 x17_1).f2) ((rd_T35 l0 x17_1).f3) ((rd_T35 l0 x17_1).f4) ((rd_T35 l0 x17_1).f5) _ _ ((rd_T35 l0 x17_1).f6) t271 t272 t273 t274 t275 t276 _ _ t277 false _ ?side1 ?side2 ?side3 ?side4 A13.out).mono ?_
         (case side1 => exact b11_5)
         (case side2 => exact HC268_6.out)
         (case side3 => exact (by repeat (first | exact (Kd.V_reads' HO279.out).2.2 | (with_reducible refine Kd.C_alloc ?_ _) | (with_reducible refine Kd.C_drewN ?_ _) | (with_reducible refine Kd.C_drew ?_))))
         (case side4 => exact (Kd.V_reads' HO279.out).2.1)
         rintro e w53 ⟨rfl, hb⟩
         refine ⟨_, rfl, ?_⟩
         have n0_ := Aside0.mk (Kd.R_below b11_2 hb)
         have n1_ := Aside0.mk (Kd.V_below (by (with_reducible repeat (first | apply Kd.V_alloc | apply Kd.V_drewN | apply Kd.V_drew)); exact HO279.out) hb)
         have n2_ := Aside0.mk (blk_below (g := gb269) (o := .cells #[.int .i64 ((rd_T35 l0 x17_1).f0), .int .i64 ((rd_T35 l0 x17_1).f1), .int .i64 ((rd_T35 l0 x17_1).f2), .int .i64 ((rd_T35 l0 x17_1).f3), .int .i64 ((rd_T35 l0 x17_1).f4), .int .i64 ((rd_T35 l0 x17_1).f5), .slice A268_6 ((rd_T35 l0 x17_1).f6).length c268_6] 35 (0, 0)) b11_4 hb)
         have n3_ := Aside0.mk (below_step b11_0 hb)
         clear HO_4
         clear HO279
         clear BK269
         clear HB
         have HO_4 := n0_
         have HO279 := n1_
         have BK269 := n2_
         have HB := n3_
         clear n0_ n1_ n2_ n3_
         (try clear hb)
         (try clear hb2)
         (try clear hk)
         (try clear hi)
         refine hK.out _ _ ⟨(blk_cell BK269.out 0).trans rfl, (blk_cell BK269.out 1).trans rfl, (blk_cell BK269.out 2).trans rfl, (blk_cell BK269.out 3).trans rfl, (blk_cell BK269.out 4).trans rfl, (blk_cell BK269.out 5).trans rfl, (blk_cell BK269.out 6).trans rfl⟩ (fun hHeld => ?_)
         clear hK K
         refine norm_ (a' := ?_) ?_ ?_
         rotate_left
         ·show Act.put _ (some 31) _ = _
          simp only [Act.put, List.setIfInBounds_toArray, List.set_cons_zero, List.set_cons_succ, i64_w, i32_w]
          rfl
         refine pk_ 4 (some 32) (bl 6 31) rfl ?_
         refine pk_ 5 (some 27) (bl 6 63) rfl ?_
         refine done_ (by kernel_rfl) ?_
         try go_wp2
         go_ret2
         exact ⟨_, by first | rfl | (simp [errW_none, errW_some] <;> rfl) | (simp [*, errW_none, errW_some] <;> rfl), by first | exact Kd.R_nil _ _ _ _ _ | exact Kd.N_nil _ _ _ _ _ | exact Kd.V_nil _ _ _ _ _ | exact Kd.Q_nil _ _ _ _ _ | exact Kd.S_nil _ _ _ _ _, by repeat (first | (with_reducible first | exact HB.out | apply below_alloc | apply pw_below_drewN | apply below_drew1 | refine below_set ?_ GE269.out) | exact HB.out)⟩
       ·replace c11 := Bool.eq_false_iff.mpr c11
        subst c11
        have H1 : (some (([] : List Int), 5)) = some (r1, r2) := by rw [if_neg (show ¬ (false = true) by decide)] at H; exact H
        clear H
        have H := H1
        clear H1
        simp only [Option.some.injEq, Prod.mk.injEq] at H
        obtain ⟨rfl, rfl⟩ := H
        have p268 : 0 ≤ (x17_1 : Int) := of_decide_eq_true b11_6
        have q268 : x17_1 < (l0.length : Int) := of_decide_eq_true b11_6
        obtain ⟨ad268, A268_6, c268_6, e268, hx268_0, hx268_1, hx268_2, hx268_3, hx268_4, hx268_5, hx268_6, hl268_6, hi268_6⟩ := at_T35 HR0.out x17_1 p268 q268
        cases e268
        replace hx268_0 := (HB.out.cell (World.block_lt_of_cell? w _ hx268_0)).trans hx268_0
        replace hx268_1 := (HB.out.cell (World.block_lt_of_cell? w _ hx268_1)).trans hx268_1
        replace hx268_2 := (HB.out.cell (World.block_lt_of_cell? w _ hx268_2)).trans hx268_2
        replace hx268_3 := (HB.out.cell (World.block_lt_of_cell? w _ hx268_3)).trans hx268_3
        replace hx268_4 := (HB.out.cell (World.block_lt_of_cell? w _ hx268_4)).trans hx268_4
        replace hx268_5 := (HB.out.cell (World.block_lt_of_cell? w _ hx268_5)).trans hx268_5
        replace hx268_6 := (HB.out.cell (World.block_lt_of_cell? w _ hx268_6)).trans hx268_6
        have HR268_6 := Aside0.mk hi268_6
        have HC268_6 := Aside0.mk hl268_6
        clear hi268_6 hl268_6
        replace p268 := eq_true p268
        replace q268 := eq_true q268
        go_wp2_with (first | ((with_reducible refine gate_dst (N := 6) rfl ?_); refine box_event ?hg (N := 6) ?hd (cs := #[.int .i64 0, .int .i64 0, .int .i64 0, .int .i64 0, .int .i64 0, .int .i64 0, .slice none 0 0]) (t := 35) ?hr ?_; (case hd => rfl); (case hg => rfl); (case hr => first | (go_simp; done) | (go_simp; rfl)); intro gb269 hg w54 hbox hb; have n0_ := Aside0.mk (Kd.R_below b11_2 hb); have n1_ := Aside0.mk (below_step b11_3 hb); have n2_ := Aside0.mk (hbox); have n3_ := Aside0.mk ((by rw [hg]; exact (below_size b11_3) : w.heap.size ≤ gb269)); have n4_ := Aside0.mk ((by rw [hg]; exact (below_size b11_3) : w.heap.size ≤ gb269)); clear HO_4; clear HB; have HO_4 := n0_; have HB := n1_; have BK269 := n2_; have GW269 := n3_; have GE269 := n4_; clear n0_ n1_ n2_ n3_ n4_; clear hb hbox hg; obtain ⟨hcz55_0, hcz55_1, hcz55_2, hcz55_3, hcz55_4, hcz55_5, hcz55_6, hfz55_0, hfz55_1, hfz55_2, hfz55_3, hfz55_4, hfz55_5, hfz55_6⟩ := cells7 BK269.out) | ((with_reducible refine gate_callee (f := 31) rfl ?_); refine goesL_ (some 25) rfl rfl Tryd.func31 (by kernel_rfl) rfl #[.int .i64 ((rd_T35 l0 x17_1).f0), .int .i64 1, .int .i64 12] rfl b11_1 ?_; (with_reducible refine (impl_in.calls ((rd_T35 l0 x17_1).f0) 1 12 false _ A10.out).mono ?_); rintro e w' ⟨rfl, ⟨nd, rfl⟩⟩; refine ⟨_, rfl, ?_⟩))
        go_ret2
        exact ⟨_, by first | rfl | (simp [errW_none, errW_some] <;> rfl) | (simp [*, errW_none, errW_some] <;> rfl), by first | exact Kd.R_nil _ _ _ _ _ | exact Kd.N_nil _ _ _ _ _ | exact Kd.V_nil _ _ _ _ _ | exact Kd.Q_nil _ _ _ _ _ | exact Kd.S_nil _ _ _ _ _, by repeat (first | (with_reducible first | exact HB.out | apply below_alloc | apply pw_below_drewN | apply below_drew1 | refine below_set ?_ GE269.out) | exact HB.out)⟩
      ·rw [if_neg c9] at H
       exact absurd H (by simp)
     ·rw [if_neg c8] at H
      exact absurd H (by simp)
    ·rw [if_neg c7] at H
     have c7b0 : decide (x17_1 < (l0.length : Int)) = false := decide_eq_false c7
     clear c7
     simp only [Option.some.injEq, Prod.mk.injEq] at H
     obtain ⟨rfl, rfl⟩ := H
     go_wp2
     go_ret2
     exact ⟨_, by first | rfl | (simp [errW_none, errW_some] <;> rfl) | (simp [*, errW_none, errW_some] <;> rfl), by (with_reducible repeat (first | apply Kd.R_alloc | apply Kd.R_drewN | apply Kd.R_drew)); exact HO_4.out, by repeat (first | (with_reducible first | exact HB.out | apply below_alloc | apply pw_below_drewN | apply below_drew1) | exact HB.out)⟩
 ·replace c4 := Bool.eq_false_iff.mpr c4
  subst c4
  have H1 : (some (([] : List Int), 2)) = some (r1, r2) := by rw [if_neg (show ¬ (false = true) by decide)] at H; exact H
  clear H
  have H := H1
  clear H1
  simp only [Option.some.injEq, Prod.mk.injEq] at H
  obtain ⟨rfl, rfl⟩ := H
  go_enter Tryd.func21, Tryd.ntmps21
  go_wp2_with (first | ((with_reducible refine gate_callee (f := 32) rfl ?_); refine goesL_ (some 11) rfl rfl Tryd.func32 (by kernel_rfl) rfl #[.slice A0 l0.length c0] rfl b11_1 ?_; (with_reducible refine (impl_Node.calls _ _ l0 t263 _ ?side1 ?side2 A2.out).mono ?_); (case side1 => exact (by repeat (first | exact HR0.out | (with_reducible refine Kd.C_alloc ?_ _) | (with_reducible refine Kd.C_drewN ?_ _) | (with_reducible refine Kd.C_drew ?_)))); (case side2 => exact HC0.out); rintro e w' ⟨rfl, ⟨nd, rfl⟩⟩; refine ⟨_, rfl, ?_⟩) | ((with_reducible refine gate_callee (f := 31) rfl ?_); refine goesL_ (some 12) rfl rfl Tryd.func31 (by kernel_rfl) rfl #[.int .i64 t263, .int .i64 1, .int .i64 8] rfl b11_1 ?_; (with_reducible refine (impl_in.calls t263 1 8 false _ A3.out).mono ?_); rintro e w' ⟨rfl, ⟨nd, rfl⟩⟩; refine ⟨_, rfl, ?_⟩))
  go_ret2
  exact ⟨_, by first | rfl | (simp [errW_none, errW_some] <;> rfl) | (simp [*, errW_none, errW_some] <;> rfl), by first | exact Kd.R_nil _ _ _ _ _ | exact Kd.N_nil _ _ _ _ _ | exact Kd.V_nil _ _ _ _ _ | exact Kd.Q_nil _ _ _ _ _ | exact Kd.S_nil _ _ _ _ _, by repeat (first | (with_reducible first | exact HB.out | apply below_alloc | apply pw_below_drewN | apply below_drew1) | exact HB.out)⟩

/-! ### impl_PlanFault: function 13 -/
def impl_PlanFault.f (k : Nat) (l0 : List (S35)) : Option (Int) := (impl_looked.f k l0).bind fun bt292 => (some bt292.2)
theorem impl_PlanFault.mono : ∀ a0 k, LeO (impl_PlanFault.f k a0) (impl_PlanFault.f (k + 1) a0) := by
 intro a0 k
 unfold impl_PlanFault.f
 repeat' first
   | (with_reducible exact impl_looked.mono _ _)
   | (with_reducible exact LeO.refl _)
   | (with_reducible exact LeO.none _)
   | (with_reducible refine LeO.ite ?_ ?_)
   | (with_reducible refine LeO.bind ?_ (fun _ => ?_))
   | exact impl_looked.mono _ _
   | exact LeO.none _
   | refine LeO.ite ?_ ?_
   | refine LeO.bind ?_ (fun _ => ?_)
set_option maxHeartbeats 8000000 in
set_option maxRecDepth 100000 in
theorem impl_PlanFault.calls (k : Nat) (A0 : Option Addr) (c0 : Nat) (l0 : List (S35)) (r : Int) (w : World) (hr0 : Kd.C k35 w A0 l0.length l0) (hc0 : l0.length ≤ c0) (h : impl_PlanFault.f k l0 = some r) :
  Calls Tryd.prog 13 #[.slice A0 l0.length c0] w fun e w' => e = .returned (.int .i64 r) ∧ Below w.heap.size w w' := by
 have HR0 := Aside0.mk hr0
 have HC0 := Aside0.mk hc0
 clear hr0 hc0
 have HB := Aside0.mk (Below.refl w.heap.size w)
 have H : ((impl_looked.f k l0).bind fun bt292 => (some bt292.2)) = some r := h
 clear h
 replace H := Option.bind_eq_some_iff.mp H
 obtain ⟨⟨t292, t293⟩, A20, H⟩ := H
 replace H : (some t293) = some r := H
 have A2 := Aside0.mk A20
 clear A20
 obtain rfl := Option.some.inj H
 go_enter Tryd.func13, Tryd.ntmps13
 go_wp2_with (first | ((with_reducible refine gate_callee (f := 21) rfl ?_); refine goesL_ (some 7) rfl rfl Tryd.func21 (by kernel_rfl) rfl #[.slice A0 l0.length c0] rfl b11_1 ?_; (with_reducible refine (impl_looked.calls k _ _ l0 t292 t293 _ ?side1 ?side2 A2.out).mono ?_); (case side1 => exact (by repeat (first | exact HR0.out | (with_reducible refine Kd.C_alloc ?_ _) | (with_reducible refine Kd.C_drewN ?_ _) | (with_reducible refine Kd.C_drew ?_)))); (case side2 => exact HC0.out); rintro e w3 ⟨v294, rfl, ho0, hb⟩; refine ⟨_, rfl, ?_⟩; have n0_ := Aside0.mk (Kd.R_lower ho0 (below_size b11_3)); have n1_ := Aside0.mk (below_step b11_3 hb); clear HB; have HO295 := n0_; have HB := n1_; clear n0_ n1_; (try clear hb); (try clear hb2); (try clear hk); (try clear hi); (try clear ho0)))
 go_ret
 exact ⟨by first | rfl | (simp [errW_none, errW_some] <;> rfl) | (simp [*, errW_none, errW_some] <;> rfl), by repeat (first | (with_reducible first | exact HB.out | apply below_alloc | apply pw_below_drewN | apply below_drew1) | exact HB.out)⟩

/-! ### strings_Join: function 22 -/
def strings_Join.f (l0 : List ByteArray) (a1 : ByteArray) : Option ByteArray := if l0.length ≤ 140737488355328 ∧ (Lib.join (l0.map (·.data.toList)) a1.data.toList).length ≤ 140737488355328 then some ⟨(Lib.join (l0.map (·.data.toList)) a1.data.toList).toArray⟩ else none
theorem strings_Join.calls (A0 : Option Addr) (c0 : Nat) (l0 : List ByteArray) (a1 : ByteArray) (r : ByteArray) (w : World) (hA0 : ∀ ad, A0 = some ad → ∃ g, ad = ⟨g, 0, none⟩) (hr0 : Kd.C Kd.string w A0 l0.length l0) (hc0 : l0.length ≤ c0) (h : strings_Join.f l0 a1 = some r) :
  Calls Tryd.prog 22 #[.slice A0 l0.length c0, .string a1] w fun e w' => e = .returned (.string r) ∧ Below w.heap.size w w' := by
 unfold strings_Join.f at h
 by_cases c : l0.length ≤ 140737488355328 ∧ (Lib.join (l0.map (·.data.toList)) a1.data.toList).length ≤ 140737488355328
 ·rw [if_pos c] at h
  obtain rfl := Option.some.inj h
  exact Tab.join_rows hA0 hr0 hc0 c.1 c.2
 ·rw [if_neg c] at h
  exact absurd h (by simp)

/-! ### strings_Split: function 41 -/
def strings_Split.f (a0 : ByteArray) (a1 : ByteArray) : Option (List ByteArray) := if a0.size < 4294967281 ∧ 1 ≤ a1.size then some (Lib.splitB a1 0 (Lib.countB a0 a1) a0) else none
theorem strings_Split.calls (a0 : ByteArray) (a1 : ByteArray) (r : List ByteArray) (w : World) (htab : Tab.Tab w) (h : strings_Split.f a0 a1 = some r) :
  Calls Tryd.prog 41 #[.string a0, .string a1] w fun e w' => ∃ v0_ : Value, e = .returned (v0_) ∧ Kd.R Kd.string 9 w' w.heap.size (fun _ => True) v0_ r ∧ Below w.heap.size w w' := by
 unfold strings_Split.f at h
 by_cases c : a0.size < 4294967281 ∧ 1 ≤ a1.size
 ·rw [if_pos c] at h
  obtain rfl := Option.some.inj h
  exact Tab.split_rows htab c.1 c.2
 ·rw [if_neg c] at h
  exact absurd h (by simp)

/-! ### impl_decimal: function 42 -/
def impl_decimal.f (a0 : Int) : Option ByteArray := if -9223372036854775808 ≤ a0 ∧ a0 ≤ 9223372036854775807 then some ⟨(Lib.itoa a0).toArray⟩ else none
/-- A number in decimal, where the table of the powers of ten reads as the text lays it. -/
theorem impl_decimal.calls (a0 : Int) (r : ByteArray) (w : World) (htab : Tab.Tab w) (h : impl_decimal.f a0 = some r) :
  Calls Tryd.prog 42 #[.int .i64 a0] w fun e w' => e = .returned (.string r) ∧ Below w.heap.size w w' := by
 have hb_ : (-9223372036854775808 ≤ a0 ∧ a0 ≤ 9223372036854775807) ∧ (⟨(Lib.itoa a0).toArray⟩ : ByteArray) = r := by
  unfold impl_decimal.f at h
  by_cases c : -9223372036854775808 ≤ a0 ∧ a0 ≤ 9223372036854775807
  ·rw [if_pos c] at h; exact ⟨c, Option.some.inj h⟩
  ·rw [if_neg c] at h; exact absurd h (by simp)
 obtain ⟨⟨h0, h1⟩, rfl⟩ := hb_
 clear h
 obtain ⟨s, hs⟩ : ∃ s, s = (Lib.itoa a0).toArray := ⟨_, rfl⟩
 have HS := Aside0.mk hs
 have hc := Tryd.strconv_FormatInt_10 a0 h0 h1 w (Tab.tabIs htab)
 rw [← hs] at hc ⊢
 clear hs h0 h1 htab
 go_enter Tryd.func42, Tryd.ntmps42
 go_wp2_with (first | (go_at_call 51; refine hc.mono ?_; rintro e w' ⟨rfl, k, os, rfl⟩))
 go_ret
 exact ⟨rfl, Tab.below_grow _ _ _⟩

end Go.Proofs.YteibdjkfkcckkaaDoor.PFnExactFormatPlan
