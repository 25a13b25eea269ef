-- Written by fprint, a program of this session, out of Lean's own print of the translation. Lean checks it.
import Derived.Test.YteibdjkfkcckkaaPFnExactInputsFaultx0
import Derived.Test.YteibdjkfkcckkaaPFnExactInputsFaultx8
import Derived.Test.YteibdjkfkcckkaaPFnExactInputsFaultx9
import Derived.Test.YteibdjkfkcckkaaPFnExactInputsFaultx10
import Derived.Test.YteibdjkfkcckkaaPFnExactInputsFaultx11
namespace Go.Proofs.Yteibdjkfkcckkaa.PFnExactInputsFault
open Go.RowKit Go.Proofs.YteibdjkfkcckkaaW.PrintWords Go.Proofs.YteibdjkfkcckkaaW.PrintLast Go.Proofs.YteibdjkfkcckkaaW.PrintMore
attribute [local go_sem] max2_int min2_int max_two min_two max_three min_three max_four min_four   -- for this text's walks alone
set_option linter.unusedVariables false
set_option linter.unusedSimpArgs false

theorem b12_0 {p : Prop} (h : p := by repeat (first | (with_reducible first | exact HB.out | apply below_alloc | apply pw_below_drewN | apply below_drew1 | refine below_set ?_ GE283.out) | exact HB.out)) : p := h
theorem b12_1 {p : Prop} (h : p := by (try simp only [List.map_toArray, List.map_cons, List.map_nil]); first | done | rfl | (simp only [List.length_drop, List.length_take]; rfl)) : p := h
theorem b12_2 {p : Prop} (h : p := by (with_reducible repeat (first | apply Kd.R_alloc | apply Kd.R_drewN | apply Kd.R_drew)); exact HO_4.out) : p := h
theorem b12_3 {p : Prop} (h : p := by (with_reducible repeat (first | refine blk_drewN ?_ _ | refine blk_drew ?_ | refine blk_alloc ?_ _)); exact BK283.out) : p := h
theorem b12_4 {p : Prop} (h : p := by repeat (first | (with_reducible first | exact HB.out | apply below_alloc | apply pw_below_drewN | apply below_drew1) | exact HB.out)) : p := h
theorem b12_5 {p : Prop} (h : p := by repeat (first | exact (Kd.C_below HR282_6.out HB.out) | (with_reducible refine Kd.C_alloc ?_ _) | (with_reducible refine Kd.C_drewN ?_ _) | (with_reducible refine Kd.C_drew ?_))) : p := h
theorem b12_6 {p : Prop} (h : p := by first | (with_reducible assumption) | assumption) : p := h
/-! ### impl_looked: function 41 -/
mutual
def impl_looked.l0 : Nat → List (S58) → List Int → List (S58) → Int → Int → Option (List Int × Int)
 | 0, _, _, _, _, _ => none
 | k + 1, x0, x4, x15, x16, x17 => if x17 < x16 then (if 0 ≤ x17 then (if x17 < (x15.length : Int) then ((impl_in.f ((rd_T58 x15 x17).f0) 1 12).bind fun t284 => (if t284 = true then ((impl_Node_plain.f k ((rd_T58 x15 x17).f0) ((rd_T58 x15 x17).f1) ((rd_T58 x15 x17).f2) ((rd_T58 x15 x17).f3) ((rd_T58 x15 x17).f4) ((rd_T58 x15 x17).f5) ((rd_T58 x15 x17).f6)).bind fun bt285 => ((impl_sameNode.f k ((rd_T58 x15 x17).f0) ((rd_T58 x15 x17).f1) ((rd_T58 x15 x17).f2) ((rd_T58 x15 x17).f3) ((rd_T58 x15 x17).f4) ((rd_T58 x15 x17).f5) ((rd_T58 x15 x17).f6) bt285.1 bt285.2.1 bt285.2.2.1 bt285.2.2.2.1 bt285.2.2.2.2.1 bt285.2.2.2.2.2.1 bt285.2.2.2.2.2.2).bind fun t294 => (if t294 = true then ((impl_Node_reads.f ((rd_T58 x15 x17).f0) ((rd_T58 x15 x17).f1) ((rd_T58 x15 x17).f2) ((rd_T58 x15 x17).f3) ((rd_T58 x15 x17).f4) ((rd_T58 x15 x17).f5) ((rd_T58 x15 x17).f6)).bind fun t295 => (impl_looked.l1 k x0 x4 x17 x15 x16 x17 t295 (t295.length : Int) 0 ((rd_T58 x15 x17).f0) ((rd_T58 x15 x17).f1) ((rd_T58 x15 x17).f2) ((rd_T58 x15 x17).f3) ((rd_T58 x15 x17).f4) ((rd_T58 x15 x17).f5) ((rd_T58 x15 x17).f6))) else (some (([] : List Int), 1))))) else (some (([] : List Int), 5)))) else (none)) else (none)) else (some (x4, 0))
def impl_looked.l1 : Nat → List (S58) → List Int → Int → List (S58) → Int → Int → List Int → Int → Int → Int → Int → Int → Int → Int → Int → List Int → Option (List Int × Int)
 | 0, _, _, _, _, _, _, _, _, _, _, _, _, _, _, _, _ => none
 | k + 1, x0, x4, x5, x15, x16, x17, x34, x35, x36, x284000, x284001, x284002, x284003, x284004, x284005, x284006 => if x36 < x35 then (if 0 ≤ x36 then (if x36 < (x34.length : Int) then ((impl_in.f (rd x34 x36) 0 (wrap64 (x5 - 1))).bind fun t299 => (if t299 = true then (if 0 ≤ (rd x34 x36) then (if (rd x34 x36) < (x0.length : Int) then (if ((rd_T58 x0 (rd x34 x36)).f0) = 12 then (some (([] : List Int), 3)) else (impl_looked.l1 k x0 x4 x5 x15 x16 x17 x34 x35 (wrap64 (x36 + 1)) x284000 x284001 x284002 x284003 x284004 x284005 x284006)) else (none)) else (none)) else (some (([] : List Int), 3)))) else (none)) else (none)) else ((impl_Node_fault.f k x284000 x284001 x284002 x284003 x284004 x284005 x284006 x4).bind fun t301 => (if t301 = 0 then ((impl_Node_width.f x284000 x284001 x284002 x284003 x284004 x284005 x284006 x4).bind fun t302 => (if x4.length < 17592186044416 then (impl_looked.l0 k x0 (x4 ++ [t302]) x15 x16 (wrap64 (x17 + 1))) else (none))) else (some (([] : List Int), t301))))
end
def impl_looked.f (k : Nat) (l0 : List (S58)) : Option (List Int × Int) := (impl_Node.f l0).bind fun t277 => ((impl_in.f t277 1 8).bind fun t278 => (if t278 = true then (impl_looked.l0 k l0 (([] : List Int)) l0 (l0.length : Int) 0) else (some (([] : List Int), 2))))
theorem impl_looked.mono_l : ∀ k, (∀ y0 y1 y2 y3 y4, LeO (impl_looked.l0 k y0 y1 y2 y3 y4) (impl_looked.l0 (k + 1) y0 y1 y2 y3 y4)) ∧ (∀ y0 y1 y2 y3 y4 y5 y6 y7 y8 y9 y10 y11 y12 y13 y14 y15, LeO (impl_looked.l1 k y0 y1 y2 y3 y4 y5 y6 y7 y8 y9 y10 y11 y12 y13 y14 y15) (impl_looked.l1 (k + 1) y0 y1 y2 y3 y4 y5 y6 y7 y8 y9 y10 y11 y12 y13 y14 y15))
 | 0 => ⟨fun _ _ _ _ _ r h => by simp [impl_looked.l0] at h, fun _ _ _ _ _ _ _ _ _ _ _ _ _ _ _ _ r h => by simp [impl_looked.l1] at h⟩
 | k + 1 => by
  obtain ⟨ih0, ih1⟩ := impl_looked.mono_l k
  refine ⟨?_, ?_⟩
  ·intro y0 y1 y2 y3 y4
   unfold impl_looked.l0
   repeat' first
   | (with_reducible exact ih0 _ _ _ _ _)
   | (with_reducible exact ih1 _ _ _ _ _ _ _ _ _ _ _ _ _ _ _ _)
   | (with_reducible exact impl_Node_fault.mono _ _ _ _ _ _ _ _ _)
   | (with_reducible exact impl_Node_plain.mono _ _ _ _ _ _ _ _)
   | (with_reducible exact impl_sameNode.mono _ _ _ _ _ _ _ _ _ _ _ _ _ _ _)
   | (with_reducible exact LeO.refl _)
   | (with_reducible exact LeO.none _)
   | (with_reducible refine LeO.ite ?_ ?_)
   | (with_reducible refine LeO.bind ?_ (fun _ => ?_))
   | exact ih0 _ _ _ _ _
   | exact ih1 _ _ _ _ _ _ _ _ _ _ _ _ _ _ _ _
   | exact impl_Node_fault.mono _ _ _ _ _ _ _ _ _
   | exact impl_Node_plain.mono _ _ _ _ _ _ _ _
   | exact impl_sameNode.mono _ _ _ _ _ _ _ _ _ _ _ _ _ _ _
   | exact LeO.none _
   | refine LeO.ite ?_ ?_
   | refine LeO.bind ?_ (fun _ => ?_)
  ·intro y0 y1 y2 y3 y4 y5 y6 y7 y8 y9 y10 y11 y12 y13 y14 y15
   unfold impl_looked.l1
   repeat' first
   | (with_reducible exact ih0 _ _ _ _ _)
   | (with_reducible exact ih1 _ _ _ _ _ _ _ _ _ _ _ _ _ _ _ _)
   | (with_reducible exact impl_Node_fault.mono _ _ _ _ _ _ _ _ _)
   | (with_reducible exact impl_Node_plain.mono _ _ _ _ _ _ _ _)
   | (with_reducible exact impl_sameNode.mono _ _ _ _ _ _ _ _ _ _ _ _ _ _ _)
   | (with_reducible exact LeO.refl _)
   | (with_reducible exact LeO.none _)
   | (with_reducible refine LeO.ite ?_ ?_)
   | (with_reducible refine LeO.bind ?_ (fun _ => ?_))
   | exact ih0 _ _ _ _ _
   | exact ih1 _ _ _ _ _ _ _ _ _ _ _ _ _ _ _ _
   | exact impl_Node_fault.mono _ _ _ _ _ _ _ _ _
   | exact impl_Node_plain.mono _ _ _ _ _ _ _ _
   | exact impl_sameNode.mono _ _ _ _ _ _ _ _ _ _ _ _ _ _ _
   | exact LeO.none _
   | refine LeO.ite ?_ ?_
   | refine LeO.bind ?_ (fun _ => ?_)
theorem impl_looked.mono : ∀ a0 k, LeO (impl_looked.f k a0) (impl_looked.f (k + 1) a0) := by
 intro a0 k
 obtain ⟨ih0, ih1⟩ := impl_looked.mono_l k
 unfold impl_looked.f
 repeat' first
   | (with_reducible exact ih0 _ _ _ _ _)
   | (with_reducible exact ih1 _ _ _ _ _ _ _ _ _ _ _ _ _ _ _ _)
   | (with_reducible exact impl_Node_fault.mono _ _ _ _ _ _ _ _ _)
   | (with_reducible exact impl_Node_plain.mono _ _ _ _ _ _ _ _)
   | (with_reducible exact impl_sameNode.mono _ _ _ _ _ _ _ _ _ _ _ _ _ _ _)
   | (with_reducible exact LeO.refl _)
   | (with_reducible exact LeO.none _)
   | (with_reducible refine LeO.ite ?_ ?_)
   | (with_reducible refine LeO.bind ?_ (fun _ => ?_))
   | exact ih0 _ _ _ _ _
   | exact ih1 _ _ _ _ _ _ _ _ _ _ _ _ _ _ _ _
   | exact impl_Node_fault.mono _ _ _ _ _ _ _ _ _
   | exact impl_Node_plain.mono _ _ _ _ _ _ _ _
   | exact impl_sameNode.mono _ _ _ _ _ _ _ _ _ _ _ _ _ _ _
   | exact LeO.none _
   | refine LeO.ite ?_ ?_
   | refine LeO.bind ?_ (fun _ => ?_)
set_option maxHeartbeats 8000000 in
set_option maxRecDepth 100000 in
theorem impl_looked.calls (k : Nat) (A0 : Option Addr) (c0 : Nat) (l0 : List (S58)) (r1 : List Int) (r2 : Int) (w : World) (hr0 : Kd.C k58 w A0 l0.length l0) (hc0 : l0.length ≤ c0) (h : impl_looked.f k l0 = some (r1, r2)) :
  Calls Try.prog 41 #[.slice A0 l0.length c0] w fun e w' => ∃ v0_ : Value, e = .returned (.tuple #[v0_, .int .i64 r2]) ∧ Kd.R (Kd.int .i64) 2 w' w.heap.size (fun _ => True) v0_ r1 ∧ Below w.heap.size w w' := by
 have hu58 := Try.underlying58
 have HR0 := Aside0.mk hr0
 have HC0 := Aside0.mk hc0
 clear hr0 hc0
 have HB := Aside0.mk (Below.refl w.heap.size w)
 have H : ((impl_Node.f l0).bind fun t277 => ((impl_in.f t277 1 8).bind fun t278 => (if t278 = true then (impl_looked.l0 k l0 (([] : List Int)) l0 (l0.length : Int) 0) else (some (([] : List Int), 2))))) = some (r1, r2) := h
 clear h
 replace H := Option.bind_eq_some_iff.mp H
 obtain ⟨t277, A20, H⟩ := H
 replace H : ((impl_in.f t277 1 8).bind fun t278 => (if t278 = true then (impl_looked.l0 k l0 (([] : List Int)) l0 (l0.length : Int) 0) else (some (([] : List Int), 2)))) = some (r1, r2) := H
 have A2 := Aside0.mk A20
 clear A20
 replace H := Option.bind_eq_some_iff.mp H
 obtain ⟨t278, A30, H⟩ := H
 replace H : (if t278 = true then (impl_looked.l0 k l0 (([] : List Int)) l0 (l0.length : Int) 0) else (some (([] : List Int), 2))) = some (r1, r2) := H
 have A3 := Aside0.mk A30
 clear A30
 by_cases c4 : t278 = true
 ·subst c4
  have H1 : (impl_looked.l0 k l0 (([] : List Int)) l0 (l0.length : Int) 0) = some (r1, r2) := by rw [if_pos rfl] at H; exact H
  clear H
  have H := H1
  clear H1
  obtain ⟨y279, hy279⟩ : ∃ y_ : List Int, y_ = (([] : List Int)) := ⟨_, rfl⟩
  replace H : (impl_looked.l0 k l0 y279 l0 (l0.length : Int) 0) = some (r1, r2) := by first | (rw [hy279]; with_reducible exact H) | (have H2_ := (Option.bind_some _ _).symm.trans H; rw [hy279]; with_reducible exact H2_) | (have H2_ := (Option.bind_some _ _).symm.trans H; with_reducible exact H2_) | with_reducible exact H | (rw [hy279]; exact H) | exact H
  have Ny279 := Aside0.mk hy279
  clear hy279
  have H' := Aside0.mk H
  clear H
  go_enter Try.func41, Try.ntmps41
  go_wp2_with (first | ((with_reducible refine gate_callee (f := 48) rfl ?_); refine goesL_ (some 11) rfl rfl Try.func48 (by kernel_rfl) rfl #[.slice A0 l0.length c0] rfl b12_1 ?_; (with_reducible refine (impl_Node.calls _ _ l0 t277 _ ?side1 ?side2 A2.out).mono ?_); (case side1 => exact (by repeat (first | exact HR0.out | (with_reducible refine Kd.C_alloc ?_ _) | (with_reducible refine Kd.C_drewN ?_ _) | (with_reducible refine Kd.C_drew ?_)))); (case side2 => exact HC0.out); rintro e w' ⟨rfl, ⟨nd, rfl⟩⟩; refine ⟨_, rfl, ?_⟩) | ((with_reducible refine gate_callee (f := 47) rfl ?_); refine goesL_ (some 12) rfl rfl Try.func47 (by kernel_rfl) rfl #[.int .i64 t277, .int .i64 1, .int .i64 8] rfl b12_1 ?_; (with_reducible refine (impl_in.calls t277 1 8 true _ A3.out).mono ?_); rintro e w' ⟨rfl, ⟨nd, rfl⟩⟩; refine ⟨_, rfl, ?_⟩) | ((with_reducible refine gate_dst (N := 14) rfl ?_); refine Kd.R_lit (Kd.int .i64) _ 2 ?hg (N := 14) ?hd (xs := ([] : List Int)) (inner := []) (ok := fun _ => True) (okp := fun _ => True) ?hr ?hp (fun _ hk => hk) trivial (Below.refl _ _) (Nat.le_refl _) (by simp) ?_; (case hd => rfl); (case hg => rfl); (case hr => first | (go_simp; done) | (go_simp; rfl)); (case hp => exact (Reps.none _ _)); intro v280 w5 ho6 hb hg_ hnew_; clear hg_ hnew_; (first | rw [← Ny279.out] at ho6 | (simp only [Int.reduceToNat] at ho6; rw [← Ny279.out] at ho6)); have n0_ := Aside0.mk (Kd.R_lower ho6 (below_size b12_4)); have n1_ := Aside0.mk (below_step b12_4 hb); clear HB; have HO281 := n0_; have HB := n1_; clear n0_ n1_; clear hb ho6))
  go_loopg [4, 17] k (fun kq v4 v17 w' => ∃ (x4_1 : List Int) (x17_1 : Int), v17 = .int .i64 x17_1 ∧ Aside0 (impl_looked.l0 kq l0 x4_1 l0 (l0.length : Int) x17_1 = some (r1, r2)) ∧ Aside0 (kq ≤ k) ∧ Aside0 (Kd.R (Kd.int .i64) 2 w' w.heap.size (fun _ => True) v4 x4_1) ∧ Aside0 (Below w.heap.size w w'))
  case atStart => exact ⟨(y279), (0), (by first | rfl | (simp; done) | (simp [*]; done)), H', ⟨Nat.le_refl _⟩, ⟨by (with_reducible repeat (first | apply Kd.R_alloc | apply Kd.R_drewN | apply Kd.R_drew)); exact HO281.out⟩, ⟨by repeat (first | (with_reducible first | exact HB.out | apply below_alloc | apply pw_below_drewN | apply below_drew1) | exact HB.out)⟩⟩
  case round =>
   clear H'
   try clear p2
   try clear c4
   obtain ⟨x4_1, x17_1, rfl, HA, HK1, HO_4, HB⟩ := hrel
   cases gk with
   | zero => exact absurd HA.out (by simp [impl_looked.l0])
   | succ k1 =>
    have H := HA.out
    clear HA
    simp only [impl_looked.l0] at H
    by_cases c7 : x17_1 < (l0.length : Int)
    ·rw [if_pos c7] at H
     have c7b0 : decide (x17_1 < (l0.length : Int)) = true := decide_eq_true c7
     clear c7
     by_cases c8 : 0 ≤ x17_1
     ·rw [if_pos c8] at H
      have c8b0 : decide (0 ≤ x17_1) = true := decide_eq_true c8
      clear c8
      by_cases c9 : x17_1 < (l0.length : Int)
      ·rw [if_pos c9] at H
       have c9b0 : decide (x17_1 < (l0.length : Int)) = true := decide_eq_true c9
       clear c9
       replace H := Option.bind_eq_some_iff.mp H
       obtain ⟨t284, A100, H⟩ := H
       replace H : (if t284 = true then ((impl_Node_plain.f k1 ((rd_T58 l0 x17_1).f0) ((rd_T58 l0 x17_1).f1) ((rd_T58 l0 x17_1).f2) ((rd_T58 l0 x17_1).f3) ((rd_T58 l0 x17_1).f4) ((rd_T58 l0 x17_1).f5) ((rd_T58 l0 x17_1).f6)).bind fun bt285 => ((impl_sameNode.f k1 ((rd_T58 l0 x17_1).f0) ((rd_T58 l0 x17_1).f1) ((rd_T58 l0 x17_1).f2) ((rd_T58 l0 x17_1).f3) ((rd_T58 l0 x17_1).f4) ((rd_T58 l0 x17_1).f5) ((rd_T58 l0 x17_1).f6) bt285.1 bt285.2.1 bt285.2.2.1 bt285.2.2.2.1 bt285.2.2.2.2.1 bt285.2.2.2.2.2.1 bt285.2.2.2.2.2.2).bind fun t294 => (if t294 = true then ((impl_Node_reads.f ((rd_T58 l0 x17_1).f0) ((rd_T58 l0 x17_1).f1) ((rd_T58 l0 x17_1).f2) ((rd_T58 l0 x17_1).f3) ((rd_T58 l0 x17_1).f4) ((rd_T58 l0 x17_1).f5) ((rd_T58 l0 x17_1).f6)).bind fun t295 => (impl_looked.l1 k1 l0 x4_1 x17_1 l0 (l0.length : Int) x17_1 t295 (t295.length : Int) 0 ((rd_T58 l0 x17_1).f0) ((rd_T58 l0 x17_1).f1) ((rd_T58 l0 x17_1).f2) ((rd_T58 l0 x17_1).f3) ((rd_T58 l0 x17_1).f4) ((rd_T58 l0 x17_1).f5) ((rd_T58 l0 x17_1).f6))) else (some (([] : List Int), 1))))) else (some (([] : List Int), 5))) = some (r1, r2) := H
       have A10 := Aside0.mk A100
       clear A100
       by_cases c11 : t284 = true
       ·subst c11
        have H1 : ((impl_Node_plain.f k1 ((rd_T58 l0 x17_1).f0) ((rd_T58 l0 x17_1).f1) ((rd_T58 l0 x17_1).f2) ((rd_T58 l0 x17_1).f3) ((rd_T58 l0 x17_1).f4) ((rd_T58 l0 x17_1).f5) ((rd_T58 l0 x17_1).f6)).bind fun bt285 => ((impl_sameNode.f k1 ((rd_T58 l0 x17_1).f0) ((rd_T58 l0 x17_1).f1) ((rd_T58 l0 x17_1).f2) ((rd_T58 l0 x17_1).f3) ((rd_T58 l0 x17_1).f4) ((rd_T58 l0 x17_1).f5) ((rd_T58 l0 x17_1).f6) bt285.1 bt285.2.1 bt285.2.2.1 bt285.2.2.2.1 bt285.2.2.2.2.1 bt285.2.2.2.2.2.1 bt285.2.2.2.2.2.2).bind fun t294 => (if t294 = true then ((impl_Node_reads.f ((rd_T58 l0 x17_1).f0) ((rd_T58 l0 x17_1).f1) ((rd_T58 l0 x17_1).f2) ((rd_T58 l0 x17_1).f3) ((rd_T58 l0 x17_1).f4) ((rd_T58 l0 x17_1).f5) ((rd_T58 l0 x17_1).f6)).bind fun t295 => (impl_looked.l1 k1 l0 x4_1 x17_1 l0 (l0.length : Int) x17_1 t295 (t295.length : Int) 0 ((rd_T58 l0 x17_1).f0) ((rd_T58 l0 x17_1).f1) ((rd_T58 l0 x17_1).f2) ((rd_T58 l0 x17_1).f3) ((rd_T58 l0 x17_1).f4) ((rd_T58 l0 x17_1).f5) ((rd_T58 l0 x17_1).f6))) else (some (([] : List Int), 1))))) = some (r1, r2) := by rw [if_pos rfl] at H; exact H
        clear H
        have H := H1
        clear H1
        replace H := Option.bind_eq_some_iff.mp H
        obtain ⟨⟨t285, t286, t287, t288, t289, t290, t291⟩, A120, H⟩ := H
        replace H : ((impl_sameNode.f k1 ((rd_T58 l0 x17_1).f0) ((rd_T58 l0 x17_1).f1) ((rd_T58 l0 x17_1).f2) ((rd_T58 l0 x17_1).f3) ((rd_T58 l0 x17_1).f4) ((rd_T58 l0 x17_1).f5) ((rd_T58 l0 x17_1).f6) t285 t286 t287 t288 t289 t290 t291).bind fun t294 => (if t294 = true then ((impl_Node_reads.f ((rd_T58 l0 x17_1).f0) ((rd_T58 l0 x17_1).f1) ((rd_T58 l0 x17_1).f2) ((rd_T58 l0 x17_1).f3) ((rd_T58 l0 x17_1).f4) ((rd_T58 l0 x17_1).f5) ((rd_T58 l0 x17_1).f6)).bind fun t295 => (impl_looked.l1 k1 l0 x4_1 x17_1 l0 (l0.length : Int) x17_1 t295 (t295.length : Int) 0 ((rd_T58 l0 x17_1).f0) ((rd_T58 l0 x17_1).f1) ((rd_T58 l0 x17_1).f2) ((rd_T58 l0 x17_1).f3) ((rd_T58 l0 x17_1).f4) ((rd_T58 l0 x17_1).f5) ((rd_T58 l0 x17_1).f6))) else (some (([] : List Int), 1)))) = some (r1, r2) := H
        have A12 := Aside0.mk A120
        clear A120
        replace H := Option.bind_eq_some_iff.mp H
        obtain ⟨t294, A130, H⟩ := H
        replace H : (if t294 = true then ((impl_Node_reads.f ((rd_T58 l0 x17_1).f0) ((rd_T58 l0 x17_1).f1) ((rd_T58 l0 x17_1).f2) ((rd_T58 l0 x17_1).f3) ((rd_T58 l0 x17_1).f4) ((rd_T58 l0 x17_1).f5) ((rd_T58 l0 x17_1).f6)).bind fun t295 => (impl_looked.l1 k1 l0 x4_1 x17_1 l0 (l0.length : Int) x17_1 t295 (t295.length : Int) 0 ((rd_T58 l0 x17_1).f0) ((rd_T58 l0 x17_1).f1) ((rd_T58 l0 x17_1).f2) ((rd_T58 l0 x17_1).f3) ((rd_T58 l0 x17_1).f4) ((rd_T58 l0 x17_1).f5) ((rd_T58 l0 x17_1).f6))) else (some (([] : List Int), 1))) = some (r1, r2) := H
        have A13 := Aside0.mk A130
        clear A130
        by_cases c14 : t294 = true
        ·subst c14
         have H1 : ((impl_Node_reads.f ((rd_T58 l0 x17_1).f0) ((rd_T58 l0 x17_1).f1) ((rd_T58 l0 x17_1).f2) ((rd_T58 l0 x17_1).f3) ((rd_T58 l0 x17_1).f4) ((rd_T58 l0 x17_1).f5) ((rd_T58 l0 x17_1).f6)).bind fun t295 => (impl_looked.l1 k1 l0 x4_1 x17_1 l0 (l0.length : Int) x17_1 t295 (t295.length : Int) 0 ((rd_T58 l0 x17_1).f0) ((rd_T58 l0 x17_1).f1) ((rd_T58 l0 x17_1).f2) ((rd_T58 l0 x17_1).f3) ((rd_T58 l0 x17_1).f4) ((rd_T58 l0 x17_1).f5) ((rd_T58 l0 x17_1).f6))) = some (r1, r2) := by rw [if_pos rfl] at H; exact H
         clear H
         have H := H1
         clear H1
         replace H := Option.bind_eq_some_iff.mp H
         obtain ⟨t295, A150, H⟩ := H
         replace H : (impl_looked.l1 k1 l0 x4_1 x17_1 l0 (l0.length : Int) x17_1 t295 (t295.length : Int) 0 ((rd_T58 l0 x17_1).f0) ((rd_T58 l0 x17_1).f1) ((rd_T58 l0 x17_1).f2) ((rd_T58 l0 x17_1).f3) ((rd_T58 l0 x17_1).f4) ((rd_T58 l0 x17_1).f5) ((rd_T58 l0 x17_1).f6)) = some (r1, r2) := H
         have A15 := Aside0.mk A150
         clear A150
         have H' := Aside0.mk H
         clear H
         have p282 : 0 ≤ (x17_1 : Int) := of_decide_eq_true b12_6
         have q282 : x17_1 < (l0.length : Int) := of_decide_eq_true b12_6
         obtain ⟨ad282, A282_6, c282_6, e282, hx282_0, hx282_1, hx282_2, hx282_3, hx282_4, hx282_5, hx282_6, hl282_6, hi282_6⟩ := at_T58 HR0.out x17_1 p282 q282
         cases e282
         replace hx282_0 := (HB.out.cell (World.block_lt_of_cell? w _ hx282_0)).trans hx282_0
         replace hx282_1 := (HB.out.cell (World.block_lt_of_cell? w _ hx282_1)).trans hx282_1
         replace hx282_2 := (HB.out.cell (World.block_lt_of_cell? w _ hx282_2)).trans hx282_2
         replace hx282_3 := (HB.out.cell (World.block_lt_of_cell? w _ hx282_3)).trans hx282_3
         replace hx282_4 := (HB.out.cell (World.block_lt_of_cell? w _ hx282_4)).trans hx282_4
         replace hx282_5 := (HB.out.cell (World.block_lt_of_cell? w _ hx282_5)).trans hx282_5
         replace hx282_6 := (HB.out.cell (World.block_lt_of_cell? w _ hx282_6)).trans hx282_6
         have HR282_6 := Aside0.mk hi282_6
         have HC282_6 := Aside0.mk hl282_6
         clear hi282_6 hl282_6
         replace p282 := eq_true p282
         replace q282 := eq_true q282
         try go_wp2_with (first | ((with_reducible refine gate_dst (N := 6) rfl ?_); refine box_event ?hg (N := 6) ?hd (cs := #[.int .i64 0, .int .i64 0, .int .i64 0, .int .i64 0, .int .i64 0, .int .i64 0, .slice none 0 0]) (t := 58) ?hr ?_; (case hd => rfl); (case hg => rfl); (case hr => first | (go_simp; done) | (go_simp; rfl)); intro gb283 hg w16 hbox hb; have n0_ := Aside0.mk (Kd.R_below b12_2 hb); have n1_ := Aside0.mk (below_step b12_4 hb); have n2_ := Aside0.mk (hbox); have n3_ := Aside0.mk ((by rw [hg]; exact (below_size b12_4) : w.heap.size ≤ gb283)); have n4_ := Aside0.mk ((by rw [hg]; exact (below_size b12_4) : w.heap.size ≤ gb283)); clear HO_4; clear HB; have HO_4 := n0_; have HB := n1_; have BK283 := n2_; have GW283 := n3_; have GE283 := n4_; clear n0_ n1_ n2_ n3_ n4_; clear hb hbox hg; obtain ⟨hcz17_0, hcz17_1, hcz17_2, hcz17_3, hcz17_4, hcz17_5, hcz17_6, hfz17_0, hfz17_1, hfz17_2, hfz17_3, hfz17_4, hfz17_5, hfz17_6⟩ := cells7 BK283.out) | ((with_reducible refine gate_callee (f := 47) rfl ?_); refine goesL_ (some 25) rfl rfl Try.func47 (by kernel_rfl) rfl #[.int .i64 ((rd_T58 l0 x17_1).f0), .int .i64 1, .int .i64 12] rfl b12_1 ?_; (with_reducible refine (impl_in.calls ((rd_T58 l0 x17_1).f0) 1 12 true _ A10.out).mono ?_); rintro e w' ⟨rfl, ⟨nd, rfl⟩⟩; refine ⟨_, rfl, ?_⟩))
         have n0_ : Aside0 (Kd.R (Kd.int .i64) 2 (((((((w16.setCell ⟨gb283, 0, none⟩ (.int .i64 ((rd_T58 l0 x17_1).f0))).setCell ⟨gb283, 1, none⟩ (.int .i64 ((rd_T58 l0 x17_1).f1))).setCell ⟨gb283, 2, none⟩ (.int .i64 ((rd_T58 l0 x17_1).f2))).setCell ⟨gb283, 3, none⟩ (.int .i64 ((rd_T58 l0 x17_1).f3))).setCell ⟨gb283, 4, none⟩ (.int .i64 ((rd_T58 l0 x17_1).f4))).setCell ⟨gb283, 5, none⟩ (.int .i64 ((rd_T58 l0 x17_1).f5))).setCell ⟨gb283, 6, none⟩ (.slice A282_6 ((rd_T58 l0 x17_1).f6).length c282_6)) w.heap.size (fun _ => True) u4 x4_1) := ⟨by (with_reducible repeat (first | apply Kd.R_alloc | apply Kd.R_drewN | apply Kd.R_drew)); exact Kd.R_mono (Kd.R_far (p := ⟨gb283, 6, none⟩) (Kd.R_far (p := ⟨gb283, 5, none⟩) (Kd.R_far (p := ⟨gb283, 4, none⟩) (Kd.R_far (p := ⟨gb283, 3, none⟩) (Kd.R_far (p := ⟨gb283, 2, none⟩) (Kd.R_far (p := ⟨gb283, 1, none⟩) (Kd.R_far (p := ⟨gb283, 0, none⟩) (Kd.R_types HO_4.out BK283.out (by decide)) (fun _ hk => hk.2) (.int .i64 ((rd_T58 l0 x17_1).f0))) (fun _ hk => hk.2) (.int .i64 ((rd_T58 l0 x17_1).f1))) (fun _ hk => hk.2) (.int .i64 ((rd_T58 l0 x17_1).f2))) (fun _ hk => hk.2) (.int .i64 ((rd_T58 l0 x17_1).f3))) (fun _ hk => hk.2) (.int .i64 ((rd_T58 l0 x17_1).f4))) (fun _ hk => hk.2) (.int .i64 ((rd_T58 l0 x17_1).f5))) (fun _ hk => hk.2) (.slice A282_6 ((rd_T58 l0 x17_1).f6).length c282_6)) (fun _ hk => trivial)⟩
         have n1_ : Aside0 ((((((((w16.setCell ⟨gb283, 0, none⟩ (.int .i64 ((rd_T58 l0 x17_1).f0))).setCell ⟨gb283, 1, none⟩ (.int .i64 ((rd_T58 l0 x17_1).f1))).setCell ⟨gb283, 2, none⟩ (.int .i64 ((rd_T58 l0 x17_1).f2))).setCell ⟨gb283, 3, none⟩ (.int .i64 ((rd_T58 l0 x17_1).f3))).setCell ⟨gb283, 4, none⟩ (.int .i64 ((rd_T58 l0 x17_1).f4))).setCell ⟨gb283, 5, none⟩ (.int .i64 ((rd_T58 l0 x17_1).f5))).setCell ⟨gb283, 6, none⟩ (.slice A282_6 ((rd_T58 l0 x17_1).f6).length c282_6)).heap[gb283]? = some (.cells #[.int .i64 ((rd_T58 l0 x17_1).f0), .int .i64 ((rd_T58 l0 x17_1).f1), .int .i64 ((rd_T58 l0 x17_1).f2), .int .i64 ((rd_T58 l0 x17_1).f3), .int .i64 ((rd_T58 l0 x17_1).f4), .int .i64 ((rd_T58 l0 x17_1).f5), .slice A282_6 ((rd_T58 l0 x17_1).f6).length c282_6] 58 (0, 0))) := ⟨by (with_reducible repeat (first | refine blk_drewN ?_ _ | refine blk_drew ?_ | refine blk_alloc ?_ _)); refine blk_put (cs := #[.int .i64 ((rd_T58 l0 x17_1).f0), .int .i64 ((rd_T58 l0 x17_1).f1), .int .i64 ((rd_T58 l0 x17_1).f2), .int .i64 ((rd_T58 l0 x17_1).f3), .int .i64 ((rd_T58 l0 x17_1).f4), .int .i64 ((rd_T58 l0 x17_1).f5), .slice none 0 0]) ?_ 6 _ rfl; (with_reducible repeat (first | refine blk_drewN ?_ _ | refine blk_drew ?_ | refine blk_alloc ?_ _)); refine blk_put (cs := #[.int .i64 ((rd_T58 l0 x17_1).f0), .int .i64 ((rd_T58 l0 x17_1).f1), .int .i64 ((rd_T58 l0 x17_1).f2), .int .i64 ((rd_T58 l0 x17_1).f3), .int .i64 ((rd_T58 l0 x17_1).f4), .int .i64 0, .slice none 0 0]) ?_ 5 _ rfl; (with_reducible repeat (first | refine blk_drewN ?_ _ | refine blk_drew ?_ | refine blk_alloc ?_ _)); refine blk_put (cs := #[.int .i64 ((rd_T58 l0 x17_1).f0), .int .i64 ((rd_T58 l0 x17_1).f1), .int .i64 ((rd_T58 l0 x17_1).f2), .int .i64 ((rd_T58 l0 x17_1).f3), .int .i64 0, .int .i64 0, .slice none 0 0]) ?_ 4 _ rfl; (with_reducible repeat (first | refine blk_drewN ?_ _ | refine blk_drew ?_ | refine blk_alloc ?_ _)); refine blk_put (cs := #[.int .i64 ((rd_T58 l0 x17_1).f0), .int .i64 ((rd_T58 l0 x17_1).f1), .int .i64 ((rd_T58 l0 x17_1).f2), .int .i64 0, .int .i64 0, .int .i64 0, .slice none 0 0]) ?_ 3 _ rfl; (with_reducible repeat (first | refine blk_drewN ?_ _ | refine blk_drew ?_ | refine blk_alloc ?_ _)); refine blk_put (cs := #[.int .i64 ((rd_T58 l0 x17_1).f0), .int .i64 ((rd_T58 l0 x17_1).f1), .int .i64 0, .int .i64 0, .int .i64 0, .int .i64 0, .slice none 0 0]) ?_ 2 _ rfl; (with_reducible repeat (first | refine blk_drewN ?_ _ | refine blk_drew ?_ | refine blk_alloc ?_ _)); refine blk_put (cs := #[.int .i64 ((rd_T58 l0 x17_1).f0), .int .i64 0, .int .i64 0, .int .i64 0, .int .i64 0, .int .i64 0, .slice none 0 0]) ?_ 1 _ rfl; (with_reducible repeat (first | refine blk_drewN ?_ _ | refine blk_drew ?_ | refine blk_alloc ?_ _)); refine blk_put (cs := #[.int .i64 0, .int .i64 0, .int .i64 0, .int .i64 0, .int .i64 0, .int .i64 0, .slice none 0 0]) ?_ 0 _ rfl; (with_reducible repeat (first | refine blk_drewN ?_ _ | refine blk_drew ?_ | refine blk_alloc ?_ _)); exact BK283.out⟩
         have n2_ : Aside0 (Below w.heap.size w (((((((w16.setCell ⟨gb283, 0, none⟩ (.int .i64 ((rd_T58 l0 x17_1).f0))).setCell ⟨gb283, 1, none⟩ (.int .i64 ((rd_T58 l0 x17_1).f1))).setCell ⟨gb283, 2, none⟩ (.int .i64 ((rd_T58 l0 x17_1).f2))).setCell ⟨gb283, 3, none⟩ (.int .i64 ((rd_T58 l0 x17_1).f3))).setCell ⟨gb283, 4, none⟩ (.int .i64 ((rd_T58 l0 x17_1).f4))).setCell ⟨gb283, 5, none⟩ (.int .i64 ((rd_T58 l0 x17_1).f5))).setCell ⟨gb283, 6, none⟩ (.slice A282_6 ((rd_T58 l0 x17_1).f6).length c282_6))) := ⟨by repeat (first | (with_reducible first | exact HB.out | apply below_alloc | apply pw_below_drewN | apply below_drew1 | refine below_set ?_ GE283.out) | exact HB.out)⟩
         (try clear HO_4)
         (try clear BK283)
         (try clear HB)
         generalize (((((((w16.setCell ⟨gb283, 0, none⟩ (.int .i64 ((rd_T58 l0 x17_1).f0))).setCell ⟨gb283, 1, none⟩ (.int .i64 ((rd_T58 l0 x17_1).f1))).setCell ⟨gb283, 2, none⟩ (.int .i64 ((rd_T58 l0 x17_1).f2))).setCell ⟨gb283, 3, none⟩ (.int .i64 ((rd_T58 l0 x17_1).f3))).setCell ⟨gb283, 4, none⟩ (.int .i64 ((rd_T58 l0 x17_1).f4))).setCell ⟨gb283, 5, none⟩ (.int .i64 ((rd_T58 l0 x17_1).f5))).setCell ⟨gb283, 6, none⟩ (.slice A282_6 ((rd_T58 l0 x17_1).f6).length c282_6)) = w18 at n0_ n1_ n2_ ⊢
         have HO_4 := n0_
         have BK283 := n1_
         have HB := n2_
         clear n0_ n1_ n2_
         (try simp only [World.drewN_drewN]); (try (rw [drewN_self w18]; generalize hq_ : World.drewN w18 _ = w18; have n0_ : Aside0 (Kd.R (Kd.int .i64) 2 w18 w.heap.size (fun _ => True) u4 x4_1) := ⟨by rw [← hq_]; exact b12_2⟩; have n1_ : Aside0 (w18.heap[gb283]? = some (.cells #[.int .i64 ((rd_T58 l0 x17_1).f0), .int .i64 ((rd_T58 l0 x17_1).f1), .int .i64 ((rd_T58 l0 x17_1).f2), .int .i64 ((rd_T58 l0 x17_1).f3), .int .i64 ((rd_T58 l0 x17_1).f4), .int .i64 ((rd_T58 l0 x17_1).f5), .slice A282_6 ((rd_T58 l0 x17_1).f6).length c282_6] 58 (0, 0))) := ⟨by rw [← hq_]; exact b12_3⟩; have n2_ : Aside0 (Below w.heap.size w w18) := ⟨by rw [← hq_]; exact b12_0⟩; clear HO_4 BK283 HB hq_; have HO_4 := n0_; have BK283 := n1_; have HB := n2_; clear n0_ n1_ n2_))
         have n0_ := Aside0.mk (Kd.R_drew HO_4.out)
         have n1_ := Aside0.mk (blk_drew BK283.out)
         have n2_ := Aside0.mk (below_drew1 HB.out)
         clear HO_4
         clear BK283
         clear HB
         have HO_4 := n0_
         have BK283 := n1_
         have HB := n2_
         clear n0_ n1_ n2_
         refine start_ (n := 6) (S := fun w' => w'.cell? ⟨gb283, 0, none⟩ = some (.int .i64 ((rd_T58 l0 x17_1).f0)) ∧ w'.cell? ⟨gb283, 1, none⟩ = some (.int .i64 ((rd_T58 l0 x17_1).f1)) ∧ w'.cell? ⟨gb283, 2, none⟩ = some (.int .i64 ((rd_T58 l0 x17_1).f2)) ∧ w'.cell? ⟨gb283, 3, none⟩ = some (.int .i64 ((rd_T58 l0 x17_1).f3)) ∧ w'.cell? ⟨gb283, 4, none⟩ = some (.int .i64 ((rd_T58 l0 x17_1).f4)) ∧ w'.cell? ⟨gb283, 5, none⟩ = some (.int .i64 ((rd_T58 l0 x17_1).f5)) ∧ w'.cell? ⟨gb283, 6, none⟩ = some (.slice A282_6 ((rd_T58 l0 x17_1).f6).length c282_6)) (ds := []) #[false, false, false, false, false, false] (by kernel_rfl) rfl rfl ⟨(blk_cell BK283.out 0).trans rfl, (blk_cell BK283.out 1).trans rfl, (blk_cell BK283.out 2).trans rfl, (blk_cell BK283.out 3).trans rfl, (blk_cell BK283.out 4).trans rfl, (blk_cell BK283.out 5).trans rfl, (blk_cell BK283.out 6).trans rfl⟩ (fun hHeld => ?_)
         generalize w18.drew = w19 at HO_4 BK283 HB hHeld ⊢
         refine take_ (i := 0) (N := some 28) (v := ?_) (a' := ?_) #[true, false, false, false, false, false] rfl rfl (by kernel_rfl) (fun _ _ _ h => h) (Or.inl ⟨by rfl, ?_⟩) hHeld ?_ ?_
         rotate_left
         ·rintro w' ⟨s0, s1, s2, s3, s4, s5, s6⟩
          go_simp
          with_reducible rfl
         rotate_left
         ·simp only [Act.put, List.setIfInBounds_toArray, List.set_cons_zero, List.set_cons_succ, i64_w, i32_w]
          rfl
         refine take_ (i := 1) (N := some 29) (v := ?_) (a' := ?_) #[true, true, false, false, false, false] rfl rfl (by kernel_rfl) (fun _ _ _ h => h) (Or.inl ⟨by rfl, ?_⟩) hHeld ?_ ?_
         rotate_left
         ·rintro w' ⟨s0, s1, s2, s3, s4, s5, s6⟩
          go_simp
          with_reducible rfl
         rotate_left
         ·simp only [Act.put, List.setIfInBounds_toArray, List.set_cons_zero, List.set_cons_succ, i64_w, i32_w]
          rfl
         refine one_ (i := 2) (N := some 30) #[true, true, true, false, false, false] rfl rfl (by kernel_rfl) (by decide) (fun K hK => ?_)
         refine goes_ Try.func76 (by kernel_rfl) rfl #[.agg #[.int .i64 ((rd_T58 l0 x17_1).f0), .int .i64 ((rd_T58 l0 x17_1).f1), .int .i64 ((rd_T58 l0 x17_1).f2), .int .i64 ((rd_T58 l0 x17_1).f3), .int .i64 ((rd_T58 l0 x17_1).f4), .int .i64 ((rd_T58 l0 x17_1).f5), .slice A282_6 ((rd_T58 l0 x17_1).f6).length c282_6]] (by rfl) rfl rfl b12_1 ?_
         with_reducible refine (impl_Node_plain.calls k1 ((rd_T58 l0 x17_1).f0) ((rd_T58 l0 x17_1).f1) ((rd_T58 l0 x17_1).f2) ((rd_T58 l0 x17_1).f3) ((rd_T58 l0 x17_1).f4) ((rd_T58 l0 x17_1).f5) (fun k_ => k_ < w.heap.size) _ _ ((rd_T58 l0 x17_1).f6) t285 t286 t287 t288 t289 t290 t291 _ ?side1 A12.out).mono ?_
         (case side1 => exact (by exact Kd.V_mk HC282_6.out (Kd.F_below (Kd.C_F (Kd.heap_int .i64) HR282_6.out) b12_0)))
         rintro e w20 ⟨v292, rfl, ho0, hb⟩
         refine ⟨_, rfl, ?_⟩
         have n0_ := Aside0.mk (Kd.R_below b12_2 hb)
         have n1_ := Aside0.mk (Kd.V_lower (Kd.V_mono (ok' := fun k_ => some k_ ≠ (u4 : Value).ownBlock ∧ k_ ≠ gb283) ho0 (fun k_ hk_ => ⟨Or.elim hk_ (fun hs_ => fun e_ => Nat.not_le.2 hs_ (Kd.R_base HO_4.out k_ e_.symm)) (fun hn_ => (Kd.fresh' (Kd.R_lt b12_2) k_ hn_)), Or.elim hk_ (fun hs_ => fun e_ => Nat.not_le.2 hs_ (by rw [e_]; exact GW283.out)) (fun hn_ => (Kd.freshB (g := gb283) (o := .cells #[.int .i64 ((rd_T58 l0 x17_1).f0), .int .i64 ((rd_T58 l0 x17_1).f1), .int .i64 ((rd_T58 l0 x17_1).f2), .int .i64 ((rd_T58 l0 x17_1).f3), .int .i64 ((rd_T58 l0 x17_1).f4), .int .i64 ((rd_T58 l0 x17_1).f5), .slice A282_6 ((rd_T58 l0 x17_1).f6).length c282_6] 58 (0, 0)) b12_3 k_ hn_))⟩)) (below_size b12_0))
         have n2_ := Aside0.mk (blk_below (g := gb283) (o := .cells #[.int .i64 ((rd_T58 l0 x17_1).f0), .int .i64 ((rd_T58 l0 x17_1).f1), .int .i64 ((rd_T58 l0 x17_1).f2), .int .i64 ((rd_T58 l0 x17_1).f3), .int .i64 ((rd_T58 l0 x17_1).f4), .int .i64 ((rd_T58 l0 x17_1).f5), .slice A282_6 ((rd_T58 l0 x17_1).f6).length c282_6] 58 (0, 0)) b12_3 hb)
         have n3_ := Aside0.mk (below_step b12_0 hb)
         clear HO_4
         clear BK283
         clear HB
         have HO_4 := n0_
         have HO293 := n1_
         have BK283 := n2_
         have HB := n3_
         clear n0_ n1_ n2_ n3_
         (try clear hb)
         (try clear hb2)
         (try clear hk)
         (try clear hi)
         (try clear ho0)
         obtain ⟨Ao21, co21, eo21⟩ := Kd.V_slice HO293.out
         (first | subst eo21 | (injection eo21 with f1_ f2_ f3_; have f4_ := f1_.symm; have f5_ := f3_.symm; clear f1_ f2_ f3_; subst f4_; subst f5_))
         refine hK.out _ _ ⟨(blk_cell BK283.out 0).trans rfl, (blk_cell BK283.out 1).trans rfl, (blk_cell BK283.out 2).trans rfl, (blk_cell BK283.out 3).trans rfl, (blk_cell BK283.out 4).trans rfl, (blk_cell BK283.out 5).trans rfl, (blk_cell BK283.out 6).trans rfl⟩ (fun hHeld => ?_)
         clear hK K
         refine norm_ (a' := ?_) ?_ ?_
         rotate_left
         ·show Act.put _ (some 30) _ = _
          simp only [Act.put, List.setIfInBounds_toArray, List.set_cons_zero, List.set_cons_succ, i64_w, i32_w]
          rfl
         refine one_ (i := 3) (N := some 31) #[true, true, true, true, false, false] rfl rfl (by kernel_rfl) (by decide) (fun K hK => ?_)
         refine goes_ Try.func75 (by kernel_rfl) rfl #[.agg #[.int .i64 ((rd_T58 l0 x17_1).f0), .int .i64 ((rd_T58 l0 x17_1).f1), .int .i64 ((rd_T58 l0 x17_1).f2), .int .i64 ((rd_T58 l0 x17_1).f3), .int .i64 ((rd_T58 l0 x17_1).f4), .int .i64 ((rd_T58 l0 x17_1).f5), .slice A282_6 ((rd_T58 l0 x17_1).f6).length c282_6], .agg #[.int .i64 t285, .int .i64 t286, .int .i64 t287, .int .i64 t288, .int .i64 t289, .int .i64 t290, .slice Ao21 t291.length co21]] (by rfl) rfl rfl b12_1 ?_
         with_reducible refine (impl_sameNode.calls k1 ((rd_T58 l0 x17_1).f0) ((rd_T58 l0 x17_1).f1) ((rd_T58 l0 x17_1).f2) ((rd_T58 l0 x17_1).f3) ((rd_T58 l0 x17_1).f4) ((rd_T58 l0 x17_1).f5) _ _ ((rd_T58 l0 x17_1).f6) t285 t286 t287 t288 t289 t290 _ _ t291 true _ ?side1 ?side2 ?side3 ?side4 A13.out).mono ?_
         (case side1 => exact b12_5)
         (case side2 => exact HC282_6.out)
         (case side3 => exact (by repeat (first | exact (Kd.V_reads' HO293.out).2.2 | (with_reducible refine Kd.C_alloc ?_ _) | (with_reducible refine Kd.C_drewN ?_ _) | (with_reducible refine Kd.C_drew ?_))))
         (case side4 => exact (Kd.V_reads' HO293.out).2.1)
         rintro e w22 ⟨rfl, hb⟩
         refine ⟨_, rfl, ?_⟩
         have n0_ := Aside0.mk (Kd.R_below b12_2 hb)
         have n1_ := Aside0.mk (Kd.V_below (by (with_reducible repeat (first | apply Kd.V_alloc | apply Kd.V_drewN | apply Kd.V_drew)); exact HO293.out) hb)
         have n2_ := Aside0.mk (blk_below (g := gb283) (o := .cells #[.int .i64 ((rd_T58 l0 x17_1).f0), .int .i64 ((rd_T58 l0 x17_1).f1), .int .i64 ((rd_T58 l0 x17_1).f2), .int .i64 ((rd_T58 l0 x17_1).f3), .int .i64 ((rd_T58 l0 x17_1).f4), .int .i64 ((rd_T58 l0 x17_1).f5), .slice A282_6 ((rd_T58 l0 x17_1).f6).length c282_6] 58 (0, 0)) b12_3 hb)
         have n3_ := Aside0.mk (below_step b12_0 hb)
         clear HO_4
         clear HO293
         clear BK283
         clear HB
         have HO_4 := n0_
         have HO293 := n1_
         have BK283 := n2_
         have HB := n3_
         clear n0_ n1_ n2_ n3_
         (try clear hb)
         (try clear hb2)
         (try clear hk)
         (try clear hi)
         refine hK.out _ _ ⟨(blk_cell BK283.out 0).trans rfl, (blk_cell BK283.out 1).trans rfl, (blk_cell BK283.out 2).trans rfl, (blk_cell BK283.out 3).trans rfl, (blk_cell BK283.out 4).trans rfl, (blk_cell BK283.out 5).trans rfl, (blk_cell BK283.out 6).trans rfl⟩ (fun hHeld => ?_)
         clear hK K
         refine norm_ (a' := ?_) ?_ ?_
         rotate_left
         ·show Act.put _ (some 31) _ = _
          simp only [Act.put, List.setIfInBounds_toArray, List.set_cons_zero, List.set_cons_succ, i64_w, i32_w]
          rfl
         refine pure_ (i := 4) (N := some 32) (v := ?_) (a' := ?_) #[true, true, true, true, true, false] rfl rfl (by kernel_rfl) (fun _ _ _ h => h) (Or.inl ⟨by rfl, ?_⟩) ?_ ?_
         rotate_left
         ·intro w'
          go_simp
          with_reducible rfl
         rotate_left
         ·simp only [Act.put, List.setIfInBounds_toArray, List.set_cons_zero, List.set_cons_succ, i64_w, i32_w]
          rfl
         refine pure_ (i := 5) (N := some 27) (v := ?_) (a' := ?_) #[true, true, true, true, true, true] rfl rfl (by kernel_rfl) (fun _ _ _ h => h) (Or.inl ⟨by rfl, ?_⟩) ?_ ?_
         rotate_left
         ·intro w'
          go_simp
          with_reducible rfl
         rotate_left
         ·simp only [Act.put, List.setIfInBounds_toArray, List.set_cons_zero, List.set_cons_succ, i64_w, i32_w]
          rfl
         refine done_ (by kernel_rfl) ?_
         obtain ⟨hcz23_0, hcz23_1, hcz23_2, hcz23_3, hcz23_4, hcz23_5, hcz23_6, hfz23_0, hfz23_1, hfz23_2, hfz23_3, hfz23_4, hfz23_5, hfz23_6⟩ := cells7 BK283.out
         try go_wp2_with (first | ((with_reducible refine gate_callee (f := 77) rfl ?_); refine goesL_ (some 34) rfl rfl Try.func77 (by kernel_rfl) rfl #[.agg #[.int .i64 ((rd_T58 l0 x17_1).f0), .int .i64 ((rd_T58 l0 x17_1).f1), .int .i64 ((rd_T58 l0 x17_1).f2), .int .i64 ((rd_T58 l0 x17_1).f3), .int .i64 ((rd_T58 l0 x17_1).f4), .int .i64 ((rd_T58 l0 x17_1).f5), .slice A282_6 ((rd_T58 l0 x17_1).f6).length c282_6]] rfl b12_1 ?_; (with_reducible refine (impl_Node_reads.calls ((rd_T58 l0 x17_1).f0) ((rd_T58 l0 x17_1).f1) ((rd_T58 l0 x17_1).f2) ((rd_T58 l0 x17_1).f3) ((rd_T58 l0 x17_1).f4) ((rd_T58 l0 x17_1).f5) _ _ ((rd_T58 l0 x17_1).f6) t295 _ ?side1 ?side2 A15.out).mono ?_); (case side1 => exact b12_5); (case side2 => exact HC282_6.out); rintro e w24 ⟨v296, rfl, ho0, hb⟩; refine ⟨_, rfl, ?_⟩; have n0_ := Aside0.mk (Kd.R_elder' b12_2 (Kd.R_base ho0) hb); have n1_ := Aside0.mk (Kd.V_elder' (by (with_reducible repeat (first | apply Kd.V_alloc | apply Kd.V_drewN | apply Kd.V_drew)); exact HO293.out) (Kd.R_base ho0) hb); have n2_ := Aside0.mk (Kd.R_lower (Kd.R_new' ho0 (Kd.R_lt b12_2)) (below_size b12_0)); have n3_ := Aside0.mk (blk_below (g := gb283) (o := .cells #[.int .i64 ((rd_T58 l0 x17_1).f0), .int .i64 ((rd_T58 l0 x17_1).f1), .int .i64 ((rd_T58 l0 x17_1).f2), .int .i64 ((rd_T58 l0 x17_1).f3), .int .i64 ((rd_T58 l0 x17_1).f4), .int .i64 ((rd_T58 l0 x17_1).f5), .slice A282_6 ((rd_T58 l0 x17_1).f6).length c282_6] 58 (0, 0)) b12_3 hb); have n4_ := Aside0.mk (below_step b12_0 hb); clear HO_4; clear HO293; clear BK283; clear HB; have HO_4 := n0_; have HO293 := n1_; have HO297 := n2_; have BK283 := n3_; have HB := n4_; clear n0_ n1_ n2_ n3_ n4_; (try clear hb); (try clear hb2); (try clear hk); (try clear hi); (try clear ho0); obtain ⟨Ao25, co25, eo25⟩ := Kd.R_slice HO297.out; subst eo25))
         go_loopg [36] k1 (fun kq v36 w' => ∃ (x36_2 : Int), v36 = .int .i64 x36_2 ∧ Aside0 (impl_looked.l1 kq l0 x4_1 x17_1 l0 (l0.length : Int) x17_1 t295 (t295.length : Int) x36_2 ((rd_T58 l0 x17_1).f0) ((rd_T58 l0 x17_1).f1) ((rd_T58 l0 x17_1).f2) ((rd_T58 l0 x17_1).f3) ((rd_T58 l0 x17_1).f4) ((rd_T58 l0 x17_1).f5) ((rd_T58 l0 x17_1).f6) = some (r1, r2)) ∧ Aside0 (kq ≤ k1) ∧ Aside0 (Kd.R (Kd.int .i64) 2 w' w.heap.size (fun k_ => some k_ ≠ ((.slice Ao25 t295.length co25) : Value).ownBlock) u4 x4_1) ∧ Aside0 (Kd.R (Kd.int .i64) 2 w' w.heap.size (fun k_ => some k_ ≠ (u4 : Value).ownBlock) (.slice Ao25 t295.length co25) t295) ∧ Aside0 (w'.heap[gb283]? = some (.cells #[.int .i64 ((rd_T58 l0 x17_1).f0), .int .i64 ((rd_T58 l0 x17_1).f1), .int .i64 ((rd_T58 l0 x17_1).f2), .int .i64 ((rd_T58 l0 x17_1).f3), .int .i64 ((rd_T58 l0 x17_1).f4), .int .i64 ((rd_T58 l0 x17_1).f5), (.slice A282_6 ((rd_T58 l0 x17_1).f6).length c282_6)] 58 (0, 0))) ∧ Aside0 (Below w.heap.size w w'))
         case atStart => exact ⟨(0), (by first | rfl | (simp; done) | (simp [*]; done)), H', ⟨Nat.le_refl _⟩, ⟨by (with_reducible repeat (first | apply Kd.R_alloc | apply Kd.R_drewN | apply Kd.R_drew)); exact Kd.R_mono HO_4.out (fun _ hk => hk.2)⟩, ⟨by (with_reducible repeat (first | apply Kd.R_alloc | apply Kd.R_drewN | apply Kd.R_drew)); exact Kd.R_mono HO297.out (fun _ hk => hk.2)⟩, ⟨by (with_reducible repeat (first | refine blk_drewN ?_ _ | refine blk_drew ?_ | refine blk_alloc ?_ _)); exact BK283.out⟩, ⟨by repeat (first | (with_reducible first | exact HB.out | apply below_alloc | apply pw_below_drewN | apply below_drew1 | refine below_set ?_ GE283.out) | exact HB.out)⟩⟩
         case round =>
          clear H'
          try clear c1
          try clear c2
          try clear p2
          try clear q2
          try clear hx2
          try clear c4
          try clear c7
          try clear c7b0
          try clear c8
          try clear c8b0
          try clear c9
          try clear c9b0
          try clear c11
          try clear c14
          try clear hcz17_0
          try clear hcz17_1
          try clear hcz17_2
          try clear hcz17_3
          try clear hcz17_4
          try clear hcz17_5
          try clear hcz17_6
          try clear hcz23_0
          try clear hcz23_1
          try clear hcz23_2
          try clear hcz23_3
          try clear hcz23_4
          try clear hcz23_5
          try clear hcz23_6
          try clear hfz17_0
          try clear hfz17_1
          try clear hfz17_2
          try clear hfz17_3
          try clear hfz17_4
          try clear hfz17_5
          try clear hfz17_6
          try clear hfz23_0
          try clear hfz23_1
          try clear hfz23_2
          try clear hfz23_3
          try clear hfz23_4
          try clear hfz23_5
          try clear hfz23_6
          try clear hx282_0
          try clear hx282_1
          try clear hx282_2
          try clear hx282_3
          try clear hx282_4
          try clear hx282_5
          try clear hx282_6
          try clear p2
          try clear p282
          try clear q282
          obtain ⟨x36_2, rfl, HA, HK2, HO_4, HO_34, BK283, HB⟩ := hrel
          cases gk with
          | zero => exact absurd HA.out (by simp [impl_looked.l1])
          | succ k2 =>
           have H := HA.out
           clear HA
           simp only [impl_looked.l1] at H
           by_cases c26 : x36_2 < (t295.length : Int)
           ·rw [if_pos c26] at H
            have c26b0 : decide (x36_2 < (t295.length : Int)) = true := decide_eq_true c26
            clear c26
            by_cases c27 : 0 ≤ x36_2
            ·rw [if_pos c27] at H
             have c27b0 : decide (0 ≤ x36_2) = true := decide_eq_true c27
             clear c27
             by_cases c28 : x36_2 < (t295.length : Int)
             ·rw [if_pos c28] at H
              have c28b0 : decide (x36_2 < (t295.length : Int)) = true := decide_eq_true c28
              clear c28
              replace H := Option.bind_eq_some_iff.mp H
              obtain ⟨t299, A290, H⟩ := H
              replace H : (if t299 = true then (if 0 ≤ (rd t295 x36_2) then (if (rd t295 x36_2) < (l0.length : Int) then (if ((rd_T58 l0 (rd t295 x36_2)).f0) = 12 then (some (([] : List Int), 3)) else (impl_looked.l1 k2 l0 x4_1 x17_1 l0 (l0.length : Int) x17_1 t295 (t295.length : Int) (wrap64 (x36_2 + 1)) ((rd_T58 l0 x17_1).f0) ((rd_T58 l0 x17_1).f1) ((rd_T58 l0 x17_1).f2) ((rd_T58 l0 x17_1).f3) ((rd_T58 l0 x17_1).f4) ((rd_T58 l0 x17_1).f5) ((rd_T58 l0 x17_1).f6))) else (none)) else (none)) else (some (([] : List Int), 3))) = some (r1, r2) := H
              have A29 := Aside0.mk A290
              clear A290
              by_cases c30 : t299 = true
              ·subst c30
               have H1 : (if 0 ≤ (rd t295 x36_2) then (if (rd t295 x36_2) < (l0.length : Int) then (if ((rd_T58 l0 (rd t295 x36_2)).f0) = 12 then (some (([] : List Int), 3)) else (impl_looked.l1 k2 l0 x4_1 x17_1 l0 (l0.length : Int) x17_1 t295 (t295.length : Int) (wrap64 (x36_2 + 1)) ((rd_T58 l0 x17_1).f0) ((rd_T58 l0 x17_1).f1) ((rd_T58 l0 x17_1).f2) ((rd_T58 l0 x17_1).f3) ((rd_T58 l0 x17_1).f4) ((rd_T58 l0 x17_1).f5) ((rd_T58 l0 x17_1).f6))) else (none)) else (none)) = some (r1, r2) := by rw [if_pos rfl] at H; exact H
               clear H
               have H := H1
               clear H1
               by_cases c31 : 0 ≤ (rd t295 x36_2)
               ·rw [if_pos c31] at H
                have c31b0 : decide (0 ≤ (rd t295 x36_2)) = true := decide_eq_true c31
                clear c31
                by_cases c32 : (rd t295 x36_2) < (l0.length : Int)
                ·rw [if_pos c32] at H
                 have c32b0 : decide ((rd t295 x36_2) < (l0.length : Int)) = true := decide_eq_true c32
                 clear c32
                 by_cases c33 : ((rd_T58 l0 (rd t295 x36_2)).f0) = 12
                 ·rw [if_pos c33] at H
                  have c33b0 : (((rd_T58 l0 (rd t295 x36_2)).f0) == 12) = true := beq_iff_eq.mpr c33
                  have c33b1 : (((rd_T58 l0 (rd t295 x36_2)).f0) != 12) = false := bne_eq_false_iff_eq.mpr c33
                  clear c33
                  simp only [Option.some.injEq, Prod.mk.injEq] at H
                  obtain ⟨rfl, rfl⟩ := H
                  have p298 : 0 ≤ (x36_2 : Int) := of_decide_eq_true b12_6
                  have q298 : x36_2 < (t295.length : Int) := of_decide_eq_true b12_6
                  obtain ⟨ad298, e298, hx298_0⟩ := Kd.at_int (Kd.R_reads' HO_34.out).2.2 x36_2 p298 q298
                  cases e298
                  replace p298 := eq_true p298
                  replace q298 := eq_true q298
                  go_wp2_with (first | ((with_reducible refine gate_callee (f := 47) rfl ?_); refine goesL_ (some 43) rfl rfl Try.func47 (by kernel_rfl) rfl #[.int .i64 (rd t295 x36_2), .int .i64 0, .int .i64 (wrap64 (x17_1 - 1))] rfl b12_1 ?_; (with_reducible refine (impl_in.calls (rd t295 x36_2) 0 (wrap64 (x17_1 - 1)) true _ A29.out).mono ?_); rintro e w' ⟨rfl, ⟨nd, rfl⟩⟩; refine ⟨_, rfl, ?_⟩; have p300 : 0 ≤ ((rd t295 x36_2) : Int) := of_decide_eq_true b12_6; have q300 : (rd t295 x36_2) < (l0.length : Int) := of_decide_eq_true b12_6; obtain ⟨ad300, A300_6, c300_6, e300, hx300_0, hx300_1, hx300_2, hx300_3, hx300_4, hx300_5, hx300_6, hl300_6, hi300_6⟩ := at_T58 HR0.out (rd t295 x36_2) p300 q300; obtain rfl : ad282 = ad300 := (by injection e300); replace hx300_0 := (HB.out.cell (World.block_lt_of_cell? w _ hx300_0)).trans hx300_0; replace hx300_1 := (HB.out.cell (World.block_lt_of_cell? w _ hx300_1)).trans hx300_1; replace hx300_2 := (HB.out.cell (World.block_lt_of_cell? w _ hx300_2)).trans hx300_2; replace hx300_3 := (HB.out.cell (World.block_lt_of_cell? w _ hx300_3)).trans hx300_3; replace hx300_4 := (HB.out.cell (World.block_lt_of_cell? w _ hx300_4)).trans hx300_4; replace hx300_5 := (HB.out.cell (World.block_lt_of_cell? w _ hx300_5)).trans hx300_5; replace hx300_6 := (HB.out.cell (World.block_lt_of_cell? w _ hx300_6)).trans hx300_6; have HR300_6 := Aside0.mk hi300_6; have HC300_6 := Aside0.mk hl300_6; clear hi300_6 hl300_6; replace p300 := eq_true p300; replace q300 := eq_true q300))
                  go_ret2
                  exact ⟨_, by first | rfl | (simp [errW_none, errW_some] <;> rfl) | (simp [*, errW_none, errW_some] <;> rfl), by first | exact Kd.R_nil _ _ _ _ _ | exact Kd.N_nil _ _ _ _ _ | exact Kd.V_nil _ _ _ _ _ | exact Kd.Q_nil _ _ _ _ _ | exact Kd.S_nil _ _ _ _ _, by repeat (first | (with_reducible first | exact HB.out | apply below_alloc | apply pw_below_drewN | apply below_drew1 | refine below_set ?_ GE283.out) | exact HB.out)⟩
                 ·rw [if_neg c33] at H
                  have c33b0 : (((rd_T58 l0 (rd t295 x36_2)).f0) == 12) = false := beq_eq_false_iff_ne.mpr c33
                  have c33b1 : (((rd_T58 l0 (rd t295 x36_2)).f0) != 12) = true := bne_iff_ne.mpr c33
                  have H' := Aside0.mk H
                  clear H
                  have p298 : 0 ≤ (x36_2 : Int) := of_decide_eq_true b12_6
                  have q298 : x36_2 < (t295.length : Int) := of_decide_eq_true b12_6
                  obtain ⟨ad298, e298, hx298_0⟩ := Kd.at_int (Kd.R_reads' HO_34.out).2.2 x36_2 p298 q298
                  cases e298
                  replace p298 := eq_true p298
                  replace q298 := eq_true q298
                  go_wp2_with (first | ((with_reducible refine gate_callee (f := 47) rfl ?_); refine goesL_ (some 43) rfl rfl Try.func47 (by kernel_rfl) rfl #[.int .i64 (rd t295 x36_2), .int .i64 0, .int .i64 (wrap64 (x17_1 - 1))] rfl b12_1 ?_; (with_reducible refine (impl_in.calls (rd t295 x36_2) 0 (wrap64 (x17_1 - 1)) true _ A29.out).mono ?_); rintro e w' ⟨rfl, ⟨nd, rfl⟩⟩; refine ⟨_, rfl, ?_⟩; have p300 : 0 ≤ ((rd t295 x36_2) : Int) := of_decide_eq_true b12_6; have q300 : (rd t295 x36_2) < (l0.length : Int) := of_decide_eq_true b12_6; obtain ⟨ad300, A300_6, c300_6, e300, hx300_0, hx300_1, hx300_2, hx300_3, hx300_4, hx300_5, hx300_6, hl300_6, hi300_6⟩ := at_T58 HR0.out (rd t295 x36_2) p300 q300; obtain rfl : ad282 = ad300 := (by injection e300); replace hx300_0 := (HB.out.cell (World.block_lt_of_cell? w _ hx300_0)).trans hx300_0; replace hx300_1 := (HB.out.cell (World.block_lt_of_cell? w _ hx300_1)).trans hx300_1; replace hx300_2 := (HB.out.cell (World.block_lt_of_cell? w _ hx300_2)).trans hx300_2; replace hx300_3 := (HB.out.cell (World.block_lt_of_cell? w _ hx300_3)).trans hx300_3; replace hx300_4 := (HB.out.cell (World.block_lt_of_cell? w _ hx300_4)).trans hx300_4; replace hx300_5 := (HB.out.cell (World.block_lt_of_cell? w _ hx300_5)).trans hx300_5; replace hx300_6 := (HB.out.cell (World.block_lt_of_cell? w _ hx300_6)).trans hx300_6; have HR300_6 := Aside0.mk hi300_6; have HC300_6 := Aside0.mk hl300_6; clear hi300_6 hl300_6; replace p300 := eq_true p300; replace q300 := eq_true q300))
                  go_roundg k2
                  case measure => have := HK1.out; have := HK2.out; omega
                  case rel => exact ⟨(wrap64 (x36_2 + 1)), (by first | rfl | (simp; done) | (simp [*]; done)), H', ⟨by have := HK1.out; have := HK2.out; omega⟩, ⟨by (with_reducible repeat (first | apply Kd.R_alloc | apply Kd.R_drewN | apply Kd.R_drew)); exact HO_4.out⟩, ⟨by (with_reducible repeat (first | apply Kd.R_alloc | apply Kd.R_drewN | apply Kd.R_drew)); exact HO_34.out⟩, ⟨by (with_reducible repeat (first | refine blk_drewN ?_ _ | refine blk_drew ?_ | refine blk_alloc ?_ _)); exact BK283.out⟩, ⟨by repeat (first | (with_reducible first | exact HB.out | apply below_alloc | apply pw_below_drewN | apply below_drew1 | refine below_set ?_ GE283.out) | exact HB.out)⟩⟩
                ·rw [if_neg c32] at H
                 exact absurd H (by simp)
               ·rw [if_neg c31] at H
                exact absurd H (by simp)
              ·replace c30 := Bool.eq_false_iff.mpr c30
               subst c30
               have H1 : (some (([] : List Int), 3)) = some (r1, r2) := by rw [if_neg (show ¬ (false = true) by decide)] at H; exact H
               clear H
               have H := H1
               clear H1
               simp only [Option.some.injEq, Prod.mk.injEq] at H
               obtain ⟨rfl, rfl⟩ := H
               have p298 : 0 ≤ (x36_2 : Int) := of_decide_eq_true b12_6
               have q298 : x36_2 < (t295.length : Int) := of_decide_eq_true b12_6
               obtain ⟨ad298, e298, hx298_0⟩ := Kd.at_int (Kd.R_reads' HO_34.out).2.2 x36_2 p298 q298
               cases e298
               replace p298 := eq_true p298
               replace q298 := eq_true q298
               go_wp2_with (first | ((with_reducible refine gate_callee (f := 47) rfl ?_); refine goesL_ (some 43) rfl rfl Try.func47 (by kernel_rfl) rfl #[.int .i64 (rd t295 x36_2), .int .i64 0, .int .i64 (wrap64 (x17_1 - 1))] rfl b12_1 ?_; (with_reducible refine (impl_in.calls (rd t295 x36_2) 0 (wrap64 (x17_1 - 1)) false _ A29.out).mono ?_); rintro e w' ⟨rfl, ⟨nd, rfl⟩⟩; refine ⟨_, rfl, ?_⟩))
               go_ret2
               exact ⟨_, by first | rfl | (simp [errW_none, errW_some] <;> rfl) | (simp [*, errW_none, errW_some] <;> rfl), by first | exact Kd.R_nil _ _ _ _ _ | exact Kd.N_nil _ _ _ _ _ | exact Kd.V_nil _ _ _ _ _ | exact Kd.Q_nil _ _ _ _ _ | exact Kd.S_nil _ _ _ _ _, by repeat (first | (with_reducible first | exact HB.out | apply below_alloc | apply pw_below_drewN | apply below_drew1 | refine below_set ?_ GE283.out) | exact HB.out)⟩
             ·rw [if_neg c28] at H
              exact absurd H (by simp)
            ·rw [if_neg c27] at H
             exact absurd H (by simp)
           ·rw [if_neg c26] at H
            have c26b0 : decide (x36_2 < (t295.length : Int)) = false := decide_eq_false c26
            clear c26
            replace H := Option.bind_eq_some_iff.mp H
            obtain ⟨t301, A340, H⟩ := H
            replace H : (if t301 = 0 then ((impl_Node_width.f ((rd_T58 l0 x17_1).f0) ((rd_T58 l0 x17_1).f1) ((rd_T58 l0 x17_1).f2) ((rd_T58 l0 x17_1).f3) ((rd_T58 l0 x17_1).f4) ((rd_T58 l0 x17_1).f5) ((rd_T58 l0 x17_1).f6) x4_1).bind fun t302 => (if x4_1.length < 17592186044416 then (impl_looked.l0 k2 l0 (x4_1 ++ [t302]) l0 (l0.length : Int) (wrap64 (x17_1 + 1))) else (none))) else (some (([] : List Int), t301))) = some (r1, r2) := H
            have A34 := Aside0.mk A340
            clear A340
            by_cases c35 : t301 = 0
            ·rw [if_pos c35] at H
             have c35b0 : (t301 == 0) = true := beq_iff_eq.mpr c35
             have c35b1 : (t301 != 0) = false := bne_eq_false_iff_eq.mpr c35
             clear c35
             replace H := Option.bind_eq_some_iff.mp H
             obtain ⟨t302, A360, H⟩ := H
             replace H : (if x4_1.length < 17592186044416 then (impl_looked.l0 k2 l0 (x4_1 ++ [t302]) l0 (l0.length : Int) (wrap64 (x17_1 + 1))) else (none)) = some (r1, r2) := H
             have A36 := Aside0.mk A360
             clear A360
             by_cases c37 : x4_1.length < 17592186044416
             ·rw [if_pos c37] at H
              have LMc37 := Aside0.mk c37
              clear c37
              obtain ⟨y303, hy303⟩ : ∃ y_ : List Int, y_ = (x4_1 ++ [t302]) := ⟨_, rfl⟩
              replace H : (impl_looked.l0 k2 l0 y303 l0 (l0.length : Int) (wrap64 (x17_1 + 1))) = some (r1, r2) := by first | (rw [hy303]; with_reducible exact H) | (have H2_ := (Option.bind_some _ _).symm.trans H; rw [hy303]; with_reducible exact H2_) | (have H2_ := (Option.bind_some _ _).symm.trans H; with_reducible exact H2_) | with_reducible exact H | (rw [hy303]; exact H) | exact H
              have Ny303 := Aside0.mk hy303
              clear hy303
              have H' := Aside0.mk H
              clear H
              obtain ⟨hcz38_0, hcz38_1, hcz38_2, hcz38_3, hcz38_4, hcz38_5, hcz38_6, hfz38_0, hfz38_1, hfz38_2, hfz38_3, hfz38_4, hfz38_5, hfz38_6⟩ := cells7 BK283.out
              obtain ⟨Ao39, co39, eo39⟩ := Kd.R_slice HO_4.out
              subst eo39
              go_wp2_with (first | ((with_reducible refine gate_callee (f := 78) rfl ?_); refine goesL_ (some 56) rfl rfl Try.func78 (by kernel_rfl) rfl #[.agg #[.int .i64 ((rd_T58 l0 x17_1).f0), .int .i64 ((rd_T58 l0 x17_1).f1), .int .i64 ((rd_T58 l0 x17_1).f2), .int .i64 ((rd_T58 l0 x17_1).f3), .int .i64 ((rd_T58 l0 x17_1).f4), .int .i64 ((rd_T58 l0 x17_1).f5), .slice A282_6 ((rd_T58 l0 x17_1).f6).length c282_6], .slice Ao39 x4_1.length co39] rfl b12_1 ?_; (with_reducible refine (impl_Node_fault.calls k2 ((rd_T58 l0 x17_1).f0) ((rd_T58 l0 x17_1).f1) ((rd_T58 l0 x17_1).f2) ((rd_T58 l0 x17_1).f3) ((rd_T58 l0 x17_1).f4) ((rd_T58 l0 x17_1).f5) _ _ ((rd_T58 l0 x17_1).f6) _ _ x4_1 t301 _ ?side1 ?side2 ?side3 ?side4 A34.out).mono ?_); (case side1 => exact b12_5); (case side2 => exact HC282_6.out); (case side3 => exact (by repeat (first | exact (Kd.R_reads' HO_4.out).2.2 | (with_reducible refine Kd.C_alloc ?_ _) | (with_reducible refine Kd.C_drewN ?_ _) | (with_reducible refine Kd.C_drew ?_)))); (case side4 => exact (Kd.R_reads' HO_4.out).2.1); rintro e w40 ⟨rfl, hb⟩; refine ⟨_, rfl, ?_⟩; have n0_ := Aside0.mk (Kd.R_below b12_2 hb); have n1_ := Aside0.mk (Kd.R_below (by (with_reducible repeat (first | apply Kd.R_alloc | apply Kd.R_drewN | apply Kd.R_drew)); exact HO_34.out) hb); have n2_ := Aside0.mk (blk_below (g := gb283) (o := .cells #[.int .i64 ((rd_T58 l0 x17_1).f0), .int .i64 ((rd_T58 l0 x17_1).f1), .int .i64 ((rd_T58 l0 x17_1).f2), .int .i64 ((rd_T58 l0 x17_1).f3), .int .i64 ((rd_T58 l0 x17_1).f4), .int .i64 ((rd_T58 l0 x17_1).f5), .slice A282_6 ((rd_T58 l0 x17_1).f6).length c282_6] 58 (0, 0)) b12_3 hb); have n3_ := Aside0.mk (below_step b12_0 hb); clear HO_4; clear HO_34; clear BK283; clear HB; have HO_4 := n0_; have HO_34 := n1_; have BK283 := n2_; have HB := n3_; clear n0_ n1_ n2_ n3_; (try clear hb); (try clear hb2); (try clear hk); (try clear hi); obtain ⟨hcz41_0, hcz41_1, hcz41_2, hcz41_3, hcz41_4, hcz41_5, hcz41_6, hfz41_0, hfz41_1, hfz41_2, hfz41_3, hfz41_4, hfz41_5, hfz41_6⟩ := cells7 BK283.out) | ((with_reducible refine gate_callee (f := 79) rfl ?_); refine goesL_ (some 63) rfl rfl Try.func79 (by kernel_rfl) rfl #[.agg #[.int .i64 ((rd_T58 l0 x17_1).f0), .int .i64 ((rd_T58 l0 x17_1).f1), .int .i64 ((rd_T58 l0 x17_1).f2), .int .i64 ((rd_T58 l0 x17_1).f3), .int .i64 ((rd_T58 l0 x17_1).f4), .int .i64 ((rd_T58 l0 x17_1).f5), .slice A282_6 ((rd_T58 l0 x17_1).f6).length c282_6], .slice Ao39 x4_1.length co39] rfl b12_1 ?_; (with_reducible refine (impl_Node_width.calls ((rd_T58 l0 x17_1).f0) ((rd_T58 l0 x17_1).f1) ((rd_T58 l0 x17_1).f2) ((rd_T58 l0 x17_1).f3) ((rd_T58 l0 x17_1).f4) ((rd_T58 l0 x17_1).f5) _ _ ((rd_T58 l0 x17_1).f6) _ _ x4_1 t302 _ ?side1 ?side2 ?side3 ?side4 A36.out).mono ?_); (case side1 => exact b12_5); (case side2 => exact HC282_6.out); (case side3 => exact (by repeat (first | exact (Kd.R_reads' HO_4.out).2.2 | (with_reducible refine Kd.C_alloc ?_ _) | (with_reducible refine Kd.C_drewN ?_ _) | (with_reducible refine Kd.C_drew ?_)))); (case side4 => exact (Kd.R_reads' HO_4.out).2.1); rintro e w42 ⟨rfl, hb⟩; refine ⟨_, rfl, ?_⟩; have n0_ := Aside0.mk (Kd.R_below b12_2 hb); have n1_ := Aside0.mk (Kd.R_below (by (with_reducible repeat (first | apply Kd.R_alloc | apply Kd.R_drewN | apply Kd.R_drew)); exact HO_34.out) hb); have n2_ := Aside0.mk (blk_below (g := gb283) (o := .cells #[.int .i64 ((rd_T58 l0 x17_1).f0), .int .i64 ((rd_T58 l0 x17_1).f1), .int .i64 ((rd_T58 l0 x17_1).f2), .int .i64 ((rd_T58 l0 x17_1).f3), .int .i64 ((rd_T58 l0 x17_1).f4), .int .i64 ((rd_T58 l0 x17_1).f5), .slice A282_6 ((rd_T58 l0 x17_1).f6).length c282_6] 58 (0, 0)) b12_3 hb); have n3_ := Aside0.mk (below_step b12_0 hb); clear HO_4; clear HO_34; clear BK283; clear HB; have HO_4 := n0_; have HO_34 := n1_; have BK283 := n2_; have HB := n3_; clear n0_ n1_ n2_ n3_; (try clear hb); (try clear hb2); (try clear hk); (try clear hi)) | ((with_reducible refine gate_builtin (b := .append) (xs := #[.tmp 60, .tmp 64]) rfl ?_); at_builtin; refine Kd.R_append (Kd.int .i64) (w0 := w) w.heap.size rfl (.tmp 60) (.tmp 64) 40 2 (.int .i64 0) 8 rfl Try.underlying40 info2 rfl (by decide) (by omega) (.slice Ao39 x4_1.length co39) x4_1 t302 [.int .i64 t302] (fun k_ => some k_ ≠ (.slice Ao25 t295.length co25 : Value).ownBlock) (fun _ => False) rfl rfl ?aP (fun _ hk => hk.elim) ?aF ?aO ?aB ?aS ?aL ?_; (case aP => exact rfl); (case aB => exact (by exact b12_0)); (case aF => exact (by exact (fun k_ hk => Kd.fresh' (Kd.R_lt (by (with_reducible repeat (first | apply Kd.R_alloc | apply Kd.R_drewN | apply Kd.R_drew)); exact HO_34.out)) k_ hk))); (case aO => exact (by exact b12_2)); (case aS => exact (by exact (below_size b12_0))); (case aL => have := LMc37.out; omega); intro v304 w43 ho hb hg hat; rw [← Ny303.out] at ho; have n0_ := Aside0.mk (Kd.R_after (ok := (fun _ => True)) (by (with_reducible repeat (first | apply Kd.R_alloc | apply Kd.R_drewN | apply Kd.R_drew)); exact Kd.R_mono HO_34.out (fun _ hk => ⟨trivial, hk⟩)) hg hat); have n1_ := Aside0.mk (blk_grown (g := gb283) (o := .cells #[.int .i64 ((rd_T58 l0 x17_1).f0), .int .i64 ((rd_T58 l0 x17_1).f1), .int .i64 ((rd_T58 l0 x17_1).f2), .int .i64 ((rd_T58 l0 x17_1).f3), .int .i64 ((rd_T58 l0 x17_1).f4), .int .i64 ((rd_T58 l0 x17_1).f5), .slice A282_6 ((rd_T58 l0 x17_1).f6).length c282_6] 58 (0, 0)) b12_3 hg (Kd.R_ne HO_4.out BK283.out (by decide))); have n2_ := Aside0.mk (hb); have n3_ := Aside0.mk (ho); clear HO_34; clear BK283; clear HB; clear HO_4; have HO_34 := n0_; have BK283 := n1_; have HB := n2_; have HO305 := n3_; clear n0_ n1_ n2_ n3_; clear ho hb hg hat))
              go_roundg k2
              case measure => have := HK1.out; have := HK2.out; omega
              case rel => exact ⟨(y303), (wrap64 (x17_1 + 1)), (by first | rfl | (simp; done) | (simp [*]; done)), H', ⟨by have := HK1.out; have := HK2.out; omega⟩, ⟨by (with_reducible repeat (first | apply Kd.R_alloc | apply Kd.R_drewN | apply Kd.R_drew)); exact Kd.R_mono HO305.out (fun _ hk => trivial)⟩, ⟨by repeat (first | (with_reducible first | exact HB.out | apply below_alloc | apply pw_below_drewN | apply below_drew1 | refine below_set ?_ GE283.out) | exact HB.out)⟩⟩
             ·rw [if_neg c37] at H
              exact absurd H (by simp)
            ·rw [if_neg c35] at H
             have c35b0 : (t301 == 0) = false := beq_eq_false_iff_ne.mpr c35
             have c35b1 : (t301 != 0) = true := bne_iff_ne.mpr c35
             simp only [Option.some.injEq, Prod.mk.injEq] at H
             obtain ⟨rfl, rfl⟩ := H
             obtain ⟨hcz44_0, hcz44_1, hcz44_2, hcz44_3, hcz44_4, hcz44_5, hcz44_6, hfz44_0, hfz44_1, hfz44_2, hfz44_3, hfz44_4, hfz44_5, hfz44_6⟩ := cells7 BK283.out
             obtain ⟨Ao45, co45, eo45⟩ := Kd.R_slice HO_4.out
             subst eo45
             go_wp2_with (first | ((with_reducible refine gate_callee (f := 78) rfl ?_); refine goesL_ (some 56) rfl rfl Try.func78 (by kernel_rfl) rfl #[.agg #[.int .i64 ((rd_T58 l0 x17_1).f0), .int .i64 ((rd_T58 l0 x17_1).f1), .int .i64 ((rd_T58 l0 x17_1).f2), .int .i64 ((rd_T58 l0 x17_1).f3), .int .i64 ((rd_T58 l0 x17_1).f4), .int .i64 ((rd_T58 l0 x17_1).f5), .slice A282_6 ((rd_T58 l0 x17_1).f6).length c282_6], .slice Ao45 x4_1.length co45] rfl b12_1 ?_; (with_reducible refine (impl_Node_fault.calls k2 ((rd_T58 l0 x17_1).f0) ((rd_T58 l0 x17_1).f1) ((rd_T58 l0 x17_1).f2) ((rd_T58 l0 x17_1).f3) ((rd_T58 l0 x17_1).f4) ((rd_T58 l0 x17_1).f5) _ _ ((rd_T58 l0 x17_1).f6) _ _ x4_1 t301 _ ?side1 ?side2 ?side3 ?side4 A34.out).mono ?_); (case side1 => exact b12_5); (case side2 => exact HC282_6.out); (case side3 => exact (by repeat (first | exact (Kd.R_reads' HO_4.out).2.2 | (with_reducible refine Kd.C_alloc ?_ _) | (with_reducible refine Kd.C_drewN ?_ _) | (with_reducible refine Kd.C_drew ?_)))); (case side4 => exact (Kd.R_reads' HO_4.out).2.1); rintro e w46 ⟨rfl, hb⟩; refine ⟨_, rfl, ?_⟩; have n0_ := Aside0.mk (Kd.R_below b12_2 hb); have n1_ := Aside0.mk (Kd.R_below (by (with_reducible repeat (first | apply Kd.R_alloc | apply Kd.R_drewN | apply Kd.R_drew)); exact HO_34.out) hb); have n2_ := Aside0.mk (blk_below (g := gb283) (o := .cells #[.int .i64 ((rd_T58 l0 x17_1).f0), .int .i64 ((rd_T58 l0 x17_1).f1), .int .i64 ((rd_T58 l0 x17_1).f2), .int .i64 ((rd_T58 l0 x17_1).f3), .int .i64 ((rd_T58 l0 x17_1).f4), .int .i64 ((rd_T58 l0 x17_1).f5), .slice A282_6 ((rd_T58 l0 x17_1).f6).length c282_6] 58 (0, 0)) b12_3 hb); have n3_ := Aside0.mk (below_step b12_0 hb); clear HO_4; clear HO_34; clear BK283; clear HB; have HO_4 := n0_; have HO_34 := n1_; have BK283 := n2_; have HB := n3_; clear n0_ n1_ n2_ n3_; (try clear hb); (try clear hb2); (try clear hk); (try clear hi)))
             go_ret2
             exact ⟨_, by first | rfl | (simp [errW_none, errW_some] <;> rfl) | (simp [*, errW_none, errW_some] <;> rfl), by first | exact Kd.R_nil _ _ _ _ _ | exact Kd.N_nil _ _ _ _ _ | exact Kd.V_nil _ _ _ _ _ | exact Kd.Q_nil _ _ _ _ _ | exact Kd.S_nil _ _ _ _ _, by repeat (first | (with_reducible first | exact HB.out | apply below_alloc | apply pw_below_drewN | apply below_drew1 | refine below_set ?_ GE283.out) | exact HB.out)⟩
        ·replace c14 := Bool.eq_false_iff.mpr c14
         subst c14
         have H1 : (some (([] : List Int), 1)) = some (r1, r2) := by rw [if_neg (show ¬ (false = true) by decide)] at H; exact H
         clear H
         have H := H1
         clear H1
         simp only [Option.some.injEq, Prod.mk.injEq] at H
         obtain ⟨rfl, rfl⟩ := H
         have p282 : 0 ≤ (x17_1 : Int) := of_decide_eq_true b12_6
         have q282 : x17_1 < (l0.length : Int) := of_decide_eq_true b12_6
         obtain ⟨ad282, A282_6, c282_6, e282, hx282_0, hx282_1, hx282_2, hx282_3, hx282_4, hx282_5, hx282_6, hl282_6, hi282_6⟩ := at_T58 HR0.out x17_1 p282 q282
         cases e282
         replace hx282_0 := (HB.out.cell (World.block_lt_of_cell? w _ hx282_0)).trans hx282_0
         replace hx282_1 := (HB.out.cell (World.block_lt_of_cell? w _ hx282_1)).trans hx282_1
         replace hx282_2 := (HB.out.cell (World.block_lt_of_cell? w _ hx282_2)).trans hx282_2
         replace hx282_3 := (HB.out.cell (World.block_lt_of_cell? w _ hx282_3)).trans hx282_3
         replace hx282_4 := (HB.out.cell (World.block_lt_of_cell? w _ hx282_4)).trans hx282_4
         replace hx282_5 := (HB.out.cell (World.block_lt_of_cell? w _ hx282_5)).trans hx282_5
         replace hx282_6 := (HB.out.cell (World.block_lt_of_cell? w _ hx282_6)).trans hx282_6
         have HR282_6 := Aside0.mk hi282_6
         have HC282_6 := Aside0.mk hl282_6
         clear hi282_6 hl282_6
         replace p282 := eq_true p282
         replace q282 := eq_true q282
         try go_wp2_with (first | ((with_reducible refine gate_dst (N := 6) rfl ?_); refine box_event ?hg (N := 6) ?hd (cs := #[.int .i64 0, .int .i64 0, .int .i64 0, .int .i64 0, .int .i64 0, .int .i64 0, .slice none 0 0]) (t := 58) ?hr ?_; (case hd => rfl); (case hg => rfl); (case hr => first | (go_simp; done) | (go_simp; rfl)); intro gb283 hg w47 hbox hb; have n0_ := Aside0.mk (Kd.R_below b12_2 hb); have n1_ := Aside0.mk (below_step b12_4 hb); have n2_ := Aside0.mk (hbox); have n3_ := Aside0.mk ((by rw [hg]; exact (below_size b12_4) : w.heap.size ≤ gb283)); have n4_ := Aside0.mk ((by rw [hg]; exact (below_size b12_4) : w.heap.size ≤ gb283)); clear HO_4; clear HB; have HO_4 := n0_; have HB := n1_; have BK283 := n2_; have GW283 := n3_; have GE283 := n4_; clear n0_ n1_ n2_ n3_ n4_; clear hb hbox hg; obtain ⟨hcz48_0, hcz48_1, hcz48_2, hcz48_3, hcz48_4, hcz48_5, hcz48_6, hfz48_0, hfz48_1, hfz48_2, hfz48_3, hfz48_4, hfz48_5, hfz48_6⟩ := cells7 BK283.out) | ((with_reducible refine gate_callee (f := 47) rfl ?_); refine goesL_ (some 25) rfl rfl Try.func47 (by kernel_rfl) rfl #[.int .i64 ((rd_T58 l0 x17_1).f0), .int .i64 1, .int .i64 12] rfl b12_1 ?_; (with_reducible refine (impl_in.calls ((rd_T58 l0 x17_1).f0) 1 12 true _ A10.out).mono ?_); rintro e w' ⟨rfl, ⟨nd, rfl⟩⟩; refine ⟨_, rfl, ?_⟩))
         have n0_ : Aside0 (Kd.R (Kd.int .i64) 2 (((((((w47.setCell ⟨gb283, 0, none⟩ (.int .i64 ((rd_T58 l0 x17_1).f0))).setCell ⟨gb283, 1, none⟩ (.int .i64 ((rd_T58 l0 x17_1).f1))).setCell ⟨gb283, 2, none⟩ (.int .i64 ((rd_T58 l0 x17_1).f2))).setCell ⟨gb283, 3, none⟩ (.int .i64 ((rd_T58 l0 x17_1).f3))).setCell ⟨gb283, 4, none⟩ (.int .i64 ((rd_T58 l0 x17_1).f4))).setCell ⟨gb283, 5, none⟩ (.int .i64 ((rd_T58 l0 x17_1).f5))).setCell ⟨gb283, 6, none⟩ (.slice A282_6 ((rd_T58 l0 x17_1).f6).length c282_6)) w.heap.size (fun _ => True) u4 x4_1) := ⟨by (with_reducible repeat (first | apply Kd.R_alloc | apply Kd.R_drewN | apply Kd.R_drew)); exact Kd.R_mono (Kd.R_far (p := ⟨gb283, 6, none⟩) (Kd.R_far (p := ⟨gb283, 5, none⟩) (Kd.R_far (p := ⟨gb283, 4, none⟩) (Kd.R_far (p := ⟨gb283, 3, none⟩) (Kd.R_far (p := ⟨gb283, 2, none⟩) (Kd.R_far (p := ⟨gb283, 1, none⟩) (Kd.R_far (p := ⟨gb283, 0, none⟩) (Kd.R_types HO_4.out BK283.out (by decide)) (fun _ hk => hk.2) (.int .i64 ((rd_T58 l0 x17_1).f0))) (fun _ hk => hk.2) (.int .i64 ((rd_T58 l0 x17_1).f1))) (fun _ hk => hk.2) (.int .i64 ((rd_T58 l0 x17_1).f2))) (fun _ hk => hk.2) (.int .i64 ((rd_T58 l0 x17_1).f3))) (fun _ hk => hk.2) (.int .i64 ((rd_T58 l0 x17_1).f4))) (fun _ hk => hk.2) (.int .i64 ((rd_T58 l0 x17_1).f5))) (fun _ hk => hk.2) (.slice A282_6 ((rd_T58 l0 x17_1).f6).length c282_6)) (fun _ hk => trivial)⟩
         have n1_ : Aside0 ((((((((w47.setCell ⟨gb283, 0, none⟩ (.int .i64 ((rd_T58 l0 x17_1).f0))).setCell ⟨gb283, 1, none⟩ (.int .i64 ((rd_T58 l0 x17_1).f1))).setCell ⟨gb283, 2, none⟩ (.int .i64 ((rd_T58 l0 x17_1).f2))).setCell ⟨gb283, 3, none⟩ (.int .i64 ((rd_T58 l0 x17_1).f3))).setCell ⟨gb283, 4, none⟩ (.int .i64 ((rd_T58 l0 x17_1).f4))).setCell ⟨gb283, 5, none⟩ (.int .i64 ((rd_T58 l0 x17_1).f5))).setCell ⟨gb283, 6, none⟩ (.slice A282_6 ((rd_T58 l0 x17_1).f6).length c282_6)).heap[gb283]? = some (.cells #[.int .i64 ((rd_T58 l0 x17_1).f0), .int .i64 ((rd_T58 l0 x17_1).f1), .int .i64 ((rd_T58 l0 x17_1).f2), .int .i64 ((rd_T58 l0 x17_1).f3), .int .i64 ((rd_T58 l0 x17_1).f4), .int .i64 ((rd_T58 l0 x17_1).f5), .slice A282_6 ((rd_T58 l0 x17_1).f6).length c282_6] 58 (0, 0))) := ⟨by (with_reducible repeat (first | refine blk_drewN ?_ _ | refine blk_drew ?_ | refine blk_alloc ?_ _)); refine blk_put (cs := #[.int .i64 ((rd_T58 l0 x17_1).f0), .int .i64 ((rd_T58 l0 x17_1).f1), .int .i64 ((rd_T58 l0 x17_1).f2), .int .i64 ((rd_T58 l0 x17_1).f3), .int .i64 ((rd_T58 l0 x17_1).f4), .int .i64 ((rd_T58 l0 x17_1).f5), .slice none 0 0]) ?_ 6 _ rfl; (with_reducible repeat (first | refine blk_drewN ?_ _ | refine blk_drew ?_ | refine blk_alloc ?_ _)); refine blk_put (cs := #[.int .i64 ((rd_T58 l0 x17_1).f0), .int .i64 ((rd_T58 l0 x17_1).f1), .int .i64 ((rd_T58 l0 x17_1).f2), .int .i64 ((rd_T58 l0 x17_1).f3), .int .i64 ((rd_T58 l0 x17_1).f4), .int .i64 0, .slice none 0 0]) ?_ 5 _ rfl; (with_reducible repeat (first | refine blk_drewN ?_ _ | refine blk_drew ?_ | refine blk_alloc ?_ _)); refine blk_put (cs := #[.int .i64 ((rd_T58 l0 x17_1).f0), .int .i64 ((rd_T58 l0 x17_1).f1), .int .i64 ((rd_T58 l0 x17_1).f2), .int .i64 ((rd_T58 l0 x17_1).f3), .int .i64 0, .int .i64 0, .slice none 0 0]) ?_ 4 _ rfl; (with_reducible repeat (first | refine blk_drewN ?_ _ | refine blk_drew ?_ | refine blk_alloc ?_ _)); refine blk_put (cs := #[.int .i64 ((rd_T58 l0 x17_1).f0), .int .i64 ((rd_T58 l0 x17_1).f1), .int .i64 ((rd_T58 l0 x17_1).f2), .int .i64 0, .int .i64 0, .int .i64 0, .slice none 0 0]) ?_ 3 _ rfl; (with_reducible repeat (first | refine blk_drewN ?_ _ | refine blk_drew ?_ | refine blk_alloc ?_ _)); refine blk_put (cs := #[.int .i64 ((rd_T58 l0 x17_1).f0), .int .i64 ((rd_T58 l0 x17_1).f1), .int .i64 0, .int .i64 0, .int .i64 0, .int .i64 0, .slice none 0 0]) ?_ 2 _ rfl; (with_reducible repeat (first | refine blk_drewN ?_ _ | refine blk_drew ?_ | refine blk_alloc ?_ _)); refine blk_put (cs := #[.int .i64 ((rd_T58 l0 x17_1).f0), .int .i64 0, .int .i64 0, .int .i64 0, .int .i64 0, .int .i64 0, .slice none 0 0]) ?_ 1 _ rfl; (with_reducible repeat (first | refine blk_drewN ?_ _ | refine blk_drew ?_ | refine blk_alloc ?_ _)); refine blk_put (cs := #[.int .i64 0, .int .i64 0, .int .i64 0, .int .i64 0, .int .i64 0, .int .i64 0, .slice none 0 0]) ?_ 0 _ rfl; (with_reducible repeat (first | refine blk_drewN ?_ _ | refine blk_drew ?_ | refine blk_alloc ?_ _)); exact BK283.out⟩
         have n2_ : Aside0 (Below w.heap.size w (((((((w47.setCell ⟨gb283, 0, none⟩ (.int .i64 ((rd_T58 l0 x17_1).f0))).setCell ⟨gb283, 1, none⟩ (.int .i64 ((rd_T58 l0 x17_1).f1))).setCell ⟨gb283, 2, none⟩ (.int .i64 ((rd_T58 l0 x17_1).f2))).setCell ⟨gb283, 3, none⟩ (.int .i64 ((rd_T58 l0 x17_1).f3))).setCell ⟨gb283, 4, none⟩ (.int .i64 ((rd_T58 l0 x17_1).f4))).setCell ⟨gb283, 5, none⟩ (.int .i64 ((rd_T58 l0 x17_1).f5))).setCell ⟨gb283, 6, none⟩ (.slice A282_6 ((rd_T58 l0 x17_1).f6).length c282_6))) := ⟨by repeat (first | (with_reducible first | exact HB.out | apply below_alloc | apply pw_below_drewN | apply below_drew1 | refine below_set ?_ GE283.out) | exact HB.out)⟩
         (try clear HO_4)
         (try clear BK283)
         (try clear HB)
         generalize (((((((w47.setCell ⟨gb283, 0, none⟩ (.int .i64 ((rd_T58 l0 x17_1).f0))).setCell ⟨gb283, 1, none⟩ (.int .i64 ((rd_T58 l0 x17_1).f1))).setCell ⟨gb283, 2, none⟩ (.int .i64 ((rd_T58 l0 x17_1).f2))).setCell ⟨gb283, 3, none⟩ (.int .i64 ((rd_T58 l0 x17_1).f3))).setCell ⟨gb283, 4, none⟩ (.int .i64 ((rd_T58 l0 x17_1).f4))).setCell ⟨gb283, 5, none⟩ (.int .i64 ((rd_T58 l0 x17_1).f5))).setCell ⟨gb283, 6, none⟩ (.slice A282_6 ((rd_T58 l0 x17_1).f6).length c282_6)) = w49 at n0_ n1_ n2_ ⊢
         have HO_4 := n0_
         have BK283 := n1_
         have HB := n2_
         clear n0_ n1_ n2_
         (try simp only [World.drewN_drewN]); (try (rw [drewN_self w49]; generalize hq_ : World.drewN w49 _ = w49; have n0_ : Aside0 (Kd.R (Kd.int .i64) 2 w49 w.heap.size (fun _ => True) u4 x4_1) := ⟨by rw [← hq_]; exact b12_2⟩; have n1_ : Aside0 (w49.heap[gb283]? = some (.cells #[.int .i64 ((rd_T58 l0 x17_1).f0), .int .i64 ((rd_T58 l0 x17_1).f1), .int .i64 ((rd_T58 l0 x17_1).f2), .int .i64 ((rd_T58 l0 x17_1).f3), .int .i64 ((rd_T58 l0 x17_1).f4), .int .i64 ((rd_T58 l0 x17_1).f5), .slice A282_6 ((rd_T58 l0 x17_1).f6).length c282_6] 58 (0, 0))) := ⟨by rw [← hq_]; exact b12_3⟩; have n2_ : Aside0 (Below w.heap.size w w49) := ⟨by rw [← hq_]; exact b12_0⟩; clear HO_4 BK283 HB hq_; have HO_4 := n0_; have BK283 := n1_; have HB := n2_; clear n0_ n1_ n2_))
         have n0_ := Aside0.mk (Kd.R_drew HO_4.out)
         have n1_ := Aside0.mk (blk_drew BK283.out)
         have n2_ := Aside0.mk (below_drew1 HB.out)
         clear HO_4
         clear BK283
         clear HB
         have HO_4 := n0_
         have BK283 := n1_
         have HB := n2_
         clear n0_ n1_ n2_
         refine start_ (n := 6) (S := fun w' => w'.cell? ⟨gb283, 0, none⟩ = some (.int .i64 ((rd_T58 l0 x17_1).f0)) ∧ w'.cell? ⟨gb283, 1, none⟩ = some (.int .i64 ((rd_T58 l0 x17_1).f1)) ∧ w'.cell? ⟨gb283, 2, none⟩ = some (.int .i64 ((rd_T58 l0 x17_1).f2)) ∧ w'.cell? ⟨gb283, 3, none⟩ = some (.int .i64 ((rd_T58 l0 x17_1).f3)) ∧ w'.cell? ⟨gb283, 4, none⟩ = some (.int .i64 ((rd_T58 l0 x17_1).f4)) ∧ w'.cell? ⟨gb283, 5, none⟩ = some (.int .i64 ((rd_T58 l0 x17_1).f5)) ∧ w'.cell? ⟨gb283, 6, none⟩ = some (.slice A282_6 ((rd_T58 l0 x17_1).f6).length c282_6)) (ds := []) #[false, false, false, false, false, false] (by kernel_rfl) rfl rfl ⟨(blk_cell BK283.out 0).trans rfl, (blk_cell BK283.out 1).trans rfl, (blk_cell BK283.out 2).trans rfl, (blk_cell BK283.out 3).trans rfl, (blk_cell BK283.out 4).trans rfl, (blk_cell BK283.out 5).trans rfl, (blk_cell BK283.out 6).trans rfl⟩ (fun hHeld => ?_)
         generalize w49.drew = w50 at HO_4 BK283 HB hHeld ⊢
         refine take_ (i := 0) (N := some 28) (v := ?_) (a' := ?_) #[true, false, false, false, false, false] rfl rfl (by kernel_rfl) (fun _ _ _ h => h) (Or.inl ⟨by rfl, ?_⟩) hHeld ?_ ?_
         rotate_left
         ·rintro w' ⟨s0, s1, s2, s3, s4, s5, s6⟩
          go_simp
          with_reducible rfl
         rotate_left
         ·simp only [Act.put, List.setIfInBounds_toArray, List.set_cons_zero, List.set_cons_succ, i64_w, i32_w]
          rfl
         refine take_ (i := 1) (N := some 29) (v := ?_) (a' := ?_) #[true, true, false, false, false, false] rfl rfl (by kernel_rfl) (fun _ _ _ h => h) (Or.inl ⟨by rfl, ?_⟩) hHeld ?_ ?_
         rotate_left
         ·rintro w' ⟨s0, s1, s2, s3, s4, s5, s6⟩
          go_simp
          with_reducible rfl
         rotate_left
         ·simp only [Act.put, List.setIfInBounds_toArray, List.set_cons_zero, List.set_cons_succ, i64_w, i32_w]
          rfl
         refine one_ (i := 2) (N := some 30) #[true, true, true, false, false, false] rfl rfl (by kernel_rfl) (by decide) (fun K hK => ?_)
         refine goes_ Try.func76 (by kernel_rfl) rfl #[.agg #[.int .i64 ((rd_T58 l0 x17_1).f0), .int .i64 ((rd_T58 l0 x17_1).f1), .int .i64 ((rd_T58 l0 x17_1).f2), .int .i64 ((rd_T58 l0 x17_1).f3), .int .i64 ((rd_T58 l0 x17_1).f4), .int .i64 ((rd_T58 l0 x17_1).f5), .slice A282_6 ((rd_T58 l0 x17_1).f6).length c282_6]] (by rfl) rfl rfl b12_1 ?_
         with_reducible refine (impl_Node_plain.calls k1 ((rd_T58 l0 x17_1).f0) ((rd_T58 l0 x17_1).f1) ((rd_T58 l0 x17_1).f2) ((rd_T58 l0 x17_1).f3) ((rd_T58 l0 x17_1).f4) ((rd_T58 l0 x17_1).f5) (fun k_ => k_ < w.heap.size) _ _ ((rd_T58 l0 x17_1).f6) t285 t286 t287 t288 t289 t290 t291 _ ?side1 A12.out).mono ?_
         (case side1 => exact (by exact Kd.V_mk HC282_6.out (Kd.F_below (Kd.C_F (Kd.heap_int .i64) HR282_6.out) b12_0)))
         rintro e w51 ⟨v292, rfl, ho0, hb⟩
         refine ⟨_, rfl, ?_⟩
         have n0_ := Aside0.mk (Kd.R_below b12_2 hb)
         have n1_ := Aside0.mk (Kd.V_lower (Kd.V_mono (ok' := fun k_ => some k_ ≠ (u4 : Value).ownBlock ∧ k_ ≠ gb283) ho0 (fun k_ hk_ => ⟨Or.elim hk_ (fun hs_ => fun e_ => Nat.not_le.2 hs_ (Kd.R_base HO_4.out k_ e_.symm)) (fun hn_ => (Kd.fresh' (Kd.R_lt b12_2) k_ hn_)), Or.elim hk_ (fun hs_ => fun e_ => Nat.not_le.2 hs_ (by rw [e_]; exact GW283.out)) (fun hn_ => (Kd.freshB (g := gb283) (o := .cells #[.int .i64 ((rd_T58 l0 x17_1).f0), .int .i64 ((rd_T58 l0 x17_1).f1), .int .i64 ((rd_T58 l0 x17_1).f2), .int .i64 ((rd_T58 l0 x17_1).f3), .int .i64 ((rd_T58 l0 x17_1).f4), .int .i64 ((rd_T58 l0 x17_1).f5), .slice A282_6 ((rd_T58 l0 x17_1).f6).length c282_6] 58 (0, 0)) b12_3 k_ hn_))⟩)) (below_size b12_0))
         have n2_ := Aside0.mk (blk_below (g := gb283) (o := .cells #[.int .i64 ((rd_T58 l0 x17_1).f0), .int .i64 ((rd_T58 l0 x17_1).f1), .int .i64 ((rd_T58 l0 x17_1).f2), .int .i64 ((rd_T58 l0 x17_1).f3), .int .i64 ((rd_T58 l0 x17_1).f4), .int .i64 ((rd_T58 l0 x17_1).f5), .slice A282_6 ((rd_T58 l0 x17_1).f6).length c282_6] 58 (0, 0)) b12_3 hb)
         have n3_ := Aside0.mk (below_step b12_0 hb)
         clear HO_4
         clear BK283
         clear HB
         have HO_4 := n0_
         have HO293 := n1_
         have BK283 := n2_
         have HB := n3_
         clear n0_ n1_ n2_ n3_
         (try clear hb)
         (try clear hb2)
         (try clear hk)
         (try clear hi)
         (try clear ho0)
         obtain ⟨Ao52, co52, eo52⟩ := Kd.V_slice HO293.out
         (first | subst eo52 | (injection eo52 with f1_ f2_ f3_; have f4_ := f1_.symm; have f5_ := f3_.symm; clear f1_ f2_ f3_; subst f4_; subst f5_))
         refine hK.out _ _ ⟨(blk_cell BK283.out 0).trans rfl, (blk_cell BK283.out 1).trans rfl, (blk_cell BK283.out 2).trans rfl, (blk_cell BK283.out 3).trans rfl, (blk_cell BK283.out 4).trans rfl, (blk_cell BK283.out 5).trans rfl, (blk_cell BK283.out 6).trans rfl⟩ (fun hHeld => ?_)
         clear hK K
         refine norm_ (a' := ?_) ?_ ?_
         rotate_left
         ·show Act.put _ (some 30) _ = _
          simp only [Act.put, List.setIfInBounds_toArray, List.set_cons_zero, List.set_cons_succ, i64_w, i32_w]
          rfl
         refine one_ (i := 3) (N := some 31) #[true, true, true, true, false, false] rfl rfl (by kernel_rfl) (by decide) (fun K hK => ?_)
         refine goes_ Try.func75 (by kernel_rfl) rfl #[.agg #[.int .i64 ((rd_T58 l0 x17_1).f0), .int .i64 ((rd_T58 l0 x17_1).f1), .int .i64 ((rd_T58 l0 x17_1).f2), .int .i64 ((rd_T58 l0 x17_1).f3), .int .i64 ((rd_T58 l0 x17_1).f4), .int .i64 ((rd_T58 l0 x17_1).f5), .slice A282_6 ((rd_T58 l0 x17_1).f6).length c282_6], .agg #[.int .i64 t285, .int .i64 t286, .int .i64 t287, .int .i64 t288, .int .i64 t289, .int .i64 t290, .slice Ao52 t291.length co52]] (by rfl) rfl rfl b12_1 ?_
         with_reducible refine (impl_sameNode.calls k1 ((rd_T58 l0 x17_1).f0) ((rd_T58 l0 x17_1).f1) ((rd_T58 l0 x17_1).f2) ((rd_T58 l0 x17_1).f3) ((rd_T58 l0 x17_1).f4) ((rd_T58 l0 x17_1).f5) _ _ ((rd_T58 l0 x17_1).f6) t285 t286 t287 t288 t289 t290 _ _ t291 false _ ?side1 ?side2 ?side3 ?side4 A13.out).mono ?_
         (case side1 => exact b12_5)
         (case side2 => exact HC282_6.out)
         (case side3 => exact (by repeat (first | exact (Kd.V_reads' HO293.out).2.2 | (with_reducible refine Kd.C_alloc ?_ _) | (with_reducible refine Kd.C_drewN ?_ _) | (with_reducible refine Kd.C_drew ?_))))
         (case side4 => exact (Kd.V_reads' HO293.out).2.1)
         rintro e w53 ⟨rfl, hb⟩
         refine ⟨_, rfl, ?_⟩
         have n0_ := Aside0.mk (Kd.R_below b12_2 hb)
         have n1_ := Aside0.mk (Kd.V_below (by (with_reducible repeat (first | apply Kd.V_alloc | apply Kd.V_drewN | apply Kd.V_drew)); exact HO293.out) hb)
         have n2_ := Aside0.mk (blk_below (g := gb283) (o := .cells #[.int .i64 ((rd_T58 l0 x17_1).f0), .int .i64 ((rd_T58 l0 x17_1).f1), .int .i64 ((rd_T58 l0 x17_1).f2), .int .i64 ((rd_T58 l0 x17_1).f3), .int .i64 ((rd_T58 l0 x17_1).f4), .int .i64 ((rd_T58 l0 x17_1).f5), .slice A282_6 ((rd_T58 l0 x17_1).f6).length c282_6] 58 (0, 0)) b12_3 hb)
         have n3_ := Aside0.mk (below_step b12_0 hb)
         clear HO_4
         clear HO293
         clear BK283
         clear HB
         have HO_4 := n0_
         have HO293 := n1_
         have BK283 := n2_
         have HB := n3_
         clear n0_ n1_ n2_ n3_
         (try clear hb)
         (try clear hb2)
         (try clear hk)
         (try clear hi)
         refine hK.out _ _ ⟨(blk_cell BK283.out 0).trans rfl, (blk_cell BK283.out 1).trans rfl, (blk_cell BK283.out 2).trans rfl, (blk_cell BK283.out 3).trans rfl, (blk_cell BK283.out 4).trans rfl, (blk_cell BK283.out 5).trans rfl, (blk_cell BK283.out 6).trans rfl⟩ (fun hHeld => ?_)
         clear hK K
         refine norm_ (a' := ?_) ?_ ?_
         rotate_left
         ·show Act.put _ (some 31) _ = _
          simp only [Act.put, List.setIfInBounds_toArray, List.set_cons_zero, List.set_cons_succ, i64_w, i32_w]
          rfl
         refine pure_ (i := 4) (N := some 32) (v := ?_) (a' := ?_) #[true, true, true, true, true, false] rfl rfl (by kernel_rfl) (fun _ _ _ h => h) (Or.inl ⟨by rfl, ?_⟩) ?_ ?_
         rotate_left
         ·intro w'
          go_simp
          with_reducible rfl
         rotate_left
         ·simp only [Act.put, List.setIfInBounds_toArray, List.set_cons_zero, List.set_cons_succ, i64_w, i32_w]
          rfl
         refine pure_ (i := 5) (N := some 27) (v := ?_) (a' := ?_) #[true, true, true, true, true, true] rfl rfl (by kernel_rfl) (fun _ _ _ h => h) (Or.inl ⟨by rfl, ?_⟩) ?_ ?_
         rotate_left
         ·intro w'
          go_simp
          with_reducible rfl
         rotate_left
         ·simp only [Act.put, List.setIfInBounds_toArray, List.set_cons_zero, List.set_cons_succ, i64_w, i32_w]
          rfl
         refine done_ (by kernel_rfl) ?_
         try go_wp2
         go_ret2
         exact ⟨_, by first | rfl | (simp [errW_none, errW_some] <;> rfl) | (simp [*, errW_none, errW_some] <;> rfl), by first | exact Kd.R_nil _ _ _ _ _ | exact Kd.N_nil _ _ _ _ _ | exact Kd.V_nil _ _ _ _ _ | exact Kd.Q_nil _ _ _ _ _ | exact Kd.S_nil _ _ _ _ _, by repeat (first | (with_reducible first | exact HB.out | apply below_alloc | apply pw_below_drewN | apply below_drew1 | refine below_set ?_ GE283.out) | exact HB.out)⟩
       ·replace c11 := Bool.eq_false_iff.mpr c11
        subst c11
        have H1 : (some (([] : List Int), 5)) = some (r1, r2) := by rw [if_neg (show ¬ (false = true) by decide)] at H; exact H
        clear H
        have H := H1
        clear H1
        simp only [Option.some.injEq, Prod.mk.injEq] at H
        obtain ⟨rfl, rfl⟩ := H
        have p282 : 0 ≤ (x17_1 : Int) := of_decide_eq_true b12_6
        have q282 : x17_1 < (l0.length : Int) := of_decide_eq_true b12_6
        obtain ⟨ad282, A282_6, c282_6, e282, hx282_0, hx282_1, hx282_2, hx282_3, hx282_4, hx282_5, hx282_6, hl282_6, hi282_6⟩ := at_T58 HR0.out x17_1 p282 q282
        cases e282
        replace hx282_0 := (HB.out.cell (World.block_lt_of_cell? w _ hx282_0)).trans hx282_0
        replace hx282_1 := (HB.out.cell (World.block_lt_of_cell? w _ hx282_1)).trans hx282_1
        replace hx282_2 := (HB.out.cell (World.block_lt_of_cell? w _ hx282_2)).trans hx282_2
        replace hx282_3 := (HB.out.cell (World.block_lt_of_cell? w _ hx282_3)).trans hx282_3
        replace hx282_4 := (HB.out.cell (World.block_lt_of_cell? w _ hx282_4)).trans hx282_4
        replace hx282_5 := (HB.out.cell (World.block_lt_of_cell? w _ hx282_5)).trans hx282_5
        replace hx282_6 := (HB.out.cell (World.block_lt_of_cell? w _ hx282_6)).trans hx282_6
        have HR282_6 := Aside0.mk hi282_6
        have HC282_6 := Aside0.mk hl282_6
        clear hi282_6 hl282_6
        replace p282 := eq_true p282
        replace q282 := eq_true q282
        go_wp2_with (first | ((with_reducible refine gate_dst (N := 6) rfl ?_); refine box_event ?hg (N := 6) ?hd (cs := #[.int .i64 0, .int .i64 0, .int .i64 0, .int .i64 0, .int .i64 0, .int .i64 0, .slice none 0 0]) (t := 58) ?hr ?_; (case hd => rfl); (case hg => rfl); (case hr => first | (go_simp; done) | (go_simp; rfl)); intro gb283 hg w54 hbox hb; have n0_ := Aside0.mk (Kd.R_below b12_2 hb); have n1_ := Aside0.mk (below_step b12_4 hb); have n2_ := Aside0.mk (hbox); have n3_ := Aside0.mk ((by rw [hg]; exact (below_size b12_4) : w.heap.size ≤ gb283)); have n4_ := Aside0.mk ((by rw [hg]; exact (below_size b12_4) : w.heap.size ≤ gb283)); clear HO_4; clear HB; have HO_4 := n0_; have HB := n1_; have BK283 := n2_; have GW283 := n3_; have GE283 := n4_; clear n0_ n1_ n2_ n3_ n4_; clear hb hbox hg; obtain ⟨hcz55_0, hcz55_1, hcz55_2, hcz55_3, hcz55_4, hcz55_5, hcz55_6, hfz55_0, hfz55_1, hfz55_2, hfz55_3, hfz55_4, hfz55_5, hfz55_6⟩ := cells7 BK283.out) | ((with_reducible refine gate_callee (f := 47) rfl ?_); refine goesL_ (some 25) rfl rfl Try.func47 (by kernel_rfl) rfl #[.int .i64 ((rd_T58 l0 x17_1).f0), .int .i64 1, .int .i64 12] rfl b12_1 ?_; (with_reducible refine (impl_in.calls ((rd_T58 l0 x17_1).f0) 1 12 false _ A10.out).mono ?_); rintro e w' ⟨rfl, ⟨nd, rfl⟩⟩; refine ⟨_, rfl, ?_⟩))
        go_ret2
        exact ⟨_, by first | rfl | (simp [errW_none, errW_some] <;> rfl) | (simp [*, errW_none, errW_some] <;> rfl), by first | exact Kd.R_nil _ _ _ _ _ | exact Kd.N_nil _ _ _ _ _ | exact Kd.V_nil _ _ _ _ _ | exact Kd.Q_nil _ _ _ _ _ | exact Kd.S_nil _ _ _ _ _, by repeat (first | (with_reducible first | exact HB.out | apply below_alloc | apply pw_below_drewN | apply below_drew1 | refine below_set ?_ GE283.out) | exact HB.out)⟩
      ·rw [if_neg c9] at H
       exact absurd H (by simp)
     ·rw [if_neg c8] at H
      exact absurd H (by simp)
    ·rw [if_neg c7] at H
     have c7b0 : decide (x17_1 < (l0.length : Int)) = false := decide_eq_false c7
     clear c7
     simp only [Option.some.injEq, Prod.mk.injEq] at H
     obtain ⟨rfl, rfl⟩ := H
     go_wp2
     go_ret2
     exact ⟨_, by first | rfl | (simp [errW_none, errW_some] <;> rfl) | (simp [*, errW_none, errW_some] <;> rfl), by (with_reducible repeat (first | apply Kd.R_alloc | apply Kd.R_drewN | apply Kd.R_drew)); exact HO_4.out, by repeat (first | (with_reducible first | exact HB.out | apply below_alloc | apply pw_below_drewN | apply below_drew1) | exact HB.out)⟩
 ·replace c4 := Bool.eq_false_iff.mpr c4
  subst c4
  have H1 : (some (([] : List Int), 2)) = some (r1, r2) := by rw [if_neg (show ¬ (false = true) by decide)] at H; exact H
  clear H
  have H := H1
  clear H1
  simp only [Option.some.injEq, Prod.mk.injEq] at H
  obtain ⟨rfl, rfl⟩ := H
  go_enter Try.func41, Try.ntmps41
  go_wp2_with (first | ((with_reducible refine gate_callee (f := 48) rfl ?_); refine goesL_ (some 11) rfl rfl Try.func48 (by kernel_rfl) rfl #[.slice A0 l0.length c0] rfl b12_1 ?_; (with_reducible refine (impl_Node.calls _ _ l0 t277 _ ?side1 ?side2 A2.out).mono ?_); (case side1 => exact (by repeat (first | exact HR0.out | (with_reducible refine Kd.C_alloc ?_ _) | (with_reducible refine Kd.C_drewN ?_ _) | (with_reducible refine Kd.C_drew ?_)))); (case side2 => exact HC0.out); rintro e w' ⟨rfl, ⟨nd, rfl⟩⟩; refine ⟨_, rfl, ?_⟩) | ((with_reducible refine gate_callee (f := 47) rfl ?_); refine goesL_ (some 12) rfl rfl Try.func47 (by kernel_rfl) rfl #[.int .i64 t277, .int .i64 1, .int .i64 8] rfl b12_1 ?_; (with_reducible refine (impl_in.calls t277 1 8 false _ A3.out).mono ?_); rintro e w' ⟨rfl, ⟨nd, rfl⟩⟩; refine ⟨_, rfl, ?_⟩))
  go_ret2
  exact ⟨_, by first | rfl | (simp [errW_none, errW_some] <;> rfl) | (simp [*, errW_none, errW_some] <;> rfl), by first | exact Kd.R_nil _ _ _ _ _ | exact Kd.N_nil _ _ _ _ _ | exact Kd.V_nil _ _ _ _ _ | exact Kd.Q_nil _ _ _ _ _ | exact Kd.S_nil _ _ _ _ _, by repeat (first | (with_reducible first | exact HB.out | apply below_alloc | apply pw_below_drewN | apply below_drew1) | exact HB.out)⟩

end Go.Proofs.Yteibdjkfkcckkaa.PFnExactInputsFault
