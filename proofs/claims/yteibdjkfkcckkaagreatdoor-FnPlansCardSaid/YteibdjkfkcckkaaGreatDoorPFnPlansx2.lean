-- Written by fprint, a program of this session, out of Lean's own print of the translation. Lean checks it.
import Derived.Test.YteibdjkfkcckkaaGreatDoorDense
import Derived.Test.YteibdjkfkcckkaaGreatDoorPFnPlansx0
import Derived.Test.YteibdjkfkcckkaaGreatDoorPFnPlansx1
namespace Go.Proofs.YteibdjkfkcckkaaGreatDoor.PFnPlans
open Go.RowKit Go.Proofs.YteibdjkfkcckkaaGreatDoorW.PrintWords Go.Proofs.YteibdjkfkcckkaaGreatDoorW.PrintLast Go.Proofs.YteibdjkfkcckkaaGreatDoorW.PrintMore
attribute [local go_sem] max2_int min2_int max_two min_two max_three min_three max_four min_four
set_option linter.unusedVariables false
set_option maxHeartbeats 8000000
set_option maxRecDepth 100000
set_option linter.unusedSimpArgs false

theorem q2_0 {p : Prop} (h : p := by have := HJ1.out; first | omega | exact Nat.le_refl _) : p := h
/-! ### spec_l3Named: function 36 -/
mutual
def spec_l3Named.j0 : Nat → Bool → Int → Int → Int → Int → Int → Int → List Int → Option (Bool)
 | 0, _, _, _, _, _, _, _, _ => none
 | k + 1, x22, x102000, x102001, x102002, x102003, x102004, x102005, x102006 => if x22 = true then (some false) else (if x102000 = 2 then (if x102000 = 3 then (spec_l3Named.j1 k false x102000 x102001 x102002 x102003 x102004 x102005 x102006) else (spec_l3Named.j1 k (decide ((x102006.length : Int) > 0)) x102000 x102001 x102002 x102003 x102004 x102005 x102006)) else (if x102004 = 0 then (if x102005 = 0 then (if x102000 = 3 then (spec_l3Named.j1 k false x102000 x102001 x102002 x102003 x102004 x102005 x102006) else (spec_l3Named.j1 k (decide ((x102006.length : Int) > 0)) x102000 x102001 x102002 x102003 x102004 x102005 x102006)) else (spec_l3Named.j1 k true x102000 x102001 x102002 x102003 x102004 x102005 x102006)) else (spec_l3Named.j1 k true x102000 x102001 x102002 x102003 x102004 x102005 x102006)))
def spec_l3Named.j1 : Nat → Bool → Int → Int → Int → Int → Int → Int → List Int → Option (Bool)
 | 0, _, _, _, _, _, _, _, _ => none
 | k + 1, x46, x102000, x102001, x102002, x102003, x102004, x102005, x102006 => if x46 = true then (some false) else (if x102000 = 3 then (some (x102003 == 0)) else (if x102000 = 4 then (some (x102003 == 0)) else (if x102000 = 5 then (some (x102003 == 0)) else (if x102000 = 11 then (some (x102003 == 0)) else (if x102000 = 12 then (some (x102003 == 0)) else (some true))))))
end
def spec_l3Named.f (k : Nat) (a0_0 : Int) (a0_1 : Int) (a0_2 : Int) (a0_3 : Int) (a0_4 : Int) (a0_5 : Int) (l0_6 : List Int) : Option (Bool) := (spec_l3Reads.f a0_0).bind fun t102 => (if t102 < 1 then (if a0_1 = 0 then ((spec_l3Reads.f a0_0).bind fun t103 => (if t103 < 2 then (spec_l3Named.j0 k (a0_2 != 0) a0_0 a0_1 a0_2 a0_3 a0_4 a0_5 l0_6) else (spec_l3Named.j0 k false a0_0 a0_1 a0_2 a0_3 a0_4 a0_5 l0_6))) else (spec_l3Named.j0 k true a0_0 a0_1 a0_2 a0_3 a0_4 a0_5 l0_6)) else ((spec_l3Reads.f a0_0).bind fun t104 => (if t104 < 2 then (spec_l3Named.j0 k (a0_2 != 0) a0_0 a0_1 a0_2 a0_3 a0_4 a0_5 l0_6) else (spec_l3Named.j0 k false a0_0 a0_1 a0_2 a0_3 a0_4 a0_5 l0_6))))
theorem spec_l3Named.mono_l : ∀ k, (∀ y0 y1 y2 y3 y4 y5 y6 y7, LeO (spec_l3Named.j0 k y0 y1 y2 y3 y4 y5 y6 y7) (spec_l3Named.j0 (k + 1) y0 y1 y2 y3 y4 y5 y6 y7)) ∧ (∀ y0 y1 y2 y3 y4 y5 y6 y7, LeO (spec_l3Named.j1 k y0 y1 y2 y3 y4 y5 y6 y7) (spec_l3Named.j1 (k + 1) y0 y1 y2 y3 y4 y5 y6 y7))
 | 0 => ⟨fun _ _ _ _ _ _ _ _ r h => by simp [spec_l3Named.j0] at h, fun _ _ _ _ _ _ _ _ r h => by simp [spec_l3Named.j1] at h⟩
 | k + 1 => by
  obtain ⟨ih0, ih1⟩ := spec_l3Named.mono_l k
  refine ⟨?_, ?_⟩
  ·intro y0 y1 y2 y3 y4 y5 y6 y7
   unfold spec_l3Named.j0
   repeat' first
   | (with_reducible exact ih0 _ _ _ _ _ _ _ _)
   | (with_reducible exact ih1 _ _ _ _ _ _ _ _)
   | (with_reducible exact LeO.refl _)
   | (with_reducible exact LeO.none _)
   | (with_reducible refine LeO.ite ?_ ?_)
   | (with_reducible refine LeO.bind ?_ (fun _ => ?_))
   | refine LeO.ite ?_ ?_
   | refine LeO.bind ?_ (fun _ => ?_)
  ·intro y0 y1 y2 y3 y4 y5 y6 y7
   unfold spec_l3Named.j1
   repeat' first
   | (with_reducible exact ih0 _ _ _ _ _ _ _ _)
   | (with_reducible exact ih1 _ _ _ _ _ _ _ _)
   | (with_reducible exact LeO.refl _)
   | (with_reducible exact LeO.none _)
   | (with_reducible refine LeO.ite ?_ ?_)
   | (with_reducible refine LeO.bind ?_ (fun _ => ?_))
   | refine LeO.ite ?_ ?_
   | refine LeO.bind ?_ (fun _ => ?_)
theorem spec_l3Named.mono : ∀ a0 a1 a2 a3 a4 a5 a6 k, LeO (spec_l3Named.f k a0 a1 a2 a3 a4 a5 a6) (spec_l3Named.f (k + 1) a0 a1 a2 a3 a4 a5 a6) := by
 intro a0 a1 a2 a3 a4 a5 a6 k
 obtain ⟨ih0, ih1⟩ := spec_l3Named.mono_l k
 unfold spec_l3Named.f
 repeat' first
   | (with_reducible exact ih0 _ _ _ _ _ _ _ _)
   | (with_reducible exact ih1 _ _ _ _ _ _ _ _)
   | (with_reducible exact LeO.refl _)
   | (with_reducible exact LeO.none _)
   | (with_reducible refine LeO.ite ?_ ?_)
   | (with_reducible refine LeO.bind ?_ (fun _ => ?_))
   | refine LeO.ite ?_ ?_
   | refine LeO.bind ?_ (fun _ => ?_)
theorem spec_l3Named.calls (k : Nat) (a0_0 : Int) (a0_1 : Int) (a0_2 : Int) (a0_3 : Int) (a0_4 : Int) (a0_5 : Int) (A0_6 : Option Addr) (c0_6 : Nat) (l0_6 : List Int) (r : Bool) (w : World) (hr0_6 : Kd.C (Kd.int .i64) w A0_6 l0_6.length l0_6) (hc0_6 : l0_6.length ≤ c0_6) (h : spec_l3Named.f k a0_0 a0_1 a0_2 a0_3 a0_4 a0_5 l0_6 = some r) :
  Calls Tryz.prog 36 #[.agg #[.int .i64 a0_0, .int .i64 a0_1, .int .i64 a0_2, .int .i64 a0_3, .int .i64 a0_4, .int .i64 a0_5, .slice A0_6 l0_6.length c0_6]] w fun e w' => e = .returned (.bool r) ∧ Below w.heap.size w w' := by
 have hu36 := Tryz.underlying36
 have HR0_6 := Aside0.mk hr0_6
 have HC0_6 := Aside0.mk hc0_6
 clear hr0_6 hc0_6
 have HB := Aside0.mk (Below.refl w.heap.size w)
 have H : ((spec_l3Reads.f a0_0).bind fun t102 => (if t102 < 1 then (if a0_1 = 0 then ((spec_l3Reads.f a0_0).bind fun t103 => (if t103 < 2 then (spec_l3Named.j0 k (a0_2 != 0) a0_0 a0_1 a0_2 a0_3 a0_4 a0_5 l0_6) else (spec_l3Named.j0 k false a0_0 a0_1 a0_2 a0_3 a0_4 a0_5 l0_6))) else (spec_l3Named.j0 k true a0_0 a0_1 a0_2 a0_3 a0_4 a0_5 l0_6)) else ((spec_l3Reads.f a0_0).bind fun t104 => (if t104 < 2 then (spec_l3Named.j0 k (a0_2 != 0) a0_0 a0_1 a0_2 a0_3 a0_4 a0_5 l0_6) else (spec_l3Named.j0 k false a0_0 a0_1 a0_2 a0_3 a0_4 a0_5 l0_6))))) = some r := h
 clear h
 have HC2 := Aside0.mk H
 clear H
 go_enter Tryz.func36, Tryz.ntmps36
 go_upto_region 1 with (first | ((with_reducible refine gate_dst (N := 1) rfl ?_); (try (refine gate_guard (by rfl) ?_; dsimp only)); refine box_event ?hg (N := 1) ?hd (cs := #[.int .i64 a0_0, .int .i64 a0_1, .int .i64 a0_2, .int .i64 a0_3, .int .i64 a0_4, .int .i64 a0_5, .slice A0_6 l0_6.length c0_6]) (t := 36) ?hr ?_; (case hd => rfl); (case hg => rfl); (case hr => first | (go_simp; done) | (go_simp; rfl)); intro gb101 hg w3 hbox hb; have BK101 := Aside0.mk (hbox); have GW101 := Aside0.mk ((by rw [hg]; exact (below_size cB0_) : w.heap.size ≤ gb101)); have GE101 := Aside0.mk ((by rw [hg]; exact (below_size cB0_) : w.heap.size ≤ gb101)); replace HB := Aside0.mk (below_step cB0_ hb); clear hb hbox hg))
 (try simp only [Act.put, List.setIfInBounds_toArray, List.set_cons_zero, List.set_cons_succ])
 go_cut [22] (fun v22 wc => ∃ (kq : Nat) (x22_1 : Bool), v22 = .bool x22_1 ∧ Aside0 (spec_l3Named.j0 kq x22_1 a0_0 a0_1 a0_2 a0_3 a0_4 a0_5 l0_6 = some r) ∧ Aside0 (kq ≤ k) ∧ Aside0 (wc.heap[gb101]? = some (.cells #[.int .i64 a0_0, .int .i64 a0_1, .int .i64 a0_2, .int .i64 a0_3, .int .i64 a0_4, .int .i64 a0_5, (.slice A0_6 l0_6.length c0_6)] 36 (0, 0))) ∧ Aside0 (Below w.heap.size w wc))
 case first =>
  have H := HC2.out
  clear HC2
  obtain ⟨t102, A4, H⟩ := bnd_ H
  try dsimp only at H
  by_cases c5 : t102 < 1
  rotate_left
  ·rw [if_neg c5] at H
   have c5b0 := decide_eq_false c5
   clear c5
   (first | rw [c5b0] | (simp only [i64_w, i32_w]; rw [c5b0]) | skip)
   obtain ⟨t104, A12, H⟩ := bnd_ H
   try dsimp only at H
   by_cases c13 : t104 < 2
   ·rw [if_pos c13] at H
    have c13b0 := decide_eq_true c13
    clear c13
    have H' := Aside0.mk H
    clear H
    obtain ⟨_, _, _, _, _, _, _, _, _, _, _, _, _, _⟩ := cells7 BK101.out
    go_wp2_with (first | (refine gl_ 37 (some 5) Tryz.func37 #[.int .i64 a0_0] ?_; (with_reducible refine (spec_l3Reads.calls a0_0 t102 _ A4.out).mono ?_); rintro e w' ⟨rfl, ⟨nd, rfl⟩⟩; refine ⟨_, rfl, ?_⟩) | (go_at_call 37; (with_reducible refine (spec_l3Reads.calls a0_0 t104 _ A12.out).mono ?_); rintro e w' ⟨rfl, ⟨nd, rfl⟩⟩))
    go_meet
    case rel => exact ⟨_, ((a0_2 != 0)), cs_, H', ⟨cm_⟩, ⟨cO_ BK101.out⟩, ⟨cB1_ GE101.out⟩⟩
   rw [if_neg c13] at H
   have c13b0 := decide_eq_false c13
   clear c13
   have H' := Aside0.mk H
   clear H
   obtain ⟨_, _, _, _, _, _, _, _, _, _, _, _, _, _⟩ := cells7 BK101.out
   go_wp2_with (first | (refine gl_ 37 (some 5) Tryz.func37 #[.int .i64 a0_0] ?_; (with_reducible refine (spec_l3Reads.calls a0_0 t102 _ A4.out).mono ?_); rintro e w' ⟨rfl, ⟨nd, rfl⟩⟩; refine ⟨_, rfl, ?_⟩) | (go_at_call 37; (with_reducible refine (spec_l3Reads.calls a0_0 t104 _ A12.out).mono ?_); rintro e w' ⟨rfl, ⟨nd, rfl⟩⟩))
   go_meet
   case rel => exact ⟨_, (false), cs_, H', ⟨cm_⟩, ⟨cO_ BK101.out⟩, ⟨cB1_ GE101.out⟩⟩
  rw [if_pos c5] at H
  have c5b0 := decide_eq_true c5
  clear c5
  (first | rw [c5b0] | (simp only [i64_w, i32_w]; rw [c5b0]) | skip)
  by_cases c6 : a0_1 = 0
  rotate_left
  ·rw [if_neg c6] at H
   have c6b0 : (a0_1 == 0) = false := beq_eq_false_iff_ne.mpr c6
   have c6b1 : (a0_1 != 0) = true := bne_iff_ne.mpr c6
   have H' := Aside0.mk H
   clear H
   obtain ⟨_, _, _, _, _, _, _, _, _, _, _, _, _, _⟩ := cells7 BK101.out
   go_wp2_with (first | (refine gl_ 37 (some 5) Tryz.func37 #[.int .i64 a0_0] ?_; (with_reducible refine (spec_l3Reads.calls a0_0 t102 _ A4.out).mono ?_); rintro e w' ⟨rfl, ⟨nd, rfl⟩⟩; refine ⟨_, rfl, ?_⟩))
   go_meet
   case rel => exact ⟨_, (true), cs_, H', ⟨cm_⟩, ⟨cO_ BK101.out⟩, ⟨cB1_ GE101.out⟩⟩
  rw [if_pos c6] at H
  have c6b0 : (a0_1 == 0) = true := beq_iff_eq.mpr c6
  have c6b1 : (a0_1 != 0) = false := bne_eq_false_iff_eq.mpr c6
  clear c6
  obtain ⟨t103, A7, H⟩ := bnd_ H
  try dsimp only at H
  by_cases c8 : t103 < 2
  ·rw [if_pos c8] at H
   have c8b0 := decide_eq_true c8
   clear c8
   have H' := Aside0.mk H
   clear H
   obtain ⟨_, _, _, _, _, _, _, _, _, _, _, _, _, _⟩ := cells7 BK101.out
   go_wp2_with (first | (refine gl_ 37 (some 5) Tryz.func37 #[.int .i64 a0_0] ?_; (with_reducible refine (spec_l3Reads.calls a0_0 t102 _ A4.out).mono ?_); rintro e w' ⟨rfl, ⟨nd, rfl⟩⟩; refine ⟨_, rfl, ?_⟩) | (go_at_call 37; (with_reducible refine (spec_l3Reads.calls a0_0 t103 _ A7.out).mono ?_); rintro e w' ⟨rfl, ⟨nd, rfl⟩⟩))
   go_meet
   case rel => exact ⟨_, ((a0_2 != 0)), cs_, H', ⟨cm_⟩, ⟨cO_ BK101.out⟩, ⟨cB1_ GE101.out⟩⟩
  rw [if_neg c8] at H
  have c8b0 := decide_eq_false c8
  clear c8
  have H' := Aside0.mk H
  clear H
  obtain ⟨_, _, _, _, _, _, _, _, _, _, _, _, _, _⟩ := cells7 BK101.out
  go_wp2_with (first | (refine gl_ 37 (some 5) Tryz.func37 #[.int .i64 a0_0] ?_; (with_reducible refine (spec_l3Reads.calls a0_0 t102 _ A4.out).mono ?_); rintro e w' ⟨rfl, ⟨nd, rfl⟩⟩; refine ⟨_, rfl, ?_⟩) | (go_at_call 37; (with_reducible refine (spec_l3Reads.calls a0_0 t103 _ A7.out).mono ?_); rintro e w' ⟨rfl, ⟨nd, rfl⟩⟩))
  go_meet
  case rel => exact ⟨_, (false), cs_, H', ⟨cm_⟩, ⟨cO_ BK101.out⟩, ⟨cB1_ GE101.out⟩⟩
 case rest =>
  clear HC2
  try clear c1
  try clear p2
  try clear c3
  try clear c5
  try clear c5b0
  try clear c6
  try clear c6b0
  try clear c6b1
  try clear c8
  try clear c8b0
  try clear c13
  try clear c13b0
  obtain ⟨kq, x22_1, rfl, HA, HJ1, BK101, HB⟩ := hcut
  cases kq with
  | zero => exact absurd HA.out (by simp [spec_l3Named.j0])
  | succ kj1 =>
   have H := HA.out
   clear HA
   simp only [spec_l3Named.j0] at H
   by_cases c16 : x22_1 = true
   ·subst c16
    rw [if_pos rfl] at H
    obtain rfl := Option.some.inj H
    go_wp2
    go_ret
    exact ⟨ce_, cB1_ GE101.out⟩
   replace c16 := Bool.eq_false_iff.mpr c16
   subst c16
   rw [if_neg (show ¬ (false = true) by decide)] at H
   have HC17 := Aside0.mk H
   clear H
   go_upto_region 3 with (fail)
   go_cut [46] (fun v46 wc => ∃ (kq : Nat) (x46_16 : Bool), v46 = .bool x46_16 ∧ Aside0 (spec_l3Named.j1 kq x46_16 a0_0 a0_1 a0_2 a0_3 a0_4 a0_5 l0_6 = some r) ∧ Aside0 (kq ≤ kj1) ∧ Aside0 (wc.heap[gb101]? = some (.cells #[.int .i64 a0_0, .int .i64 a0_1, .int .i64 a0_2, .int .i64 a0_3, .int .i64 a0_4, .int .i64 a0_5, (.slice A0_6 l0_6.length c0_6)] 36 (0, 0))) ∧ Aside0 (Below w.heap.size w wc))
   case first =>
    have H := HC17.out
    clear HC17
    by_cases c18 : a0_0 = 2
    ·rw [if_pos c18] at H
     have c18b0 : (a0_0 == 2) = true := beq_iff_eq.mpr c18
     have c18b1 : (a0_0 != 2) = false := bne_eq_false_iff_eq.mpr c18
     clear c18
     (first | rw [c18b0] | (simp only [i64_w, i32_w]; rw [c18b0]) | skip)
     by_cases c19 : a0_0 = 3
     ·rw [if_pos c19] at H
      have c19b0 : (a0_0 == 3) = true := beq_iff_eq.mpr c19
      have c19b1 : (a0_0 != 3) = false := bne_eq_false_iff_eq.mpr c19
      clear c19
      have H' := Aside0.mk H
      clear H
      obtain ⟨_, _, _, _, _, _, _, _, _, _, _, _, _, _⟩ := cells7 BK101.out
      go_wp2
      go_meet
      case rel => exact ⟨_, (false), cs_, H', ⟨q2_0⟩, ⟨cO_ BK101.out⟩, ⟨cB1_ GE101.out⟩⟩
     rw [if_neg c19] at H
     have c19b0 : (a0_0 == 3) = false := beq_eq_false_iff_ne.mpr c19
     have c19b1 : (a0_0 != 3) = true := bne_iff_ne.mpr c19
     have H' := Aside0.mk H
     clear H
     obtain ⟨_, _, _, _, _, _, _, _, _, _, _, _, _, _⟩ := cells7 BK101.out
     go_wp2
     go_meet
     case rel => exact ⟨_, (decide ((l0_6.length : Int) > 0)), cs_, H', ⟨q2_0⟩, ⟨cO_ BK101.out⟩, ⟨cB1_ GE101.out⟩⟩
    rw [if_neg c18] at H
    have c18b0 : (a0_0 == 2) = false := beq_eq_false_iff_ne.mpr c18
    have c18b1 : (a0_0 != 2) = true := bne_iff_ne.mpr c18
    (first | rw [c18b0] | (simp only [i64_w, i32_w]; rw [c18b0]) | skip)
    by_cases c22 : a0_4 = 0
    rotate_left
    ·rw [if_neg c22] at H
     have c22b0 : (a0_4 == 0) = false := beq_eq_false_iff_ne.mpr c22
     have c22b1 : (a0_4 != 0) = true := bne_iff_ne.mpr c22
     have H' := Aside0.mk H
     clear H
     obtain ⟨_, _, _, _, _, _, _, _, _, _, _, _, _, _⟩ := cells7 BK101.out
     go_wp2
     go_meet
     case rel => exact ⟨_, (true), cs_, H', ⟨q2_0⟩, ⟨cO_ BK101.out⟩, ⟨cB1_ GE101.out⟩⟩
    rw [if_pos c22] at H
    have c22b0 : (a0_4 == 0) = true := beq_iff_eq.mpr c22
    have c22b1 : (a0_4 != 0) = false := bne_eq_false_iff_eq.mpr c22
    clear c22
    by_cases c23 : a0_5 = 0
    rotate_left
    ·rw [if_neg c23] at H
     have c23b0 : (a0_5 == 0) = false := beq_eq_false_iff_ne.mpr c23
     have c23b1 : (a0_5 != 0) = true := bne_iff_ne.mpr c23
     have H' := Aside0.mk H
     clear H
     obtain ⟨_, _, _, _, _, _, _, _, _, _, _, _, _, _⟩ := cells7 BK101.out
     go_wp2
     go_meet
     case rel => exact ⟨_, (true), cs_, H', ⟨q2_0⟩, ⟨cO_ BK101.out⟩, ⟨cB1_ GE101.out⟩⟩
    rw [if_pos c23] at H
    have c23b0 : (a0_5 == 0) = true := beq_iff_eq.mpr c23
    have c23b1 : (a0_5 != 0) = false := bne_eq_false_iff_eq.mpr c23
    clear c23
    by_cases c24 : a0_0 = 3
    ·rw [if_pos c24] at H
     have c24b0 : (a0_0 == 3) = true := beq_iff_eq.mpr c24
     have c24b1 : (a0_0 != 3) = false := bne_eq_false_iff_eq.mpr c24
     clear c24
     have H' := Aside0.mk H
     clear H
     obtain ⟨_, _, _, _, _, _, _, _, _, _, _, _, _, _⟩ := cells7 BK101.out
     go_wp2
     go_meet
     case rel => exact ⟨_, (false), cs_, H', ⟨q2_0⟩, ⟨cO_ BK101.out⟩, ⟨cB1_ GE101.out⟩⟩
    rw [if_neg c24] at H
    have c24b0 : (a0_0 == 3) = false := beq_eq_false_iff_ne.mpr c24
    have c24b1 : (a0_0 != 3) = true := bne_iff_ne.mpr c24
    have H' := Aside0.mk H
    clear H
    obtain ⟨_, _, _, _, _, _, _, _, _, _, _, _, _, _⟩ := cells7 BK101.out
    go_wp2
    go_meet
    case rel => exact ⟨_, (decide ((l0_6.length : Int) > 0)), cs_, H', ⟨q2_0⟩, ⟨cO_ BK101.out⟩, ⟨cB1_ GE101.out⟩⟩
   case rest =>
    clear HC17
    try clear c1
    try clear c2
    try clear p2
    try clear c3
    try clear c5
    try clear c5b0
    try clear c6
    try clear c6b0
    try clear c6b1
    try clear c8
    try clear c8b0
    try clear c13
    try clear c13b0
    try clear c16
    try clear c18
    try clear c18b0
    try clear c18b1
    try clear c19
    try clear c19b0
    try clear c19b1
    try clear c22
    try clear c22b0
    try clear c22b1
    try clear c23
    try clear c23b0
    try clear c23b1
    try clear c24
    try clear c24b0
    try clear c24b1
    try clear p2
    obtain ⟨kq, x46_16, rfl, HA, HJ16, BK101, HB⟩ := hcut
    cases kq with
    | zero => exact absurd HA.out (by simp [spec_l3Named.j1])
    | succ kj16 =>
     have H := HA.out
     clear HA
     simp only [spec_l3Named.j1] at H
     by_cases c29 : x46_16 = true
     ·subst c29
      rw [if_pos rfl] at H
      obtain rfl := Option.some.inj H
      go_wp2
      go_ret
      exact ⟨ce_, cB1_ GE101.out⟩
     replace c29 := Bool.eq_false_iff.mpr c29
     subst c29
     rw [if_neg (show ¬ (false = true) by decide)] at H
     by_cases c30 : a0_0 = 3
     ·rw [if_pos c30] at H
      have c30b0 : (a0_0 == 3) = true := beq_iff_eq.mpr c30
      have c30b1 : (a0_0 != 3) = false := bne_eq_false_iff_eq.mpr c30
      clear c30
      obtain rfl := Option.some.inj H
      obtain ⟨_, _, _, _, _, _, _, _, _, _, _, _, _, _⟩ := cells7 BK101.out
      go_wp2
      go_ret
      exact ⟨ce_, cB1_ GE101.out⟩
     rw [if_neg c30] at H
     have c30b0 : (a0_0 == 3) = false := beq_eq_false_iff_ne.mpr c30
     have c30b1 : (a0_0 != 3) = true := bne_iff_ne.mpr c30
     by_cases c32 : a0_0 = 4
     ·rw [if_pos c32] at H
      have c32b0 : (a0_0 == 4) = true := beq_iff_eq.mpr c32
      have c32b1 : (a0_0 != 4) = false := bne_eq_false_iff_eq.mpr c32
      clear c32
      obtain rfl := Option.some.inj H
      obtain ⟨_, _, _, _, _, _, _, _, _, _, _, _, _, _⟩ := cells7 BK101.out
      go_wp2
      go_ret
      exact ⟨ce_, cB1_ GE101.out⟩
     rw [if_neg c32] at H
     have c32b0 : (a0_0 == 4) = false := beq_eq_false_iff_ne.mpr c32
     have c32b1 : (a0_0 != 4) = true := bne_iff_ne.mpr c32
     by_cases c34 : a0_0 = 5
     ·rw [if_pos c34] at H
      have c34b0 : (a0_0 == 5) = true := beq_iff_eq.mpr c34
      have c34b1 : (a0_0 != 5) = false := bne_eq_false_iff_eq.mpr c34
      clear c34
      obtain rfl := Option.some.inj H
      obtain ⟨_, _, _, _, _, _, _, _, _, _, _, _, _, _⟩ := cells7 BK101.out
      go_wp2
      go_ret
      exact ⟨ce_, cB1_ GE101.out⟩
     rw [if_neg c34] at H
     have c34b0 : (a0_0 == 5) = false := beq_eq_false_iff_ne.mpr c34
     have c34b1 : (a0_0 != 5) = true := bne_iff_ne.mpr c34
     by_cases c36 : a0_0 = 11
     ·rw [if_pos c36] at H
      have c36b0 : (a0_0 == 11) = true := beq_iff_eq.mpr c36
      have c36b1 : (a0_0 != 11) = false := bne_eq_false_iff_eq.mpr c36
      clear c36
      obtain rfl := Option.some.inj H
      obtain ⟨_, _, _, _, _, _, _, _, _, _, _, _, _, _⟩ := cells7 BK101.out
      go_wp2
      go_ret
      exact ⟨ce_, cB1_ GE101.out⟩
     rw [if_neg c36] at H
     have c36b0 : (a0_0 == 11) = false := beq_eq_false_iff_ne.mpr c36
     have c36b1 : (a0_0 != 11) = true := bne_iff_ne.mpr c36
     by_cases c38 : a0_0 = 12
     ·rw [if_pos c38] at H
      have c38b0 : (a0_0 == 12) = true := beq_iff_eq.mpr c38
      have c38b1 : (a0_0 != 12) = false := bne_eq_false_iff_eq.mpr c38
      clear c38
      obtain rfl := Option.some.inj H
      obtain ⟨_, _, _, _, _, _, _, _, _, _, _, _, _, _⟩ := cells7 BK101.out
      go_wp2
      go_ret
      exact ⟨ce_, cB1_ GE101.out⟩
     rw [if_neg c38] at H
     have c38b0 : (a0_0 == 12) = false := beq_eq_false_iff_ne.mpr c38
     have c38b1 : (a0_0 != 12) = true := bne_iff_ne.mpr c38
     obtain rfl := Option.some.inj H
     obtain ⟨_, _, _, _, _, _, _, _, _, _, _, _, _, _⟩ := cells7 BK101.out
     go_wp2
     go_ret
     exact ⟨ce_, cB1_ GE101.out⟩

end Go.Proofs.YteibdjkfkcckkaaGreatDoor.PFnPlans
