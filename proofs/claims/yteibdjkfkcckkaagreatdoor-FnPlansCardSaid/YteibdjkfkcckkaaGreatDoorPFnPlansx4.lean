-- Written by fprint, a program of this session, out of Lean's own print of the translation. Lean checks it.
import Derived.Test.YteibdjkfkcckkaaGreatDoorDense
import Derived.Test.YteibdjkfkcckkaaGreatDoorPFnPlansx0
import Derived.Test.YteibdjkfkcckkaaGreatDoorPFnPlansx1
import Derived.Test.YteibdjkfkcckkaaGreatDoorPFnPlansx2
import Derived.Test.YteibdjkfkcckkaaGreatDoorPFnPlansx3
namespace Go.Proofs.YteibdjkfkcckkaaGreatDoor.PFnPlans
open Go.RowKit Go.Proofs.YteibdjkfkcckkaaGreatDoorW.PrintWords Go.Proofs.YteibdjkfkcckkaaGreatDoorW.PrintLast Go.Proofs.YteibdjkfkcckkaaGreatDoorW.PrintMore
attribute [local go_sem] max2_int min2_int max_two min_two max_three min_three max_four min_four
set_option linter.unusedVariables false
set_option maxHeartbeats 8000000
set_option maxRecDepth 100000
set_option linter.unusedSimpArgs false

theorem b4_0 {p : Prop} (h : p := by first | exact ⟨rfl, _, World.drewN_drewN _ _ _⟩ | exact ⟨rfl, _, Eq.trans (World.drewN_drewN _ _ _) (congrArg (World.drewN _) (Nat.add_assoc _ _ _))⟩) : p := h
theorem b4_1 {p : Prop} (h : p := by exact cB1_ GE111.out) : p := h
theorem b4_2 {p : Prop} (h : p := by refine cO_ ?_; refine blk_put (cs := #[.int .i64 ((rd_T36 l0 a1).f0), .int .i64 ((rd_T36 l0 a1).f1), .int .i64 ((rd_T36 l0 a1).f2), .int .i64 ((rd_T36 l0 a1).f3), .int .i64 ((rd_T36 l0 a1).f4), .int .i64 ((rd_T36 l0 a1).f5), .slice none 0 0]) ?_ 6 _ rfl; refine cO_ ?_; refine blk_put (cs := #[.int .i64 ((rd_T36 l0 a1).f0), .int .i64 ((rd_T36 l0 a1).f1), .int .i64 ((rd_T36 l0 a1).f2), .int .i64 ((rd_T36 l0 a1).f3), .int .i64 ((rd_T36 l0 a1).f4), .int .i64 0, .slice none 0 0]) ?_ 5 _ rfl; refine cO_ ?_; refine blk_put (cs := #[.int .i64 ((rd_T36 l0 a1).f0), .int .i64 ((rd_T36 l0 a1).f1), .int .i64 ((rd_T36 l0 a1).f2), .int .i64 ((rd_T36 l0 a1).f3), .int .i64 0, .int .i64 0, .slice none 0 0]) ?_ 4 _ rfl; refine cO_ ?_; refine blk_put (cs := #[.int .i64 ((rd_T36 l0 a1).f0), .int .i64 ((rd_T36 l0 a1).f1), .int .i64 ((rd_T36 l0 a1).f2), .int .i64 0, .int .i64 0, .int .i64 0, .slice none 0 0]) ?_ 3 _ rfl; refine cO_ ?_; refine blk_put (cs := #[.int .i64 ((rd_T36 l0 a1).f0), .int .i64 ((rd_T36 l0 a1).f1), .int .i64 0, .int .i64 0, .int .i64 0, .int .i64 0, .slice none 0 0]) ?_ 2 _ rfl; refine cO_ ?_; refine blk_put (cs := #[.int .i64 ((rd_T36 l0 a1).f0), .int .i64 0, .int .i64 0, .int .i64 0, .int .i64 0, .int .i64 0, .slice none 0 0]) ?_ 1 _ rfl; refine cO_ ?_; refine blk_put (cs := #[.int .i64 0, .int .i64 0, .int .i64 0, .int .i64 0, .int .i64 0, .int .i64 0, .slice none 0 0]) ?_ 0 _ rfl; refine cO_ ?_; exact BK111.out) : p := h
theorem b4_3 {p : Prop} (h : p := by exact cC_ (Kd.C_below HR0.out b4_1)) : p := h
theorem b4_4 {p : Prop} (h : p := by exact cO_ BK111.out) : p := h
theorem b4_6 {p : Prop} (h : p := by exact cC_ (Kd.C_below HR0.out HB.out)) : p := h
theorem q4_0 {p : Prop} (h : p := by have := HK1.out; first | omega | exact Nat.le_refl _) : p := h
/-! ### spec_l3Node: function 19 -/
mutual
def spec_l3Node.l0 : Nat → List (S36) → Int → Int → Int → Int → Int → Int → Int → Int → List Int → Option (Int)
 | 0, _, _, _, _, _, _, _, _, _, _ => none
 | k + 1, x0, x1, x6, x112000, x112001, x112002, x112003, x112004, x112005, x112006 => (spec_l3Reads.f x112000).bind fun t114 => (if x6 < t114 then (if x6 = 1 then ((spec_l1In.f x112002 0 (wrap64 (x1 - 1))).bind fun t115 => (if t115 = true then (if 0 ≤ x112002 then (if x112002 < (x0.length : Int) then (if ((rd_T36 x0 x112002).f0) = 12 then (some 3) else (spec_l3Node.l0 k x0 x1 (wrap64 (x6 + 1)) x112000 x112001 x112002 x112003 x112004 x112005 x112006)) else (none)) else (none)) else (some 3))) else ((spec_l1In.f x112001 0 (wrap64 (x1 - 1))).bind fun t117 => (if t117 = true then (if 0 ≤ x112001 then (if x112001 < (x0.length : Int) then (if ((rd_T36 x0 x112001).f0) = 12 then (some 3) else (spec_l3Node.l0 k x0 x1 (wrap64 (x6 + 1)) x112000 x112001 x112002 x112003 x112004 x112005 x112006)) else (none)) else (none)) else (some 3)))) else (if x112000 = 1 then ((spec_l1In.f x112003 1 3).bind fun t119 => (if t119 = true then (some 0) else (some 3))) else ((spec_l3Width.f k x0 x112001).bind fun t120 => (if x112000 = 2 then ((spec_l1In.f x112003 0 (wrap64 (t120 - 1))).bind fun t121 => (if t121 = true then ((spec_l1In.f x112004 0 2).bind fun t122 => (if t122 = true then ((spec_l1In.f x112005 (-1000000000) 1000000000).bind fun t123 => (if t123 = true then (some 0) else (some 3))) else (some 3))) else (some 3))) else (if x112000 = 3 then (if (x112006.length : Int) < 1 then (spec_l3Node.j1 k t120 true x112000 x112001 x112002 x112003 x112004 x112005 x112006) else (spec_l3Node.j1 k t120 (decide ((x112006.length : Int) > 4)) x112000 x112001 x112002 x112003 x112004 x112005 x112006)) else (if x112000 = 4 then ((spec_l3Width.f k x0 x112002).bind fun t126 => (if t120 = t126 then (some 0) else (some 1))) else (if x112000 = 6 then ((spec_l3Width.f k x0 x112002).bind fun t127 => ((spec_l1Min.f t120 t127).bind fun t128 => ((spec_l1In.f x112003 1 t128).bind fun t129 => (if t129 = true then (if (wrap64 ((wrap64 (t120 + t127)) - x112003)) > 4 then (some 2) else (some 0)) else (some 3))))) else (if x112000 = 7 then ((spec_l1Min.f t120 3).bind fun t130 => ((spec_l1In.f x112003 0 t130).bind fun t131 => (if t131 = true then (some 0) else (some 3)))) else (if x112000 = 8 then (spec_l3Node.j3 k t120 (x112000 == 8) x112000 x112001 x112002 x112003 x112004 x112005 x112006) else (if x112000 = 9 then (spec_l3Node.j3 k t120 (x112000 == 9) x112000 x112001 x112002 x112003 x112004 x112005 x112006) else (spec_l3Node.j3 k t120 (x112000 == 10) x112000 x112001 x112002 x112003 x112004 x112005 x112006)))))))))))
def spec_l3Node.j1 : Nat → Int → Bool → Int → Int → Int → Int → Int → Int → List Int → Option (Int)
 | 0, _, _, _, _, _, _, _, _, _ => none
 | k + 1, x8, x92, x112000, x112001, x112002, x112003, x112004, x112005, x112006 => if x92 = true then (some 2) else (spec_l3Node.l1 k x8 0 x112000 x112001 x112002 x112003 x112004 x112005 x112006)
def spec_l3Node.l1 : Nat → Int → Int → Int → Int → Int → Int → Int → Int → List Int → Option (Int)
 | 0, _, _, _, _, _, _, _, _, _ => none
 | k + 1, x8, x9, x112000, x112001, x112002, x112003, x112004, x112005, x112006 => if x9 < (x112006.length : Int) then (if 0 ≤ x9 then ((spec_l1In.f (rd x112006 x9) 0 (wrap64 (x8 - 1))).bind fun t125 => (if t125 = true then (spec_l3Node.l1 k x8 (wrap64 (x9 + 1)) x112000 x112001 x112002 x112003 x112004 x112005 x112006) else (some 3))) else (none)) else (some 0)
def spec_l3Node.j3 : Nat → Int → Bool → Int → Int → Int → Int → Int → Int → List Int → Option (Int)
 | 0, _, _, _, _, _, _, _, _, _ => none
 | k + 1, x8, x145, x112000, x112001, x112002, x112003, x112004, x112005, x112006 => if x145 = true then ((spec_l1In.f x112003 0 (wrap64 (x8 - 1))).bind fun t132 => (if t132 = true then (some 0) else (some 3))) else (some 0)
end
def spec_l3Node.f (k : Nat) (l0 : List (S36)) (a1 : Int) : Option (Int) := if 0 ≤ a1 then (if a1 < (l0.length : Int) then ((spec_l1In.f ((rd_T36 l0 a1).f0) 1 12).bind fun t112 => (if t112 = true then ((spec_l3Named.f k ((rd_T36 l0 a1).f0) ((rd_T36 l0 a1).f1) ((rd_T36 l0 a1).f2) ((rd_T36 l0 a1).f3) ((rd_T36 l0 a1).f4) ((rd_T36 l0 a1).f5) ((rd_T36 l0 a1).f6)).bind fun t113 => (if t113 = true then (spec_l3Node.l0 k l0 a1 0 ((rd_T36 l0 a1).f0) ((rd_T36 l0 a1).f1) ((rd_T36 l0 a1).f2) ((rd_T36 l0 a1).f3) ((rd_T36 l0 a1).f4) ((rd_T36 l0 a1).f5) ((rd_T36 l0 a1).f6)) else (some 1))) else (some 5))) else (none)) else (none)
theorem spec_l3Node.mono_l : ∀ k, (∀ y0 y1 y2 y3 y4 y5 y6 y7 y8 y9, LeO (spec_l3Node.l0 k y0 y1 y2 y3 y4 y5 y6 y7 y8 y9) (spec_l3Node.l0 (k + 1) y0 y1 y2 y3 y4 y5 y6 y7 y8 y9)) ∧ (∀ y0 y1 y2 y3 y4 y5 y6 y7 y8, LeO (spec_l3Node.j1 k y0 y1 y2 y3 y4 y5 y6 y7 y8) (spec_l3Node.j1 (k + 1) y0 y1 y2 y3 y4 y5 y6 y7 y8)) ∧ (∀ y0 y1 y2 y3 y4 y5 y6 y7 y8, LeO (spec_l3Node.l1 k y0 y1 y2 y3 y4 y5 y6 y7 y8) (spec_l3Node.l1 (k + 1) y0 y1 y2 y3 y4 y5 y6 y7 y8)) ∧ (∀ y0 y1 y2 y3 y4 y5 y6 y7 y8, LeO (spec_l3Node.j3 k y0 y1 y2 y3 y4 y5 y6 y7 y8) (spec_l3Node.j3 (k + 1) y0 y1 y2 y3 y4 y5 y6 y7 y8))
 | 0 => ⟨fun _ _ _ _ _ _ _ _ _ _ r h => by simp [spec_l3Node.l0] at h, fun _ _ _ _ _ _ _ _ _ r h => by simp [spec_l3Node.j1] at h, fun _ _ _ _ _ _ _ _ _ r h => by simp [spec_l3Node.l1] at h, fun _ _ _ _ _ _ _ _ _ r h => by simp [spec_l3Node.j3] at h⟩
 | k + 1 => by
  obtain ⟨ih0, ih1, ih2, ih3⟩ := spec_l3Node.mono_l k
  refine ⟨?_, ?_, ?_, ?_⟩
  ·intro y0 y1 y2 y3 y4 y5 y6 y7 y8 y9
   unfold spec_l3Node.l0
   repeat' first
   | (with_reducible exact ih0 _ _ _ _ _ _ _ _ _ _)
   | (with_reducible exact ih1 _ _ _ _ _ _ _ _ _)
   | (with_reducible exact ih2 _ _ _ _ _ _ _ _ _)
   | (with_reducible exact ih3 _ _ _ _ _ _ _ _ _)
   | (with_reducible exact spec_l3Named.mono _ _ _ _ _ _ _ _)
   | (with_reducible exact spec_l3Width.mono _ _ _)
   | (with_reducible exact LeO.refl _)
   | (with_reducible exact LeO.none _)
   | (with_reducible refine LeO.ite ?_ ?_)
   | (with_reducible refine LeO.bind ?_ (fun _ => ?_))
   | refine LeO.ite ?_ ?_
   | refine LeO.bind ?_ (fun _ => ?_)
  ·intro y0 y1 y2 y3 y4 y5 y6 y7 y8
   unfold spec_l3Node.j1
   repeat' first
   | (with_reducible exact ih0 _ _ _ _ _ _ _ _ _ _)
   | (with_reducible exact ih1 _ _ _ _ _ _ _ _ _)
   | (with_reducible exact ih2 _ _ _ _ _ _ _ _ _)
   | (with_reducible exact ih3 _ _ _ _ _ _ _ _ _)
   | (with_reducible exact spec_l3Named.mono _ _ _ _ _ _ _ _)
   | (with_reducible exact spec_l3Width.mono _ _ _)
   | (with_reducible exact LeO.refl _)
   | (with_reducible exact LeO.none _)
   | (with_reducible refine LeO.ite ?_ ?_)
   | (with_reducible refine LeO.bind ?_ (fun _ => ?_))
   | refine LeO.ite ?_ ?_
   | refine LeO.bind ?_ (fun _ => ?_)
  ·intro y0 y1 y2 y3 y4 y5 y6 y7 y8
   unfold spec_l3Node.l1
   repeat' first
   | (with_reducible exact ih0 _ _ _ _ _ _ _ _ _ _)
   | (with_reducible exact ih1 _ _ _ _ _ _ _ _ _)
   | (with_reducible exact ih2 _ _ _ _ _ _ _ _ _)
   | (with_reducible exact ih3 _ _ _ _ _ _ _ _ _)
   | (with_reducible exact spec_l3Named.mono _ _ _ _ _ _ _ _)
   | (with_reducible exact spec_l3Width.mono _ _ _)
   | (with_reducible exact LeO.refl _)
   | (with_reducible exact LeO.none _)
   | (with_reducible refine LeO.ite ?_ ?_)
   | (with_reducible refine LeO.bind ?_ (fun _ => ?_))
   | refine LeO.ite ?_ ?_
   | refine LeO.bind ?_ (fun _ => ?_)
  ·intro y0 y1 y2 y3 y4 y5 y6 y7 y8
   unfold spec_l3Node.j3
   repeat' first
   | (with_reducible exact ih0 _ _ _ _ _ _ _ _ _ _)
   | (with_reducible exact ih1 _ _ _ _ _ _ _ _ _)
   | (with_reducible exact ih2 _ _ _ _ _ _ _ _ _)
   | (with_reducible exact ih3 _ _ _ _ _ _ _ _ _)
   | (with_reducible exact spec_l3Named.mono _ _ _ _ _ _ _ _)
   | (with_reducible exact spec_l3Width.mono _ _ _)
   | (with_reducible exact LeO.refl _)
   | (with_reducible exact LeO.none _)
   | (with_reducible refine LeO.ite ?_ ?_)
   | (with_reducible refine LeO.bind ?_ (fun _ => ?_))
   | refine LeO.ite ?_ ?_
   | refine LeO.bind ?_ (fun _ => ?_)
theorem spec_l3Node.mono : ∀ a0 a1 k, LeO (spec_l3Node.f k a0 a1) (spec_l3Node.f (k + 1) a0 a1) := by
 intro a0 a1 k
 obtain ⟨ih0, ih1, ih2, ih3⟩ := spec_l3Node.mono_l k
 unfold spec_l3Node.f
 repeat' first
   | (with_reducible exact ih0 _ _ _ _ _ _ _ _ _ _)
   | (with_reducible exact ih1 _ _ _ _ _ _ _ _ _)
   | (with_reducible exact ih2 _ _ _ _ _ _ _ _ _)
   | (with_reducible exact ih3 _ _ _ _ _ _ _ _ _)
   | (with_reducible exact spec_l3Named.mono _ _ _ _ _ _ _ _)
   | (with_reducible exact spec_l3Width.mono _ _ _)
   | (with_reducible exact LeO.refl _)
   | (with_reducible exact LeO.none _)
   | (with_reducible refine LeO.ite ?_ ?_)
   | (with_reducible refine LeO.bind ?_ (fun _ => ?_))
   | refine LeO.ite ?_ ?_
   | refine LeO.bind ?_ (fun _ => ?_)
theorem spec_l3Node.calls (k : Nat) (A0 : Option Addr) (c0 : Nat) (l0 : List (S36)) (a1 : Int) (r : Int) (w : World) (hr0 : Kd.C k36 w A0 l0.length l0) (hc0 : l0.length ≤ c0) (h : spec_l3Node.f k l0 a1 = some r) :
  Calls Tryz.prog 19 #[.slice A0 l0.length c0, .int .i64 a1] w fun e w' => e = .returned (.int .i64 r) ∧ Below w.heap.size w w' := by
 have hu36 := Tryz.underlying36
 have HR0 := Aside0.mk hr0
 have HC0 := Aside0.mk hc0
 clear hr0 hc0
 have HB := Aside0.mk (Below.refl w.heap.size w)
 have H : (if 0 ≤ a1 then (if a1 < (l0.length : Int) then ((spec_l1In.f ((rd_T36 l0 a1).f0) 1 12).bind fun t112 => (if t112 = true then ((spec_l3Named.f k ((rd_T36 l0 a1).f0) ((rd_T36 l0 a1).f1) ((rd_T36 l0 a1).f2) ((rd_T36 l0 a1).f3) ((rd_T36 l0 a1).f4) ((rd_T36 l0 a1).f5) ((rd_T36 l0 a1).f6)).bind fun t113 => (if t113 = true then (spec_l3Node.l0 k l0 a1 0 ((rd_T36 l0 a1).f0) ((rd_T36 l0 a1).f1) ((rd_T36 l0 a1).f2) ((rd_T36 l0 a1).f3) ((rd_T36 l0 a1).f4) ((rd_T36 l0 a1).f5) ((rd_T36 l0 a1).f6)) else (some 1))) else (some 5))) else (none)) else (none)) = some r := h
 clear h
 by_cases c3 : 0 ≤ a1
 rotate_left
 ·rw [if_neg c3] at H
  exact absurd H (by simp)
 rw [if_pos c3] at H
 have c3b0 := decide_eq_true c3
 clear c3
 by_cases c4 : a1 < (l0.length : Int)
 rotate_left
 ·rw [if_neg c4] at H
  exact absurd H (by simp)
 rw [if_pos c4] at H
 have c4b0 := decide_eq_true c4
 clear c4
 obtain ⟨t112, A5, H⟩ := bnd_ H
 try dsimp only at H
 by_cases c6 : t112 = true
 rotate_left
 ·replace c6 := Bool.eq_false_iff.mpr c6
  subst c6
  rw [if_neg (show ¬ (false = true) by decide)] at H
  obtain rfl := Option.some.inj H
  have p110 : 0 ≤ (a1 : Int) := cd_
  have q110 : a1 < (l0.length : Int) := cd_
  obtain ⟨ad110, A110_6, c110_6, e110, hx110_0, hx110_1, hx110_2, hx110_3, hx110_4, hx110_5, hx110_6, hl110_6, hi110_6⟩ := at_T36 HR0.out a1 p110 q110
  cases e110
  have HR110_6 := Aside0.mk hi110_6
  have HC110_6 := Aside0.mk hl110_6
  clear hi110_6 hl110_6
  replace p110 := eq_true p110
  replace q110 := eq_true q110
  go_enter Tryz.func19, Tryz.ntmps19
  go_wp2_with (first | ((with_reducible refine gate_dst (N := 5) rfl ?_); (try (refine gate_guard (by rfl) ?_; dsimp only)); refine box_event ?hg (N := 5) ?hd (cs := #[.int .i64 0, .int .i64 0, .int .i64 0, .int .i64 0, .int .i64 0, .int .i64 0, .slice none 0 0]) (t := 36) ?hr ?_; (case hd => rfl); (case hg => rfl); (case hr => first | (go_simp; done) | (go_simp; rfl)); intro gb111 hg w128 hbox hb; have BK111 := Aside0.mk (hbox); have GW111 := Aside0.mk ((by rw [hg]; exact (below_size cB0_) : w.heap.size ≤ gb111)); have GE111 := Aside0.mk ((by rw [hg]; exact (below_size cB0_) : w.heap.size ≤ gb111)); replace HB := Aside0.mk (below_step cB0_ hb); clear hb hbox hg; obtain ⟨_, _, _, _, _, _, _, _, _, _, _, _, _, _⟩ := cells7 BK111.out) | (go_at_call 35; (with_reducible refine (spec_l1In.calls ((rd_T36 l0 a1).f0) 1 12 false _ A5.out).mono ?_); rintro e w' ⟨rfl, ⟨nd, rfl⟩⟩; (try exact b4_0)))
  repeat (go_quiet (fail); try go_wp2)
  go_ret
  exact ⟨ce_, cB1_ GE111.out⟩
 subst c6
 rw [if_pos rfl] at H
 obtain ⟨t113, A7, H⟩ := bnd_ H
 try dsimp only at H
 by_cases c8 : t113 = true
 rotate_left
 ·replace c8 := Bool.eq_false_iff.mpr c8
  subst c8
  rw [if_neg (show ¬ (false = true) by decide)] at H
  obtain rfl := Option.some.inj H
  have p110 : 0 ≤ (a1 : Int) := cd_
  have q110 : a1 < (l0.length : Int) := cd_
  obtain ⟨ad110, A110_6, c110_6, e110, hx110_0, hx110_1, hx110_2, hx110_3, hx110_4, hx110_5, hx110_6, hl110_6, hi110_6⟩ := at_T36 HR0.out a1 p110 q110
  cases e110
  have HR110_6 := Aside0.mk hi110_6
  have HC110_6 := Aside0.mk hl110_6
  clear hi110_6 hl110_6
  replace p110 := eq_true p110
  replace q110 := eq_true q110
  go_enter Tryz.func19, Tryz.ntmps19
  go_wp2_with (first | ((with_reducible refine gate_dst (N := 5) rfl ?_); (try (refine gate_guard (by rfl) ?_; dsimp only)); refine box_event ?hg (N := 5) ?hd (cs := #[.int .i64 0, .int .i64 0, .int .i64 0, .int .i64 0, .int .i64 0, .int .i64 0, .slice none 0 0]) (t := 36) ?hr ?_; (case hd => rfl); (case hg => rfl); (case hr => first | (go_simp; done) | (go_simp; rfl)); intro gb111 hg w125 hbox hb; have BK111 := Aside0.mk (hbox); have GW111 := Aside0.mk ((by rw [hg]; exact (below_size cB0_) : w.heap.size ≤ gb111)); have GE111 := Aside0.mk ((by rw [hg]; exact (below_size cB0_) : w.heap.size ≤ gb111)); replace HB := Aside0.mk (below_step cB0_ hb); clear hb hbox hg; obtain ⟨_, _, _, _, _, _, _, _, _, _, _, _, _, _⟩ := cells7 BK111.out) | (go_at_call 35; (with_reducible refine (spec_l1In.calls ((rd_T36 l0 a1).f0) 1 12 true _ A5.out).mono ?_); rintro e w' ⟨rfl, ⟨nd, rfl⟩⟩; (try exact b4_0)) | (go_at_call 36; (with_reducible refine (spec_l3Named.calls k ((rd_T36 l0 a1).f0) ((rd_T36 l0 a1).f1) ((rd_T36 l0 a1).f2) ((rd_T36 l0 a1).f3) ((rd_T36 l0 a1).f4) ((rd_T36 l0 a1).f5) _ _ ((rd_T36 l0 a1).f6) false _ ?side1 ?side2 A7.out).mono ?_); (case side1 => exact (by exact Kd.C_below HR110_6.out b4_1)); (case side2 => exact HC110_6.out); rintro e w127 ⟨rfl, hb⟩; replace BK111 := Aside0.mk (blk_below (g := gb111) (o := .cells #[.int .i64 ((rd_T36 l0 a1).f0), .int .i64 ((rd_T36 l0 a1).f1), .int .i64 ((rd_T36 l0 a1).f2), .int .i64 ((rd_T36 l0 a1).f3), .int .i64 ((rd_T36 l0 a1).f4), .int .i64 ((rd_T36 l0 a1).f5), .slice A110_6 ((rd_T36 l0 a1).f6).length c110_6] 36 (0, 0)) b4_2 hb); replace HB := Aside0.mk (below_step b4_1 hb); (try clear hb)))
  repeat (go_quiet (fail); try go_wp2)
  go_ret
  exact ⟨ce_, cB1_ GE111.out⟩
 subst c8
 rw [if_pos rfl] at H
 have H' := Aside0.mk H
 clear H
 have p110 : 0 ≤ (a1 : Int) := cd_
 have q110 : a1 < (l0.length : Int) := cd_
 obtain ⟨ad110, A110_6, c110_6, e110, hx110_0, hx110_1, hx110_2, hx110_3, hx110_4, hx110_5, hx110_6, hl110_6, hi110_6⟩ := at_T36 HR0.out a1 p110 q110
 cases e110
 have HR110_6 := Aside0.mk hi110_6
 have HC110_6 := Aside0.mk hl110_6
 clear hi110_6 hl110_6
 replace p110 := eq_true p110
 replace q110 := eq_true q110
 go_enter Tryz.func19, Tryz.ntmps19
 go_wp2_with (first | ((with_reducible refine gate_dst (N := 5) rfl ?_); (try (refine gate_guard (by rfl) ?_; dsimp only)); refine box_event ?hg (N := 5) ?hd (cs := #[.int .i64 0, .int .i64 0, .int .i64 0, .int .i64 0, .int .i64 0, .int .i64 0, .slice none 0 0]) (t := 36) ?hr ?_; (case hd => rfl); (case hg => rfl); (case hr => first | (go_simp; done) | (go_simp; rfl)); intro gb111 hg w9 hbox hb; have BK111 := Aside0.mk (hbox); have GW111 := Aside0.mk ((by rw [hg]; exact (below_size cB0_) : w.heap.size ≤ gb111)); have GE111 := Aside0.mk ((by rw [hg]; exact (below_size cB0_) : w.heap.size ≤ gb111)); replace HB := Aside0.mk (below_step cB0_ hb); clear hb hbox hg; obtain ⟨_, _, _, _, _, _, _, _, _, _, _, _, _, _⟩ := cells7 BK111.out) | (go_at_call 35; (with_reducible refine (spec_l1In.calls ((rd_T36 l0 a1).f0) 1 12 true _ A5.out).mono ?_); rintro e w' ⟨rfl, ⟨nd, rfl⟩⟩; (try exact b4_0)) | (go_at_call 36; (with_reducible refine (spec_l3Named.calls k ((rd_T36 l0 a1).f0) ((rd_T36 l0 a1).f1) ((rd_T36 l0 a1).f2) ((rd_T36 l0 a1).f3) ((rd_T36 l0 a1).f4) ((rd_T36 l0 a1).f5) _ _ ((rd_T36 l0 a1).f6) true _ ?side1 ?side2 A7.out).mono ?_); (case side1 => exact (by exact Kd.C_below HR110_6.out b4_1)); (case side2 => exact HC110_6.out); rintro e w11 ⟨rfl, hb⟩; replace BK111 := Aside0.mk (blk_below (g := gb111) (o := .cells #[.int .i64 ((rd_T36 l0 a1).f0), .int .i64 ((rd_T36 l0 a1).f1), .int .i64 ((rd_T36 l0 a1).f2), .int .i64 ((rd_T36 l0 a1).f3), .int .i64 ((rd_T36 l0 a1).f4), .int .i64 ((rd_T36 l0 a1).f5), .slice A110_6 ((rd_T36 l0 a1).f6).length c110_6] 36 (0, 0)) b4_2 hb); replace HB := Aside0.mk (below_step b4_1 hb); (try clear hb)))
 repeat (go_quiet (fail); try go_wp2)
 go_loopg [6] k (fun kq v6 w' => ∃ (x6_1 : Int), v6 = .int .i64 x6_1 ∧ Aside0 (spec_l3Node.l0 kq l0 a1 x6_1 ((rd_T36 l0 a1).f0) ((rd_T36 l0 a1).f1) ((rd_T36 l0 a1).f2) ((rd_T36 l0 a1).f3) ((rd_T36 l0 a1).f4) ((rd_T36 l0 a1).f5) ((rd_T36 l0 a1).f6) = some r) ∧ Aside0 (kq ≤ k) ∧ Aside0 (w'.heap[gb111]? = some (.cells #[.int .i64 ((rd_T36 l0 a1).f0), .int .i64 ((rd_T36 l0 a1).f1), .int .i64 ((rd_T36 l0 a1).f2), .int .i64 ((rd_T36 l0 a1).f3), .int .i64 ((rd_T36 l0 a1).f4), .int .i64 ((rd_T36 l0 a1).f5), (.slice A110_6 ((rd_T36 l0 a1).f6).length c110_6)] 36 (0, 0))) ∧ Aside0 (Below w.heap.size w w'))
 case atStart => exact ⟨(0), cs_, H', ⟨Nat.le_refl _⟩, ⟨cO_ BK111.out⟩, ⟨cB1_ GE111.out⟩⟩
 case round =>
  clear H'
  try clear c3b0
  try clear c4b0
  try clear hx110_0
  try clear hx110_1
  try clear hx110_2
  try clear hx110_3
  try clear hx110_4
  try clear hx110_5
  try clear hx110_6
  try clear p110
  try clear q110
  obtain ⟨x6_1, rfl, HA, HK1, BK111, HB⟩ := hrel
  cases gk with
  | zero => exact absurd HA.out (by simp [spec_l3Node.l0])
  | succ k1 =>
   have H := HA.out
   clear HA
   simp only [spec_l3Node.l0] at H
   obtain ⟨t114, A12, H⟩ := bnd_ H
   try dsimp only at H
   by_cases c13 : x6_1 < t114
   ·rw [if_pos c13] at H
    have c13b0 := decide_eq_true c13
    clear c13
    by_cases c14 : x6_1 = 1
    ·rw [if_pos c14] at H
     have c14b0 : (x6_1 == 1) = true := beq_iff_eq.mpr c14
     have c14b1 : (x6_1 != 1) = false := bne_eq_false_iff_eq.mpr c14
     clear c14
     obtain ⟨t115, A15, H⟩ := bnd_ H
     try dsimp only at H
     by_cases c16 : t115 = true
     rotate_left
     ·replace c16 := Bool.eq_false_iff.mpr c16
      subst c16
      rw [if_neg (show ¬ (false = true) by decide)] at H
      obtain rfl := Option.some.inj H
      obtain ⟨_, _, _, _, _, _, _, _, _, _, _, _, _, _⟩ := cells7 BK111.out
      go_wp2_with (first | (go_at_call 37; (with_reducible refine (spec_l3Reads.calls ((rd_T36 l0 a1).f0) t114 _ A12.out).mono ?_); rintro e w' ⟨rfl, ⟨nd, rfl⟩⟩; (try exact b4_0)) | (go_at_call 35; (with_reducible refine (spec_l1In.calls ((rd_T36 l0 a1).f2) 0 (wrap64 (a1 - 1)) false _ A15.out).mono ?_); rintro e w' ⟨rfl, ⟨nd, rfl⟩⟩; (try exact b4_0)))
      repeat (go_quiet (fail); try go_wp2)
      go_ret
      exact ⟨ce_, cB1_ GE111.out⟩
     subst c16
     rw [if_pos rfl] at H
     by_cases c17 : 0 ≤ ((rd_T36 l0 a1).f2)
     rotate_left
     ·rw [if_neg c17] at H
      exact absurd H (by simp)
     rw [if_pos c17] at H
     have c17b0 := decide_eq_true c17
     clear c17
     by_cases c18 : ((rd_T36 l0 a1).f2) < (l0.length : Int)
     rotate_left
     ·rw [if_neg c18] at H
      exact absurd H (by simp)
     rw [if_pos c18] at H
     have c18b0 := decide_eq_true c18
     clear c18
     by_cases c19 : ((rd_T36 l0 ((rd_T36 l0 a1).f2)).f0) = 12
     ·rw [if_pos c19] at H
      have c19b0 : (((rd_T36 l0 ((rd_T36 l0 a1).f2)).f0) == 12) = true := beq_iff_eq.mpr c19
      have c19b1 : (((rd_T36 l0 ((rd_T36 l0 a1).f2)).f0) != 12) = false := bne_eq_false_iff_eq.mpr c19
      clear c19
      obtain rfl := Option.some.inj H
      obtain ⟨_, _, _, _, _, _, _, _, _, _, _, _, _, _⟩ := cells7 BK111.out
      go_wp2_with (first | (go_at_call 37; (with_reducible refine (spec_l3Reads.calls ((rd_T36 l0 a1).f0) t114 _ A12.out).mono ?_); rintro e w' ⟨rfl, ⟨nd, rfl⟩⟩; (try exact b4_0)) | (go_at_call 35; (with_reducible refine (spec_l1In.calls ((rd_T36 l0 a1).f2) 0 (wrap64 (a1 - 1)) true _ A15.out).mono ?_); rintro e w' ⟨rfl, ⟨nd, rfl⟩⟩; (try exact b4_0); have p116 : 0 ≤ (((rd_T36 l0 a1).f2) : Int) := cd_; have q116 : ((rd_T36 l0 a1).f2) < (l0.length : Int) := cd_; obtain ⟨ad116, A116_6, c116_6, e116, hx116_0, hx116_1, hx116_2, hx116_3, hx116_4, hx116_5, hx116_6, hl116_6, hi116_6⟩ := at_T36 HR0.out ((rd_T36 l0 a1).f2) p116 q116; obtain rfl : ad110 = ad116 := (by injection e116); replace hx116_0 := pw_cell_below HB.out hx116_0; replace hx116_1 := pw_cell_below HB.out hx116_1; replace hx116_2 := pw_cell_below HB.out hx116_2; replace hx116_3 := pw_cell_below HB.out hx116_3; replace hx116_4 := pw_cell_below HB.out hx116_4; replace hx116_5 := pw_cell_below HB.out hx116_5; replace hx116_6 := pw_cell_below HB.out hx116_6; have HR116_6 := Aside0.mk hi116_6; have HC116_6 := Aside0.mk hl116_6; clear hi116_6 hl116_6; replace p116 := eq_true p116; replace q116 := eq_true q116))
      repeat (go_quiet (fail); try go_wp2)
      go_ret
      exact ⟨ce_, cB1_ GE111.out⟩
     rw [if_neg c19] at H
     have c19b0 : (((rd_T36 l0 ((rd_T36 l0 a1).f2)).f0) == 12) = false := beq_eq_false_iff_ne.mpr c19
     have c19b1 : (((rd_T36 l0 ((rd_T36 l0 a1).f2)).f0) != 12) = true := bne_iff_ne.mpr c19
     have H' := Aside0.mk H
     clear H
     obtain ⟨_, _, _, _, _, _, _, _, _, _, _, _, _, _⟩ := cells7 BK111.out
     go_wp2_with (first | (go_at_call 37; (with_reducible refine (spec_l3Reads.calls ((rd_T36 l0 a1).f0) t114 _ A12.out).mono ?_); rintro e w' ⟨rfl, ⟨nd, rfl⟩⟩; (try exact b4_0)) | (go_at_call 35; (with_reducible refine (spec_l1In.calls ((rd_T36 l0 a1).f2) 0 (wrap64 (a1 - 1)) true _ A15.out).mono ?_); rintro e w' ⟨rfl, ⟨nd, rfl⟩⟩; (try exact b4_0); have p116 : 0 ≤ (((rd_T36 l0 a1).f2) : Int) := cd_; have q116 : ((rd_T36 l0 a1).f2) < (l0.length : Int) := cd_; obtain ⟨ad116, A116_6, c116_6, e116, hx116_0, hx116_1, hx116_2, hx116_3, hx116_4, hx116_5, hx116_6, hl116_6, hi116_6⟩ := at_T36 HR0.out ((rd_T36 l0 a1).f2) p116 q116; obtain rfl : ad110 = ad116 := (by injection e116); replace hx116_0 := pw_cell_below HB.out hx116_0; replace hx116_1 := pw_cell_below HB.out hx116_1; replace hx116_2 := pw_cell_below HB.out hx116_2; replace hx116_3 := pw_cell_below HB.out hx116_3; replace hx116_4 := pw_cell_below HB.out hx116_4; replace hx116_5 := pw_cell_below HB.out hx116_5; replace hx116_6 := pw_cell_below HB.out hx116_6; have HR116_6 := Aside0.mk hi116_6; have HC116_6 := Aside0.mk hl116_6; clear hi116_6 hl116_6; replace p116 := eq_true p116; replace q116 := eq_true q116))
     repeat (go_quiet (fail); try go_wp2)
     go_roundg k1
     case measure => have := HK1.out; omega
     case rel => exact ⟨(wrap64 (x6_1 + 1)), cs_, H', ⟨co_ HK1.out⟩, ⟨cO_ BK111.out⟩, ⟨cB1_ GE111.out⟩⟩
    rw [if_neg c14] at H
    have c14b0 : (x6_1 == 1) = false := beq_eq_false_iff_ne.mpr c14
    have c14b1 : (x6_1 != 1) = true := bne_iff_ne.mpr c14
    obtain ⟨t117, A23, H⟩ := bnd_ H
    try dsimp only at H
    by_cases c24 : t117 = true
    rotate_left
    ·replace c24 := Bool.eq_false_iff.mpr c24
     subst c24
     rw [if_neg (show ¬ (false = true) by decide)] at H
     obtain rfl := Option.some.inj H
     obtain ⟨_, _, _, _, _, _, _, _, _, _, _, _, _, _⟩ := cells7 BK111.out
     go_wp2_with (first | (go_at_call 37; (with_reducible refine (spec_l3Reads.calls ((rd_T36 l0 a1).f0) t114 _ A12.out).mono ?_); rintro e w' ⟨rfl, ⟨nd, rfl⟩⟩; (try exact b4_0)) | (go_at_call 35; (with_reducible refine (spec_l1In.calls ((rd_T36 l0 a1).f1) 0 (wrap64 (a1 - 1)) false _ A23.out).mono ?_); rintro e w' ⟨rfl, ⟨nd, rfl⟩⟩; (try exact b4_0)))
     repeat (go_quiet (fail); try go_wp2)
     go_ret
     exact ⟨ce_, cB1_ GE111.out⟩
    subst c24
    rw [if_pos rfl] at H
    by_cases c25 : 0 ≤ ((rd_T36 l0 a1).f1)
    rotate_left
    ·rw [if_neg c25] at H
     exact absurd H (by simp)
    rw [if_pos c25] at H
    have c25b0 := decide_eq_true c25
    clear c25
    by_cases c26 : ((rd_T36 l0 a1).f1) < (l0.length : Int)
    rotate_left
    ·rw [if_neg c26] at H
     exact absurd H (by simp)
    rw [if_pos c26] at H
    have c26b0 := decide_eq_true c26
    clear c26
    by_cases c27 : ((rd_T36 l0 ((rd_T36 l0 a1).f1)).f0) = 12
    ·rw [if_pos c27] at H
     have c27b0 : (((rd_T36 l0 ((rd_T36 l0 a1).f1)).f0) == 12) = true := beq_iff_eq.mpr c27
     have c27b1 : (((rd_T36 l0 ((rd_T36 l0 a1).f1)).f0) != 12) = false := bne_eq_false_iff_eq.mpr c27
     clear c27
     obtain rfl := Option.some.inj H
     obtain ⟨_, _, _, _, _, _, _, _, _, _, _, _, _, _⟩ := cells7 BK111.out
     go_wp2_with (first | (go_at_call 37; (with_reducible refine (spec_l3Reads.calls ((rd_T36 l0 a1).f0) t114 _ A12.out).mono ?_); rintro e w' ⟨rfl, ⟨nd, rfl⟩⟩; (try exact b4_0)) | (go_at_call 35; (with_reducible refine (spec_l1In.calls ((rd_T36 l0 a1).f1) 0 (wrap64 (a1 - 1)) true _ A23.out).mono ?_); rintro e w' ⟨rfl, ⟨nd, rfl⟩⟩; (try exact b4_0); have p118 : 0 ≤ (((rd_T36 l0 a1).f1) : Int) := cd_; have q118 : ((rd_T36 l0 a1).f1) < (l0.length : Int) := cd_; obtain ⟨ad118, A118_6, c118_6, e118, hx118_0, hx118_1, hx118_2, hx118_3, hx118_4, hx118_5, hx118_6, hl118_6, hi118_6⟩ := at_T36 HR0.out ((rd_T36 l0 a1).f1) p118 q118; obtain rfl : ad110 = ad118 := (by injection e118); replace hx118_0 := pw_cell_below HB.out hx118_0; replace hx118_1 := pw_cell_below HB.out hx118_1; replace hx118_2 := pw_cell_below HB.out hx118_2; replace hx118_3 := pw_cell_below HB.out hx118_3; replace hx118_4 := pw_cell_below HB.out hx118_4; replace hx118_5 := pw_cell_below HB.out hx118_5; replace hx118_6 := pw_cell_below HB.out hx118_6; have HR118_6 := Aside0.mk hi118_6; have HC118_6 := Aside0.mk hl118_6; clear hi118_6 hl118_6; replace p118 := eq_true p118; replace q118 := eq_true q118))
     repeat (go_quiet (fail); try go_wp2)
     go_ret
     exact ⟨ce_, cB1_ GE111.out⟩
    rw [if_neg c27] at H
    have c27b0 : (((rd_T36 l0 ((rd_T36 l0 a1).f1)).f0) == 12) = false := beq_eq_false_iff_ne.mpr c27
    have c27b1 : (((rd_T36 l0 ((rd_T36 l0 a1).f1)).f0) != 12) = true := bne_iff_ne.mpr c27
    have H' := Aside0.mk H
    clear H
    obtain ⟨_, _, _, _, _, _, _, _, _, _, _, _, _, _⟩ := cells7 BK111.out
    go_wp2_with (first | (go_at_call 37; (with_reducible refine (spec_l3Reads.calls ((rd_T36 l0 a1).f0) t114 _ A12.out).mono ?_); rintro e w' ⟨rfl, ⟨nd, rfl⟩⟩; (try exact b4_0)) | (go_at_call 35; (with_reducible refine (spec_l1In.calls ((rd_T36 l0 a1).f1) 0 (wrap64 (a1 - 1)) true _ A23.out).mono ?_); rintro e w' ⟨rfl, ⟨nd, rfl⟩⟩; (try exact b4_0); have p118 : 0 ≤ (((rd_T36 l0 a1).f1) : Int) := cd_; have q118 : ((rd_T36 l0 a1).f1) < (l0.length : Int) := cd_; obtain ⟨ad118, A118_6, c118_6, e118, hx118_0, hx118_1, hx118_2, hx118_3, hx118_4, hx118_5, hx118_6, hl118_6, hi118_6⟩ := at_T36 HR0.out ((rd_T36 l0 a1).f1) p118 q118; obtain rfl : ad110 = ad118 := (by injection e118); replace hx118_0 := pw_cell_below HB.out hx118_0; replace hx118_1 := pw_cell_below HB.out hx118_1; replace hx118_2 := pw_cell_below HB.out hx118_2; replace hx118_3 := pw_cell_below HB.out hx118_3; replace hx118_4 := pw_cell_below HB.out hx118_4; replace hx118_5 := pw_cell_below HB.out hx118_5; replace hx118_6 := pw_cell_below HB.out hx118_6; have HR118_6 := Aside0.mk hi118_6; have HC118_6 := Aside0.mk hl118_6; clear hi118_6 hl118_6; replace p118 := eq_true p118; replace q118 := eq_true q118))
    repeat (go_quiet (fail); try go_wp2)
    go_roundg k1
    case measure => have := HK1.out; omega
    case rel => exact ⟨(wrap64 (x6_1 + 1)), cs_, H', ⟨co_ HK1.out⟩, ⟨cO_ BK111.out⟩, ⟨cB1_ GE111.out⟩⟩
   rw [if_neg c13] at H
   have c13b0 := decide_eq_false c13
   clear c13
   by_cases c31 : ((rd_T36 l0 a1).f0) = 1
   ·rw [if_pos c31] at H
    have c31b0 : (((rd_T36 l0 a1).f0) == 1) = true := beq_iff_eq.mpr c31
    have c31b1 : (((rd_T36 l0 a1).f0) != 1) = false := bne_eq_false_iff_eq.mpr c31
    clear c31
    obtain ⟨t119, A32, H⟩ := bnd_ H
    try dsimp only at H
    by_cases c33 : t119 = true
    ·subst c33
     rw [if_pos rfl] at H
     obtain rfl := Option.some.inj H
     obtain ⟨_, _, _, _, _, _, _, _, _, _, _, _, _, _⟩ := cells7 BK111.out
     go_wp2_with (first | (go_at_call 37; (with_reducible refine (spec_l3Reads.calls ((rd_T36 l0 a1).f0) t114 _ A12.out).mono ?_); rintro e w' ⟨rfl, ⟨nd, rfl⟩⟩; (try exact b4_0)) | (go_at_call 35; (with_reducible refine (spec_l1In.calls ((rd_T36 l0 a1).f3) 1 3 true _ A32.out).mono ?_); rintro e w' ⟨rfl, ⟨nd, rfl⟩⟩; (try exact b4_0)))
     repeat (go_quiet (fail); try go_wp2)
     go_ret
     exact ⟨ce_, cB1_ GE111.out⟩
    replace c33 := Bool.eq_false_iff.mpr c33
    subst c33
    rw [if_neg (show ¬ (false = true) by decide)] at H
    obtain rfl := Option.some.inj H
    obtain ⟨_, _, _, _, _, _, _, _, _, _, _, _, _, _⟩ := cells7 BK111.out
    go_wp2_with (first | (go_at_call 37; (with_reducible refine (spec_l3Reads.calls ((rd_T36 l0 a1).f0) t114 _ A12.out).mono ?_); rintro e w' ⟨rfl, ⟨nd, rfl⟩⟩; (try exact b4_0)) | (go_at_call 35; (with_reducible refine (spec_l1In.calls ((rd_T36 l0 a1).f3) 1 3 false _ A32.out).mono ?_); rintro e w' ⟨rfl, ⟨nd, rfl⟩⟩; (try exact b4_0)))
    repeat (go_quiet (fail); try go_wp2)
    go_ret
    exact ⟨ce_, cB1_ GE111.out⟩
   rw [if_neg c31] at H
   have c31b0 : (((rd_T36 l0 a1).f0) == 1) = false := beq_eq_false_iff_ne.mpr c31
   have c31b1 : (((rd_T36 l0 a1).f0) != 1) = true := bne_iff_ne.mpr c31
   obtain ⟨t120, A36, H⟩ := bnd_ H
   try dsimp only at H
   by_cases c37 : ((rd_T36 l0 a1).f0) = 2
   ·rw [if_pos c37] at H
    have c37b0 : (((rd_T36 l0 a1).f0) == 2) = true := beq_iff_eq.mpr c37
    have c37b1 : (((rd_T36 l0 a1).f0) != 2) = false := bne_eq_false_iff_eq.mpr c37
    clear c37
    obtain ⟨t121, A38, H⟩ := bnd_ H
    try dsimp only at H
    by_cases c39 : t121 = true
    rotate_left
    ·replace c39 := Bool.eq_false_iff.mpr c39
     subst c39
     rw [if_neg (show ¬ (false = true) by decide)] at H
     obtain rfl := Option.some.inj H
     obtain ⟨_, _, _, _, _, _, _, _, _, _, _, _, _, _⟩ := cells7 BK111.out
     go_wp2_with (first | (go_at_call 37; (with_reducible refine (spec_l3Reads.calls ((rd_T36 l0 a1).f0) t114 _ A12.out).mono ?_); rintro e w' ⟨rfl, ⟨nd, rfl⟩⟩; (try exact b4_0)) | (go_at_call 38; (with_reducible refine (spec_l3Width.calls k1 _ _ l0 ((rd_T36 l0 a1).f1) t120 _ ?side1 ?side2 A36.out).mono ?_); (case side1 => exact b4_3); (case side2 => exact HC0.out); rintro e w54 ⟨rfl, hb⟩; replace BK111 := Aside0.mk (blk_below (g := gb111) (o := .cells #[.int .i64 ((rd_T36 l0 a1).f0), .int .i64 ((rd_T36 l0 a1).f1), .int .i64 ((rd_T36 l0 a1).f2), .int .i64 ((rd_T36 l0 a1).f3), .int .i64 ((rd_T36 l0 a1).f4), .int .i64 ((rd_T36 l0 a1).f5), .slice A110_6 ((rd_T36 l0 a1).f6).length c110_6] 36 (0, 0)) b4_4 hb); replace HB := Aside0.mk (below_step b4_1 hb); (try clear hb); obtain ⟨_, _, _, _, _, _, _, _, _, _, _, _, _, _⟩ := cells7 BK111.out) | (go_at_call 35; (with_reducible refine (spec_l1In.calls ((rd_T36 l0 a1).f3) 0 (wrap64 (t120 - 1)) false _ A38.out).mono ?_); rintro e w' ⟨rfl, ⟨nd, rfl⟩⟩; (try exact b4_0)))
     repeat (go_quiet (fail); try go_wp2)
     go_ret
     exact ⟨ce_, cB1_ GE111.out⟩
    subst c39
    rw [if_pos rfl] at H
    obtain ⟨t122, A40, H⟩ := bnd_ H
    try dsimp only at H
    by_cases c41 : t122 = true
    rotate_left
    ·replace c41 := Bool.eq_false_iff.mpr c41
     subst c41
     rw [if_neg (show ¬ (false = true) by decide)] at H
     obtain rfl := Option.some.inj H
     obtain ⟨_, _, _, _, _, _, _, _, _, _, _, _, _, _⟩ := cells7 BK111.out
     go_wp2_with (first | (go_at_call 37; (with_reducible refine (spec_l3Reads.calls ((rd_T36 l0 a1).f0) t114 _ A12.out).mono ?_); rintro e w' ⟨rfl, ⟨nd, rfl⟩⟩; (try exact b4_0)) | (go_at_call 38; (with_reducible refine (spec_l3Width.calls k1 _ _ l0 ((rd_T36 l0 a1).f1) t120 _ ?side1 ?side2 A36.out).mono ?_); (case side1 => exact b4_3); (case side2 => exact HC0.out); rintro e w51 ⟨rfl, hb⟩; replace BK111 := Aside0.mk (blk_below (g := gb111) (o := .cells #[.int .i64 ((rd_T36 l0 a1).f0), .int .i64 ((rd_T36 l0 a1).f1), .int .i64 ((rd_T36 l0 a1).f2), .int .i64 ((rd_T36 l0 a1).f3), .int .i64 ((rd_T36 l0 a1).f4), .int .i64 ((rd_T36 l0 a1).f5), .slice A110_6 ((rd_T36 l0 a1).f6).length c110_6] 36 (0, 0)) b4_4 hb); replace HB := Aside0.mk (below_step b4_1 hb); (try clear hb); obtain ⟨_, _, _, _, _, _, _, _, _, _, _, _, _, _⟩ := cells7 BK111.out) | (go_at_call 35; (with_reducible refine (spec_l1In.calls ((rd_T36 l0 a1).f3) 0 (wrap64 (t120 - 1)) true _ A38.out).mono ?_); rintro e w' ⟨rfl, ⟨nd, rfl⟩⟩; (try exact b4_0)) | (go_at_call 35; (with_reducible refine (spec_l1In.calls ((rd_T36 l0 a1).f4) 0 2 false _ A40.out).mono ?_); rintro e w' ⟨rfl, ⟨nd, rfl⟩⟩; (try exact b4_0)))
     repeat (go_quiet (fail); try go_wp2)
     go_ret
     exact ⟨ce_, cB1_ GE111.out⟩
    subst c41
    rw [if_pos rfl] at H
    obtain ⟨t123, A42, H⟩ := bnd_ H
    try dsimp only at H
    by_cases c43 : t123 = true
    ·subst c43
     rw [if_pos rfl] at H
     obtain rfl := Option.some.inj H
     obtain ⟨_, _, _, _, _, _, _, _, _, _, _, _, _, _⟩ := cells7 BK111.out
     go_wp2_with (first | (go_at_call 37; (with_reducible refine (spec_l3Reads.calls ((rd_T36 l0 a1).f0) t114 _ A12.out).mono ?_); rintro e w' ⟨rfl, ⟨nd, rfl⟩⟩; (try exact b4_0)) | (go_at_call 38; (with_reducible refine (spec_l3Width.calls k1 _ _ l0 ((rd_T36 l0 a1).f1) t120 _ ?side1 ?side2 A36.out).mono ?_); (case side1 => exact b4_3); (case side2 => exact HC0.out); rintro e w45 ⟨rfl, hb⟩; replace BK111 := Aside0.mk (blk_below (g := gb111) (o := .cells #[.int .i64 ((rd_T36 l0 a1).f0), .int .i64 ((rd_T36 l0 a1).f1), .int .i64 ((rd_T36 l0 a1).f2), .int .i64 ((rd_T36 l0 a1).f3), .int .i64 ((rd_T36 l0 a1).f4), .int .i64 ((rd_T36 l0 a1).f5), .slice A110_6 ((rd_T36 l0 a1).f6).length c110_6] 36 (0, 0)) b4_4 hb); replace HB := Aside0.mk (below_step b4_1 hb); (try clear hb); obtain ⟨_, _, _, _, _, _, _, _, _, _, _, _, _, _⟩ := cells7 BK111.out) | (go_at_call 35; (with_reducible refine (spec_l1In.calls ((rd_T36 l0 a1).f3) 0 (wrap64 (t120 - 1)) true _ A38.out).mono ?_); rintro e w' ⟨rfl, ⟨nd, rfl⟩⟩; (try exact b4_0)) | (go_at_call 35; (with_reducible refine (spec_l1In.calls ((rd_T36 l0 a1).f4) 0 2 true _ A40.out).mono ?_); rintro e w' ⟨rfl, ⟨nd, rfl⟩⟩; (try exact b4_0)) | (go_at_call 35; (with_reducible refine (spec_l1In.calls ((rd_T36 l0 a1).f5) (-1000000000) 1000000000 true _ A42.out).mono ?_); rintro e w' ⟨rfl, ⟨nd, rfl⟩⟩; (try exact b4_0)))
     repeat (go_quiet (fail); try go_wp2)
     go_ret
     exact ⟨ce_, cB1_ GE111.out⟩
    replace c43 := Bool.eq_false_iff.mpr c43
    subst c43
    rw [if_neg (show ¬ (false = true) by decide)] at H
    obtain rfl := Option.some.inj H
    obtain ⟨_, _, _, _, _, _, _, _, _, _, _, _, _, _⟩ := cells7 BK111.out
    go_wp2_with (first | (go_at_call 37; (with_reducible refine (spec_l3Reads.calls ((rd_T36 l0 a1).f0) t114 _ A12.out).mono ?_); rintro e w' ⟨rfl, ⟨nd, rfl⟩⟩; (try exact b4_0)) | (go_at_call 38; (with_reducible refine (spec_l3Width.calls k1 _ _ l0 ((rd_T36 l0 a1).f1) t120 _ ?side1 ?side2 A36.out).mono ?_); (case side1 => exact b4_3); (case side2 => exact HC0.out); rintro e w48 ⟨rfl, hb⟩; replace BK111 := Aside0.mk (blk_below (g := gb111) (o := .cells #[.int .i64 ((rd_T36 l0 a1).f0), .int .i64 ((rd_T36 l0 a1).f1), .int .i64 ((rd_T36 l0 a1).f2), .int .i64 ((rd_T36 l0 a1).f3), .int .i64 ((rd_T36 l0 a1).f4), .int .i64 ((rd_T36 l0 a1).f5), .slice A110_6 ((rd_T36 l0 a1).f6).length c110_6] 36 (0, 0)) b4_4 hb); replace HB := Aside0.mk (below_step b4_1 hb); (try clear hb); obtain ⟨_, _, _, _, _, _, _, _, _, _, _, _, _, _⟩ := cells7 BK111.out) | (go_at_call 35; (with_reducible refine (spec_l1In.calls ((rd_T36 l0 a1).f3) 0 (wrap64 (t120 - 1)) true _ A38.out).mono ?_); rintro e w' ⟨rfl, ⟨nd, rfl⟩⟩; (try exact b4_0)) | (go_at_call 35; (with_reducible refine (spec_l1In.calls ((rd_T36 l0 a1).f4) 0 2 true _ A40.out).mono ?_); rintro e w' ⟨rfl, ⟨nd, rfl⟩⟩; (try exact b4_0)) | (go_at_call 35; (with_reducible refine (spec_l1In.calls ((rd_T36 l0 a1).f5) (-1000000000) 1000000000 false _ A42.out).mono ?_); rintro e w' ⟨rfl, ⟨nd, rfl⟩⟩; (try exact b4_0)))
    repeat (go_quiet (fail); try go_wp2)
    go_ret
    exact ⟨ce_, cB1_ GE111.out⟩
   rw [if_neg c37] at H
   have c37b0 : (((rd_T36 l0 a1).f0) == 2) = false := beq_eq_false_iff_ne.mpr c37
   have c37b1 : (((rd_T36 l0 a1).f0) != 2) = true := bne_iff_ne.mpr c37
   by_cases c56 : ((rd_T36 l0 a1).f0) = 3
   rotate_left
   ·rw [if_neg c56] at H
    have c56b0 : (((rd_T36 l0 a1).f0) == 3) = false := beq_eq_false_iff_ne.mpr c56
    have c56b1 : (((rd_T36 l0 a1).f0) != 3) = true := bne_iff_ne.mpr c56
    by_cases c72 : ((rd_T36 l0 a1).f0) = 4
    ·rw [if_pos c72] at H
     have c72b0 : (((rd_T36 l0 a1).f0) == 4) = true := beq_iff_eq.mpr c72
     have c72b1 : (((rd_T36 l0 a1).f0) != 4) = false := bne_eq_false_iff_eq.mpr c72
     clear c72
     obtain ⟨t126, A73, H⟩ := bnd_ H
     try dsimp only at H
     by_cases c74 : t120 = t126
     ·rw [if_pos c74] at H
      have c74b0 : (t120 == t126) = true := beq_iff_eq.mpr c74
      have c74b1 : (t120 != t126) = false := bne_eq_false_iff_eq.mpr c74
      clear c74
      obtain rfl := Option.some.inj H
      obtain ⟨_, _, _, _, _, _, _, _, _, _, _, _, _, _⟩ := cells7 BK111.out
      go_wp2_with (first | (go_at_call 37; (with_reducible refine (spec_l3Reads.calls ((rd_T36 l0 a1).f0) t114 _ A12.out).mono ?_); rintro e w' ⟨rfl, ⟨nd, rfl⟩⟩; (try exact b4_0)) | (go_at_call 38; (with_reducible refine (spec_l3Width.calls k1 _ _ l0 ((rd_T36 l0 a1).f1) t120 _ ?side1 ?side2 A36.out).mono ?_); (case side1 => exact b4_3); (case side2 => exact HC0.out); rintro e w76 ⟨rfl, hb⟩; replace BK111 := Aside0.mk (blk_below (g := gb111) (o := .cells #[.int .i64 ((rd_T36 l0 a1).f0), .int .i64 ((rd_T36 l0 a1).f1), .int .i64 ((rd_T36 l0 a1).f2), .int .i64 ((rd_T36 l0 a1).f3), .int .i64 ((rd_T36 l0 a1).f4), .int .i64 ((rd_T36 l0 a1).f5), .slice A110_6 ((rd_T36 l0 a1).f6).length c110_6] 36 (0, 0)) b4_4 hb); replace HB := Aside0.mk (below_step b4_1 hb); (try clear hb); obtain ⟨_, _, _, _, _, _, _, _, _, _, _, _, _, _⟩ := cells7 BK111.out) | (go_at_call 38; (with_reducible refine (spec_l3Width.calls k1 _ _ l0 ((rd_T36 l0 a1).f2) t126 _ ?side1 ?side2 A73.out).mono ?_); (case side1 => exact b4_6); (case side2 => exact HC0.out); rintro e w78 ⟨rfl, hb⟩; replace BK111 := Aside0.mk (blk_below (g := gb111) (o := .cells #[.int .i64 ((rd_T36 l0 a1).f0), .int .i64 ((rd_T36 l0 a1).f1), .int .i64 ((rd_T36 l0 a1).f2), .int .i64 ((rd_T36 l0 a1).f3), .int .i64 ((rd_T36 l0 a1).f4), .int .i64 ((rd_T36 l0 a1).f5), .slice A110_6 ((rd_T36 l0 a1).f6).length c110_6] 36 (0, 0)) b4_4 hb); replace HB := Aside0.mk (below_step b4_1 hb); (try clear hb)))
      repeat (go_quiet (fail); try go_wp2)
      go_ret
      exact ⟨ce_, cB1_ GE111.out⟩
     rw [if_neg c74] at H
     have c74b0 : (t120 == t126) = false := beq_eq_false_iff_ne.mpr c74
     have c74b1 : (t120 != t126) = true := bne_iff_ne.mpr c74
     obtain rfl := Option.some.inj H
     obtain ⟨_, _, _, _, _, _, _, _, _, _, _, _, _, _⟩ := cells7 BK111.out
     go_wp2_with (first | (go_at_call 37; (with_reducible refine (spec_l3Reads.calls ((rd_T36 l0 a1).f0) t114 _ A12.out).mono ?_); rintro e w' ⟨rfl, ⟨nd, rfl⟩⟩; (try exact b4_0)) | (go_at_call 38; (with_reducible refine (spec_l3Width.calls k1 _ _ l0 ((rd_T36 l0 a1).f1) t120 _ ?side1 ?side2 A36.out).mono ?_); (case side1 => exact b4_3); (case side2 => exact HC0.out); rintro e w80 ⟨rfl, hb⟩; replace BK111 := Aside0.mk (blk_below (g := gb111) (o := .cells #[.int .i64 ((rd_T36 l0 a1).f0), .int .i64 ((rd_T36 l0 a1).f1), .int .i64 ((rd_T36 l0 a1).f2), .int .i64 ((rd_T36 l0 a1).f3), .int .i64 ((rd_T36 l0 a1).f4), .int .i64 ((rd_T36 l0 a1).f5), .slice A110_6 ((rd_T36 l0 a1).f6).length c110_6] 36 (0, 0)) b4_4 hb); replace HB := Aside0.mk (below_step b4_1 hb); (try clear hb); obtain ⟨_, _, _, _, _, _, _, _, _, _, _, _, _, _⟩ := cells7 BK111.out) | (go_at_call 38; (with_reducible refine (spec_l3Width.calls k1 _ _ l0 ((rd_T36 l0 a1).f2) t126 _ ?side1 ?side2 A73.out).mono ?_); (case side1 => exact b4_6); (case side2 => exact HC0.out); rintro e w82 ⟨rfl, hb⟩; replace BK111 := Aside0.mk (blk_below (g := gb111) (o := .cells #[.int .i64 ((rd_T36 l0 a1).f0), .int .i64 ((rd_T36 l0 a1).f1), .int .i64 ((rd_T36 l0 a1).f2), .int .i64 ((rd_T36 l0 a1).f3), .int .i64 ((rd_T36 l0 a1).f4), .int .i64 ((rd_T36 l0 a1).f5), .slice A110_6 ((rd_T36 l0 a1).f6).length c110_6] 36 (0, 0)) b4_4 hb); replace HB := Aside0.mk (below_step b4_1 hb); (try clear hb)))
     repeat (go_quiet (fail); try go_wp2)
     go_ret
     exact ⟨ce_, cB1_ GE111.out⟩
    rw [if_neg c72] at H
    have c72b0 : (((rd_T36 l0 a1).f0) == 4) = false := beq_eq_false_iff_ne.mpr c72
    have c72b1 : (((rd_T36 l0 a1).f0) != 4) = true := bne_iff_ne.mpr c72
    by_cases c83 : ((rd_T36 l0 a1).f0) = 6
    ·rw [if_pos c83] at H
     have c83b0 : (((rd_T36 l0 a1).f0) == 6) = true := beq_iff_eq.mpr c83
     have c83b1 : (((rd_T36 l0 a1).f0) != 6) = false := bne_eq_false_iff_eq.mpr c83
     clear c83
     obtain ⟨t127, A84, H⟩ := bnd_ H
     try dsimp only at H
     obtain ⟨t128, A85, H⟩ := bnd_ H
     try dsimp only at H
     obtain ⟨t129, A86, H⟩ := bnd_ H
     try dsimp only at H
     by_cases c87 : t129 = true
     ·subst c87
      rw [if_pos rfl] at H
      by_cases c88 : (wrap64 ((wrap64 (t120 + t127)) - ((rd_T36 l0 a1).f3))) > 4
      ·rw [if_pos c88] at H
       have c88b0 : decide (4 < (wrap64 ((wrap64 (t120 + t127)) - ((rd_T36 l0 a1).f3)))) = true := decide_eq_true c88
       clear c88
       obtain rfl := Option.some.inj H
       obtain ⟨_, _, _, _, _, _, _, _, _, _, _, _, _, _⟩ := cells7 BK111.out
       go_wp2_with (first | (go_at_call 37; (with_reducible refine (spec_l3Reads.calls ((rd_T36 l0 a1).f0) t114 _ A12.out).mono ?_); rintro e w' ⟨rfl, ⟨nd, rfl⟩⟩; (try exact b4_0)) | (go_at_call 38; (with_reducible refine (spec_l3Width.calls k1 _ _ l0 ((rd_T36 l0 a1).f1) t120 _ ?side1 ?side2 A36.out).mono ?_); (case side1 => exact b4_3); (case side2 => exact HC0.out); rintro e w90 ⟨rfl, hb⟩; replace BK111 := Aside0.mk (blk_below (g := gb111) (o := .cells #[.int .i64 ((rd_T36 l0 a1).f0), .int .i64 ((rd_T36 l0 a1).f1), .int .i64 ((rd_T36 l0 a1).f2), .int .i64 ((rd_T36 l0 a1).f3), .int .i64 ((rd_T36 l0 a1).f4), .int .i64 ((rd_T36 l0 a1).f5), .slice A110_6 ((rd_T36 l0 a1).f6).length c110_6] 36 (0, 0)) b4_4 hb); replace HB := Aside0.mk (below_step b4_1 hb); (try clear hb); obtain ⟨_, _, _, _, _, _, _, _, _, _, _, _, _, _⟩ := cells7 BK111.out) | (go_at_call 38; (with_reducible refine (spec_l3Width.calls k1 _ _ l0 ((rd_T36 l0 a1).f2) t127 _ ?side1 ?side2 A84.out).mono ?_); (case side1 => exact b4_6); (case side2 => exact HC0.out); rintro e w92 ⟨rfl, hb⟩; replace BK111 := Aside0.mk (blk_below (g := gb111) (o := .cells #[.int .i64 ((rd_T36 l0 a1).f0), .int .i64 ((rd_T36 l0 a1).f1), .int .i64 ((rd_T36 l0 a1).f2), .int .i64 ((rd_T36 l0 a1).f3), .int .i64 ((rd_T36 l0 a1).f4), .int .i64 ((rd_T36 l0 a1).f5), .slice A110_6 ((rd_T36 l0 a1).f6).length c110_6] 36 (0, 0)) b4_4 hb); replace HB := Aside0.mk (below_step b4_1 hb); (try clear hb); obtain ⟨_, _, _, _, _, _, _, _, _, _, _, _, _, _⟩ := cells7 BK111.out))
       repeat (go_quiet (first | (go_at_call 39; (with_reducible refine (spec_l1Min.calls t120 t127 t128 _ A85.out).mono ?_); rintro e w' ⟨rfl, ⟨nd, rfl⟩⟩; (try exact b4_0)) | (go_at_call 35; (with_reducible refine (spec_l1In.calls ((rd_T36 l0 a1).f3) 1 t128 true _ A86.out).mono ?_); rintro e w' ⟨rfl, ⟨nd, rfl⟩⟩; (try exact b4_0))); try go_wp2)
       go_ret
       exact ⟨ce_, cB1_ GE111.out⟩
      rw [if_neg c88] at H
      have c88b0 : decide (4 < (wrap64 ((wrap64 (t120 + t127)) - ((rd_T36 l0 a1).f3)))) = false := decide_eq_false c88
      clear c88
      obtain rfl := Option.some.inj H
      obtain ⟨_, _, _, _, _, _, _, _, _, _, _, _, _, _⟩ := cells7 BK111.out
      go_wp2_with (first | (go_at_call 37; (with_reducible refine (spec_l3Reads.calls ((rd_T36 l0 a1).f0) t114 _ A12.out).mono ?_); rintro e w' ⟨rfl, ⟨nd, rfl⟩⟩; (try exact b4_0)) | (go_at_call 38; (with_reducible refine (spec_l3Width.calls k1 _ _ l0 ((rd_T36 l0 a1).f1) t120 _ ?side1 ?side2 A36.out).mono ?_); (case side1 => exact b4_3); (case side2 => exact HC0.out); rintro e w95 ⟨rfl, hb⟩; replace BK111 := Aside0.mk (blk_below (g := gb111) (o := .cells #[.int .i64 ((rd_T36 l0 a1).f0), .int .i64 ((rd_T36 l0 a1).f1), .int .i64 ((rd_T36 l0 a1).f2), .int .i64 ((rd_T36 l0 a1).f3), .int .i64 ((rd_T36 l0 a1).f4), .int .i64 ((rd_T36 l0 a1).f5), .slice A110_6 ((rd_T36 l0 a1).f6).length c110_6] 36 (0, 0)) b4_4 hb); replace HB := Aside0.mk (below_step b4_1 hb); (try clear hb); obtain ⟨_, _, _, _, _, _, _, _, _, _, _, _, _, _⟩ := cells7 BK111.out) | (go_at_call 38; (with_reducible refine (spec_l3Width.calls k1 _ _ l0 ((rd_T36 l0 a1).f2) t127 _ ?side1 ?side2 A84.out).mono ?_); (case side1 => exact b4_6); (case side2 => exact HC0.out); rintro e w97 ⟨rfl, hb⟩; replace BK111 := Aside0.mk (blk_below (g := gb111) (o := .cells #[.int .i64 ((rd_T36 l0 a1).f0), .int .i64 ((rd_T36 l0 a1).f1), .int .i64 ((rd_T36 l0 a1).f2), .int .i64 ((rd_T36 l0 a1).f3), .int .i64 ((rd_T36 l0 a1).f4), .int .i64 ((rd_T36 l0 a1).f5), .slice A110_6 ((rd_T36 l0 a1).f6).length c110_6] 36 (0, 0)) b4_4 hb); replace HB := Aside0.mk (below_step b4_1 hb); (try clear hb); obtain ⟨_, _, _, _, _, _, _, _, _, _, _, _, _, _⟩ := cells7 BK111.out))
      repeat (go_quiet (first | (go_at_call 39; (with_reducible refine (spec_l1Min.calls t120 t127 t128 _ A85.out).mono ?_); rintro e w' ⟨rfl, ⟨nd, rfl⟩⟩; (try exact b4_0)) | (go_at_call 35; (with_reducible refine (spec_l1In.calls ((rd_T36 l0 a1).f3) 1 t128 true _ A86.out).mono ?_); rintro e w' ⟨rfl, ⟨nd, rfl⟩⟩; (try exact b4_0))); try go_wp2)
      go_ret
      exact ⟨ce_, cB1_ GE111.out⟩
     replace c87 := Bool.eq_false_iff.mpr c87
     subst c87
     rw [if_neg (show ¬ (false = true) by decide)] at H
     obtain rfl := Option.some.inj H
     obtain ⟨_, _, _, _, _, _, _, _, _, _, _, _, _, _⟩ := cells7 BK111.out
     go_wp2_with (first | (go_at_call 37; (with_reducible refine (spec_l3Reads.calls ((rd_T36 l0 a1).f0) t114 _ A12.out).mono ?_); rintro e w' ⟨rfl, ⟨nd, rfl⟩⟩; (try exact b4_0)) | (go_at_call 38; (with_reducible refine (spec_l3Width.calls k1 _ _ l0 ((rd_T36 l0 a1).f1) t120 _ ?side1 ?side2 A36.out).mono ?_); (case side1 => exact b4_3); (case side2 => exact HC0.out); rintro e w100 ⟨rfl, hb⟩; replace BK111 := Aside0.mk (blk_below (g := gb111) (o := .cells #[.int .i64 ((rd_T36 l0 a1).f0), .int .i64 ((rd_T36 l0 a1).f1), .int .i64 ((rd_T36 l0 a1).f2), .int .i64 ((rd_T36 l0 a1).f3), .int .i64 ((rd_T36 l0 a1).f4), .int .i64 ((rd_T36 l0 a1).f5), .slice A110_6 ((rd_T36 l0 a1).f6).length c110_6] 36 (0, 0)) b4_4 hb); replace HB := Aside0.mk (below_step b4_1 hb); (try clear hb); obtain ⟨_, _, _, _, _, _, _, _, _, _, _, _, _, _⟩ := cells7 BK111.out) | (go_at_call 38; (with_reducible refine (spec_l3Width.calls k1 _ _ l0 ((rd_T36 l0 a1).f2) t127 _ ?side1 ?side2 A84.out).mono ?_); (case side1 => exact b4_6); (case side2 => exact HC0.out); rintro e w102 ⟨rfl, hb⟩; replace BK111 := Aside0.mk (blk_below (g := gb111) (o := .cells #[.int .i64 ((rd_T36 l0 a1).f0), .int .i64 ((rd_T36 l0 a1).f1), .int .i64 ((rd_T36 l0 a1).f2), .int .i64 ((rd_T36 l0 a1).f3), .int .i64 ((rd_T36 l0 a1).f4), .int .i64 ((rd_T36 l0 a1).f5), .slice A110_6 ((rd_T36 l0 a1).f6).length c110_6] 36 (0, 0)) b4_4 hb); replace HB := Aside0.mk (below_step b4_1 hb); (try clear hb); obtain ⟨_, _, _, _, _, _, _, _, _, _, _, _, _, _⟩ := cells7 BK111.out))
     repeat (go_quiet (first | (go_at_call 39; (with_reducible refine (spec_l1Min.calls t120 t127 t128 _ A85.out).mono ?_); rintro e w' ⟨rfl, ⟨nd, rfl⟩⟩; (try exact b4_0)) | (go_at_call 35; (with_reducible refine (spec_l1In.calls ((rd_T36 l0 a1).f3) 1 t128 false _ A86.out).mono ?_); rintro e w' ⟨rfl, ⟨nd, rfl⟩⟩; (try exact b4_0))); try go_wp2)
     go_ret
     exact ⟨ce_, cB1_ GE111.out⟩
    rw [if_neg c83] at H
    have c83b0 : (((rd_T36 l0 a1).f0) == 6) = false := beq_eq_false_iff_ne.mpr c83
    have c83b1 : (((rd_T36 l0 a1).f0) != 6) = true := bne_iff_ne.mpr c83
    by_cases c104 : ((rd_T36 l0 a1).f0) = 7
    ·rw [if_pos c104] at H
     have c104b0 : (((rd_T36 l0 a1).f0) == 7) = true := beq_iff_eq.mpr c104
     have c104b1 : (((rd_T36 l0 a1).f0) != 7) = false := bne_eq_false_iff_eq.mpr c104
     clear c104
     obtain ⟨t130, A105, H⟩ := bnd_ H
     try dsimp only at H
     obtain ⟨t131, A106, H⟩ := bnd_ H
     try dsimp only at H
     by_cases c107 : t131 = true
     ·subst c107
      rw [if_pos rfl] at H
      obtain rfl := Option.some.inj H
      obtain ⟨_, _, _, _, _, _, _, _, _, _, _, _, _, _⟩ := cells7 BK111.out
      go_wp2_with (first | (go_at_call 37; (with_reducible refine (spec_l3Reads.calls ((rd_T36 l0 a1).f0) t114 _ A12.out).mono ?_); rintro e w' ⟨rfl, ⟨nd, rfl⟩⟩; (try exact b4_0)) | (go_at_call 38; (with_reducible refine (spec_l3Width.calls k1 _ _ l0 ((rd_T36 l0 a1).f1) t120 _ ?side1 ?side2 A36.out).mono ?_); (case side1 => exact b4_3); (case side2 => exact HC0.out); rintro e w109 ⟨rfl, hb⟩; replace BK111 := Aside0.mk (blk_below (g := gb111) (o := .cells #[.int .i64 ((rd_T36 l0 a1).f0), .int .i64 ((rd_T36 l0 a1).f1), .int .i64 ((rd_T36 l0 a1).f2), .int .i64 ((rd_T36 l0 a1).f3), .int .i64 ((rd_T36 l0 a1).f4), .int .i64 ((rd_T36 l0 a1).f5), .slice A110_6 ((rd_T36 l0 a1).f6).length c110_6] 36 (0, 0)) b4_4 hb); replace HB := Aside0.mk (below_step b4_1 hb); (try clear hb); obtain ⟨_, _, _, _, _, _, _, _, _, _, _, _, _, _⟩ := cells7 BK111.out))
      repeat (go_quiet (first | (go_at_call 39; (with_reducible refine (spec_l1Min.calls t120 3 t130 _ A105.out).mono ?_); rintro e w' ⟨rfl, ⟨nd, rfl⟩⟩; (try exact b4_0)) | (go_at_call 35; (with_reducible refine (spec_l1In.calls ((rd_T36 l0 a1).f3) 0 t130 true _ A106.out).mono ?_); rintro e w' ⟨rfl, ⟨nd, rfl⟩⟩; (try exact b4_0))); try go_wp2)
      go_ret
      exact ⟨ce_, cB1_ GE111.out⟩
     replace c107 := Bool.eq_false_iff.mpr c107
     subst c107
     rw [if_neg (show ¬ (false = true) by decide)] at H
     obtain rfl := Option.some.inj H
     obtain ⟨_, _, _, _, _, _, _, _, _, _, _, _, _, _⟩ := cells7 BK111.out
     go_wp2_with (first | (go_at_call 37; (with_reducible refine (spec_l3Reads.calls ((rd_T36 l0 a1).f0) t114 _ A12.out).mono ?_); rintro e w' ⟨rfl, ⟨nd, rfl⟩⟩; (try exact b4_0)) | (go_at_call 38; (with_reducible refine (spec_l3Width.calls k1 _ _ l0 ((rd_T36 l0 a1).f1) t120 _ ?side1 ?side2 A36.out).mono ?_); (case side1 => exact b4_3); (case side2 => exact HC0.out); rintro e w112 ⟨rfl, hb⟩; replace BK111 := Aside0.mk (blk_below (g := gb111) (o := .cells #[.int .i64 ((rd_T36 l0 a1).f0), .int .i64 ((rd_T36 l0 a1).f1), .int .i64 ((rd_T36 l0 a1).f2), .int .i64 ((rd_T36 l0 a1).f3), .int .i64 ((rd_T36 l0 a1).f4), .int .i64 ((rd_T36 l0 a1).f5), .slice A110_6 ((rd_T36 l0 a1).f6).length c110_6] 36 (0, 0)) b4_4 hb); replace HB := Aside0.mk (below_step b4_1 hb); (try clear hb); obtain ⟨_, _, _, _, _, _, _, _, _, _, _, _, _, _⟩ := cells7 BK111.out))
     repeat (go_quiet (first | (go_at_call 39; (with_reducible refine (spec_l1Min.calls t120 3 t130 _ A105.out).mono ?_); rintro e w' ⟨rfl, ⟨nd, rfl⟩⟩; (try exact b4_0)) | (go_at_call 35; (with_reducible refine (spec_l1In.calls ((rd_T36 l0 a1).f3) 0 t130 false _ A106.out).mono ?_); rintro e w' ⟨rfl, ⟨nd, rfl⟩⟩; (try exact b4_0))); try go_wp2)
     go_ret
     exact ⟨ce_, cB1_ GE111.out⟩
    rw [if_neg c104] at H
    have c104b0 : (((rd_T36 l0 a1).f0) == 7) = false := beq_eq_false_iff_ne.mpr c104
    have c104b1 : (((rd_T36 l0 a1).f0) != 7) = true := bne_iff_ne.mpr c104
    have HC114 := Aside0.mk H
    clear H
    obtain ⟨_, _, _, _, _, _, _, _, _, _, _, _, _, _⟩ := cells7 BK111.out
    go_upto_if 145 with (first | (go_at_call 37; (with_reducible refine (spec_l3Reads.calls ((rd_T36 l0 a1).f0) t114 _ A12.out).mono ?_); rintro e w' ⟨rfl, ⟨nd, rfl⟩⟩; (try exact b4_0)) | (go_at_call 38; (with_reducible refine (spec_l3Width.calls k1 _ _ l0 ((rd_T36 l0 a1).f1) t120 _ ?side1 ?side2 A36.out).mono ?_); (case side1 => exact b4_3); (case side2 => exact HC0.out); rintro e w116 ⟨rfl, hb⟩; replace BK111 := Aside0.mk (blk_below (g := gb111) (o := .cells #[.int .i64 ((rd_T36 l0 a1).f0), .int .i64 ((rd_T36 l0 a1).f1), .int .i64 ((rd_T36 l0 a1).f2), .int .i64 ((rd_T36 l0 a1).f3), .int .i64 ((rd_T36 l0 a1).f4), .int .i64 ((rd_T36 l0 a1).f5), .slice A110_6 ((rd_T36 l0 a1).f6).length c110_6] 36 (0, 0)) b4_4 hb); replace HB := Aside0.mk (below_step b4_1 hb); (try clear hb); obtain ⟨hcz117_0, hcz117_1, hcz117_2, hcz117_3, hcz117_4, hcz117_5, hcz117_6, hfz117_0, hfz117_1, hfz117_2, hfz117_3, hfz117_4, hfz117_5, hfz117_6⟩ := cells7 BK111.out))
    repeat (go_quiet (fail); go_upto_if 145 with (first | (go_at_call 37; (with_reducible refine (spec_l3Reads.calls ((rd_T36 l0 a1).f0) t114 _ A12.out).mono ?_); rintro e w' ⟨rfl, ⟨nd, rfl⟩⟩; (try exact b4_0)) | (go_at_call 38; (with_reducible refine (spec_l3Width.calls k1 _ _ l0 ((rd_T36 l0 a1).f1) t120 _ ?side1 ?side2 A36.out).mono ?_); (case side1 => exact b4_3); (case side2 => exact HC0.out); rintro e w116 ⟨rfl, hb⟩; replace BK111 := Aside0.mk (blk_below (g := gb111) (o := .cells #[.int .i64 ((rd_T36 l0 a1).f0), .int .i64 ((rd_T36 l0 a1).f1), .int .i64 ((rd_T36 l0 a1).f2), .int .i64 ((rd_T36 l0 a1).f3), .int .i64 ((rd_T36 l0 a1).f4), .int .i64 ((rd_T36 l0 a1).f5), .slice A110_6 ((rd_T36 l0 a1).f6).length c110_6] 36 (0, 0)) b4_4 hb); replace HB := Aside0.mk (below_step b4_1 hb); (try clear hb); obtain ⟨hcz117_0, hcz117_1, hcz117_2, hcz117_3, hcz117_4, hcz117_5, hcz117_6, hfz117_0, hfz117_1, hfz117_2, hfz117_3, hfz117_4, hfz117_5, hfz117_6⟩ := cells7 BK111.out)))
    (try simp only [Act.put, List.setIfInBounds_toArray, List.set_cons_zero, List.set_cons_succ])
    go_cut [145] (fun v145 wc => ∃ (kq : Nat) (x145_113 : Bool), v145 = .bool x145_113 ∧ Aside0 (spec_l3Node.j3 kq t120 x145_113 ((rd_T36 l0 a1).f0) ((rd_T36 l0 a1).f1) ((rd_T36 l0 a1).f2) ((rd_T36 l0 a1).f3) ((rd_T36 l0 a1).f4) ((rd_T36 l0 a1).f5) ((rd_T36 l0 a1).f6) = some r) ∧ Aside0 (kq ≤ k1) ∧ Aside0 (wc.heap[gb111]? = some (.cells #[.int .i64 ((rd_T36 l0 a1).f0), .int .i64 ((rd_T36 l0 a1).f1), .int .i64 ((rd_T36 l0 a1).f2), .int .i64 ((rd_T36 l0 a1).f3), .int .i64 ((rd_T36 l0 a1).f4), .int .i64 ((rd_T36 l0 a1).f5), (.slice A110_6 ((rd_T36 l0 a1).f6).length c110_6)] 36 (0, 0))) ∧ Aside0 (Below w.heap.size w wc))
    case first =>
     have H := HC114.out
     clear HC114
     by_cases c118 : ((rd_T36 l0 a1).f0) = 8
     ·rw [if_pos c118] at H
      have c118b0 : (((rd_T36 l0 a1).f0) == 8) = true := beq_iff_eq.mpr c118
      have c118b1 : (((rd_T36 l0 a1).f0) != 8) = false := bne_eq_false_iff_eq.mpr c118
      clear c118
      (first | rw [c118b0] | (simp only [i64_w, i32_w]; rw [c118b0]) | skip)
      have H' := Aside0.mk H
      clear H
      go_wp2
      repeat (go_quiet (fail); try go_wp2)
      go_meet
      case rel => exact ⟨_, ((((rd_T36 l0 a1).f0) == 8)), cs_, H', ⟨q4_0⟩, ⟨cO_ BK111.out⟩, ⟨cB1_ GE111.out⟩⟩
     rw [if_neg c118] at H
     have c118b0 : (((rd_T36 l0 a1).f0) == 8) = false := beq_eq_false_iff_ne.mpr c118
     have c118b1 : (((rd_T36 l0 a1).f0) != 8) = true := bne_iff_ne.mpr c118
     (first | rw [c118b0] | (simp only [i64_w, i32_w]; rw [c118b0]) | skip)
     by_cases c119 : ((rd_T36 l0 a1).f0) = 9
     ·rw [if_pos c119] at H
      have c119b0 : (((rd_T36 l0 a1).f0) == 9) = true := beq_iff_eq.mpr c119
      have c119b1 : (((rd_T36 l0 a1).f0) != 9) = false := bne_eq_false_iff_eq.mpr c119
      clear c119
      have H' := Aside0.mk H
      clear H
      go_wp2
      repeat (go_quiet (fail); try go_wp2)
      go_meet
      case rel => exact ⟨_, ((((rd_T36 l0 a1).f0) == 9)), cs_, H', ⟨q4_0⟩, ⟨cO_ BK111.out⟩, ⟨cB1_ GE111.out⟩⟩
     rw [if_neg c119] at H
     have c119b0 : (((rd_T36 l0 a1).f0) == 9) = false := beq_eq_false_iff_ne.mpr c119
     have c119b1 : (((rd_T36 l0 a1).f0) != 9) = true := bne_iff_ne.mpr c119
     have H' := Aside0.mk H
     clear H
     go_wp2
     repeat (go_quiet (fail); try go_wp2)
     go_meet
     case rel => exact ⟨_, ((((rd_T36 l0 a1).f0) == 10)), cs_, H', ⟨q4_0⟩, ⟨cO_ BK111.out⟩, ⟨cB1_ GE111.out⟩⟩
    case rest =>
     clear HC114
     try clear c56
     try clear c56b0
     try clear c56b1
     try clear c72
     try clear c72b0
     try clear c72b1
     try clear c83
     try clear c83b0
     try clear c83b1
     try clear c104
     try clear c104b0
     try clear c104b1
     obtain ⟨kq, x145_113, rfl, HA, HJ113, BK111, HB⟩ := hcut
     cases kq with
     | zero => exact absurd HA.out (by simp [spec_l3Node.j3])
     | succ kj113 =>
      have H := HA.out
      clear HA
      simp only [spec_l3Node.j3] at H
      by_cases c120 : x145_113 = true
      rotate_left
      ·replace c120 := Bool.eq_false_iff.mpr c120
       subst c120
       rw [if_neg (show ¬ (false = true) by decide)] at H
       obtain rfl := Option.some.inj H
       go_wp2
       repeat (go_quiet (fail); try go_wp2)
       go_ret
       exact ⟨ce_, cB1_ GE111.out⟩
      subst c120
      rw [if_pos rfl] at H
      obtain ⟨t132, A121, H⟩ := bnd_ H
      try dsimp only at H
      by_cases c122 : t132 = true
      ·subst c122
       rw [if_pos rfl] at H
       obtain rfl := Option.some.inj H
       obtain ⟨_, _, _, _, _, _, _, _, _, _, _, _, _, _⟩ := cells7 BK111.out
       go_wp2_with (first | (go_at_call 35; (with_reducible refine (spec_l1In.calls ((rd_T36 l0 a1).f3) 0 (wrap64 (t120 - 1)) true _ A121.out).mono ?_); rintro e w' ⟨rfl, ⟨nd, rfl⟩⟩; (try exact b4_0)))
       repeat (go_quiet (fail); try go_wp2)
       go_ret
       exact ⟨ce_, cB1_ GE111.out⟩
      replace c122 := Bool.eq_false_iff.mpr c122
      subst c122
      rw [if_neg (show ¬ (false = true) by decide)] at H
      obtain rfl := Option.some.inj H
      obtain ⟨_, _, _, _, _, _, _, _, _, _, _, _, _, _⟩ := cells7 BK111.out
      go_wp2_with (first | (go_at_call 35; (with_reducible refine (spec_l1In.calls ((rd_T36 l0 a1).f3) 0 (wrap64 (t120 - 1)) false _ A121.out).mono ?_); rintro e w' ⟨rfl, ⟨nd, rfl⟩⟩; (try exact b4_0)))
      repeat (go_quiet (fail); try go_wp2)
      go_ret
      exact ⟨ce_, cB1_ GE111.out⟩
   rw [if_pos c56] at H
   have c56b0 : (((rd_T36 l0 a1).f0) == 3) = true := beq_iff_eq.mpr c56
   have c56b1 : (((rd_T36 l0 a1).f0) != 3) = false := bne_eq_false_iff_eq.mpr c56
   clear c56
   have HC57 := Aside0.mk H
   clear H
   obtain ⟨_, _, _, _, _, _, _, _, _, _, _, _, _, _⟩ := cells7 BK111.out
   go_upto_region 24 with (first | (go_at_call 37; (with_reducible refine (spec_l3Reads.calls ((rd_T36 l0 a1).f0) t114 _ A12.out).mono ?_); rintro e w' ⟨rfl, ⟨nd, rfl⟩⟩; (try exact b4_0)) | (go_at_call 38; (with_reducible refine (spec_l3Width.calls k1 _ _ l0 ((rd_T36 l0 a1).f1) t120 _ ?side1 ?side2 A36.out).mono ?_); (case side1 => exact b4_3); (case side2 => exact HC0.out); rintro e w59 ⟨rfl, hb⟩; replace BK111 := Aside0.mk (blk_below (g := gb111) (o := .cells #[.int .i64 ((rd_T36 l0 a1).f0), .int .i64 ((rd_T36 l0 a1).f1), .int .i64 ((rd_T36 l0 a1).f2), .int .i64 ((rd_T36 l0 a1).f3), .int .i64 ((rd_T36 l0 a1).f4), .int .i64 ((rd_T36 l0 a1).f5), .slice A110_6 ((rd_T36 l0 a1).f6).length c110_6] 36 (0, 0)) b4_4 hb); replace HB := Aside0.mk (below_step b4_1 hb); (try clear hb); obtain ⟨hcz60_0, hcz60_1, hcz60_2, hcz60_3, hcz60_4, hcz60_5, hcz60_6, hfz60_0, hfz60_1, hfz60_2, hfz60_3, hfz60_4, hfz60_5, hfz60_6⟩ := cells7 BK111.out))
   repeat (go_quiet (fail); go_upto_region 24 with (first | (go_at_call 37; (with_reducible refine (spec_l3Reads.calls ((rd_T36 l0 a1).f0) t114 _ A12.out).mono ?_); rintro e w' ⟨rfl, ⟨nd, rfl⟩⟩; (try exact b4_0)) | (go_at_call 38; (with_reducible refine (spec_l3Width.calls k1 _ _ l0 ((rd_T36 l0 a1).f1) t120 _ ?side1 ?side2 A36.out).mono ?_); (case side1 => exact b4_3); (case side2 => exact HC0.out); rintro e w59 ⟨rfl, hb⟩; replace BK111 := Aside0.mk (blk_below (g := gb111) (o := .cells #[.int .i64 ((rd_T36 l0 a1).f0), .int .i64 ((rd_T36 l0 a1).f1), .int .i64 ((rd_T36 l0 a1).f2), .int .i64 ((rd_T36 l0 a1).f3), .int .i64 ((rd_T36 l0 a1).f4), .int .i64 ((rd_T36 l0 a1).f5), .slice A110_6 ((rd_T36 l0 a1).f6).length c110_6] 36 (0, 0)) b4_4 hb); replace HB := Aside0.mk (below_step b4_1 hb); (try clear hb); obtain ⟨hcz60_0, hcz60_1, hcz60_2, hcz60_3, hcz60_4, hcz60_5, hcz60_6, hfz60_0, hfz60_1, hfz60_2, hfz60_3, hfz60_4, hfz60_5, hfz60_6⟩ := cells7 BK111.out)))
   (try simp only [Act.put, List.setIfInBounds_toArray, List.set_cons_zero, List.set_cons_succ])
   go_cut [92] (fun v92 wc => ∃ (kq : Nat) (x92_56 : Bool), v92 = .bool x92_56 ∧ Aside0 (spec_l3Node.j1 kq t120 x92_56 ((rd_T36 l0 a1).f0) ((rd_T36 l0 a1).f1) ((rd_T36 l0 a1).f2) ((rd_T36 l0 a1).f3) ((rd_T36 l0 a1).f4) ((rd_T36 l0 a1).f5) ((rd_T36 l0 a1).f6) = some r) ∧ Aside0 (kq ≤ k1) ∧ Aside0 (wc.heap[gb111]? = some (.cells #[.int .i64 ((rd_T36 l0 a1).f0), .int .i64 ((rd_T36 l0 a1).f1), .int .i64 ((rd_T36 l0 a1).f2), .int .i64 ((rd_T36 l0 a1).f3), .int .i64 ((rd_T36 l0 a1).f4), .int .i64 ((rd_T36 l0 a1).f5), (.slice A110_6 ((rd_T36 l0 a1).f6).length c110_6)] 36 (0, 0))) ∧ Aside0 (Below w.heap.size w wc))
   case first =>
    have H := HC57.out
    clear HC57
    by_cases c61 : (((rd_T36 l0 a1).f6).length : Int) < 1
    ·rw [if_pos c61] at H
     have c61b0 := decide_eq_true c61
     have c61b1 : decide (((rd_T36 l0 a1).f6).length < 1) = true := decide_eq_true (by omega)
     clear c61
     (first | rw [c61b0] | (simp only [i64_w, i32_w]; rw [c61b0]) | skip)
     have H' := Aside0.mk H
     clear H
     obtain ⟨_, _, _, _, _, _, _, _, _, _, _, _, _, _⟩ := cells7 BK111.out
     go_wp2
     repeat (go_quiet (fail); try go_wp2)
     go_meet
     case rel => exact ⟨_, (true), cs_, H', ⟨q4_0⟩, ⟨cO_ BK111.out⟩, ⟨cB1_ GE111.out⟩⟩
    rw [if_neg c61] at H
    have c61b0 := decide_eq_false c61
    have c61b1 : decide (((rd_T36 l0 a1).f6).length < 1) = false := decide_eq_false (by omega)
    clear c61
    (first | rw [c61b0] | (simp only [i64_w, i32_w]; rw [c61b0]) | skip)
    have H' := Aside0.mk H
    clear H
    obtain ⟨_, _, _, _, _, _, _, _, _, _, _, _, _, _⟩ := cells7 BK111.out
    go_wp2
    repeat (go_quiet (fail); try go_wp2)
    go_meet
    case rel => exact ⟨_, (decide ((((rd_T36 l0 a1).f6).length : Int) > 4)), cs_, H', ⟨q4_0⟩, ⟨cO_ BK111.out⟩, ⟨cB1_ GE111.out⟩⟩
   case rest =>
    clear HC57
    try clear c13b0
    try clear c31
    try clear c31b0
    try clear c31b1
    try clear c37
    try clear c37b0
    try clear c37b1
    try clear c56b0
    try clear c56b1
    obtain ⟨kq, x92_56, rfl, HA, HJ56, BK111, HB⟩ := hcut
    cases kq with
    | zero => exact absurd HA.out (by simp [spec_l3Node.j1])
    | succ kj56 =>
     have H := HA.out
     clear HA
     simp only [spec_l3Node.j1] at H
     by_cases c64 : x92_56 = true
     ·subst c64
      rw [if_pos rfl] at H
      obtain rfl := Option.some.inj H
      go_wp2
      repeat (go_quiet (fail); try go_wp2)
      go_ret
      exact ⟨ce_, cB1_ GE111.out⟩
     replace c64 := Bool.eq_false_iff.mpr c64
     subst c64
     rw [if_neg (show ¬ (false = true) by decide)] at H
     have H' := Aside0.mk H
     clear H
     go_wp2
     repeat (go_quiet (fail); try go_wp2)
     go_loopg [9] kj56 (fun kq v9 w' => ∃ (x9_3 : Int), v9 = .int .i64 x9_3 ∧ Aside0 (spec_l3Node.l1 kq t120 x9_3 ((rd_T36 l0 a1).f0) ((rd_T36 l0 a1).f1) ((rd_T36 l0 a1).f2) ((rd_T36 l0 a1).f3) ((rd_T36 l0 a1).f4) ((rd_T36 l0 a1).f5) ((rd_T36 l0 a1).f6) = some r) ∧ Aside0 (kq ≤ kj56) ∧ Aside0 (w'.heap[gb111]? = some (.cells #[.int .i64 ((rd_T36 l0 a1).f0), .int .i64 ((rd_T36 l0 a1).f1), .int .i64 ((rd_T36 l0 a1).f2), .int .i64 ((rd_T36 l0 a1).f3), .int .i64 ((rd_T36 l0 a1).f4), .int .i64 ((rd_T36 l0 a1).f5), (.slice A110_6 ((rd_T36 l0 a1).f6).length c110_6)] 36 (0, 0))) ∧ Aside0 (Below w.heap.size w w'))
     case atStart => exact ⟨(0), cs_, H', ⟨Nat.le_refl _⟩, ⟨cO_ BK111.out⟩, ⟨cB1_ GE111.out⟩⟩
     case round =>
      clear H'
      obtain ⟨x9_3, rfl, HA, HK3, BK111, HB⟩ := hrel
      cases gk with
      | zero => exact absurd HA.out (by simp [spec_l3Node.l1])
      | succ k3 =>
       have H := HA.out
       clear HA
       simp only [spec_l3Node.l1] at H
       by_cases c65 : x9_3 < (((rd_T36 l0 a1).f6).length : Int)
       rotate_left
       ·rw [if_neg c65] at H
        have c65b0 := decide_eq_false c65
        clear c65
        obtain rfl := Option.some.inj H
        obtain ⟨_, _, _, _, _, _, _, _, _, _, _, _, _, _⟩ := cells7 BK111.out
        go_wp2
        repeat (go_quiet (fail); try go_wp2)
        go_ret
        exact ⟨ce_, cB1_ GE111.out⟩
       rw [if_pos c65] at H
       have c65b0 := decide_eq_true c65
       clear c65
       by_cases c66 : 0 ≤ x9_3
       rotate_left
       ·rw [if_neg c66] at H
        exact absurd H (by simp)
       rw [if_pos c66] at H
       have c66b0 := decide_eq_true c66
       clear c66
       obtain ⟨t125, A67, H⟩ := bnd_ H
       try dsimp only at H
       by_cases c68 : t125 = true
       ·subst c68
        rw [if_pos rfl] at H
        have H' := Aside0.mk H
        clear H
        obtain ⟨_, _, _, _, _, _, _, _, _, _, _, _, _, _⟩ := cells7 BK111.out
        have p124 : 0 ≤ (x9_3 : Int) := cd_
        have q124 : x9_3 < (((rd_T36 l0 a1).f6).length : Int) := cd_
        obtain ⟨ad124, e124, hx124_0⟩ := Kd.at_int HR110_6.out x9_3 p124 q124
        cases e124
        replace hx124_0 := pw_cell_below HB.out hx124_0
        replace p124 := eq_true p124
        replace q124 := eq_true q124
        go_wp2_with (first | (go_at_call 35; (with_reducible refine (spec_l1In.calls (rd ((rd_T36 l0 a1).f6) x9_3) 0 (wrap64 (t120 - 1)) true _ A67.out).mono ?_); rintro e w' ⟨rfl, ⟨nd, rfl⟩⟩; (try exact b4_0)))
        repeat (go_quiet (fail); try go_wp2)
        go_roundg k3
        case measure => have := HK1.out; have := HJ56.out; have := HK3.out; omega
        case rel => exact ⟨(wrap64 (x9_3 + 1)), cs_, H', ⟨by have := HK1.out; have := HJ56.out; have := HK3.out; omega⟩, ⟨cO_ BK111.out⟩, ⟨cB1_ GE111.out⟩⟩
       replace c68 := Bool.eq_false_iff.mpr c68
       subst c68
       rw [if_neg (show ¬ (false = true) by decide)] at H
       obtain rfl := Option.some.inj H
       obtain ⟨_, _, _, _, _, _, _, _, _, _, _, _, _, _⟩ := cells7 BK111.out
       have p124 : 0 ≤ (x9_3 : Int) := cd_
       have q124 : x9_3 < (((rd_T36 l0 a1).f6).length : Int) := cd_
       obtain ⟨ad124, e124, hx124_0⟩ := Kd.at_int HR110_6.out x9_3 p124 q124
       cases e124
       replace hx124_0 := pw_cell_below HB.out hx124_0
       replace p124 := eq_true p124
       replace q124 := eq_true q124
       go_wp2_with (first | (go_at_call 35; (with_reducible refine (spec_l1In.calls (rd ((rd_T36 l0 a1).f6) x9_3) 0 (wrap64 (t120 - 1)) false _ A67.out).mono ?_); rintro e w' ⟨rfl, ⟨nd, rfl⟩⟩; (try exact b4_0)))
       repeat (go_quiet (fail); try go_wp2)
       go_ret
       exact ⟨ce_, cB1_ GE111.out⟩

end Go.Proofs.YteibdjkfkcckkaaGreatDoor.PFnPlans
