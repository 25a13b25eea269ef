-- Written by fprint, a program of this session, out of Lean's own print of the translation. Lean checks it.
import Derived.Test.YteibdjkfkcckkaaDense
import Derived.Test.YteibdjkfkcckkaaPFnFeedsx0
import Derived.Test.YteibdjkfkcckkaaPFnFeedsx1
import Derived.Test.YteibdjkfkcckkaaPFnFeedsx2
namespace Go.Proofs.Yteibdjkfkcckkaa.PFnFeeds
open Go.RowKit Go.Proofs.YteibdjkfkcckkaaW.PrintWords Go.Proofs.YteibdjkfkcckkaaW.PrintLast Go.Proofs.YteibdjkfkcckkaaW.PrintMore
attribute [local go_sem] max2_int min2_int max_two min_two max_three min_three max_four min_four   -- for this text's walks alone
set_option linter.unusedVariables false
set_option linter.unusedSimpArgs false

theorem b3_0 {p : Prop} (h : p := by first | exact ⟨rfl, _, World.drewN_drewN _ _ _⟩ | exact ⟨rfl, _, Eq.trans (World.drewN_drewN _ _ _) (congrArg (World.drewN _) (Nat.add_assoc _ _ _))⟩) : p := h
theorem b3_1 {p : Prop} (h : p := by exact cB1_ GE111.out) : p := h
theorem b3_2 {p : Prop} (h : p := by refine cO_ ?_; refine blk_put (cs := #[.int .i64 ((rd_T58 l0 a1).f0), .int .i64 ((rd_T58 l0 a1).f1), .int .i64 ((rd_T58 l0 a1).f2), .int .i64 ((rd_T58 l0 a1).f3), .int .i64 ((rd_T58 l0 a1).f4), .int .i64 ((rd_T58 l0 a1).f5), .slice none 0 0]) ?_ 6 _ rfl; refine cO_ ?_; refine blk_put (cs := #[.int .i64 ((rd_T58 l0 a1).f0), .int .i64 ((rd_T58 l0 a1).f1), .int .i64 ((rd_T58 l0 a1).f2), .int .i64 ((rd_T58 l0 a1).f3), .int .i64 ((rd_T58 l0 a1).f4), .int .i64 0, .slice none 0 0]) ?_ 5 _ rfl; refine cO_ ?_; refine blk_put (cs := #[.int .i64 ((rd_T58 l0 a1).f0), .int .i64 ((rd_T58 l0 a1).f1), .int .i64 ((rd_T58 l0 a1).f2), .int .i64 ((rd_T58 l0 a1).f3), .int .i64 0, .int .i64 0, .slice none 0 0]) ?_ 4 _ rfl; refine cO_ ?_; refine blk_put (cs := #[.int .i64 ((rd_T58 l0 a1).f0), .int .i64 ((rd_T58 l0 a1).f1), .int .i64 ((rd_T58 l0 a1).f2), .int .i64 0, .int .i64 0, .int .i64 0, .slice none 0 0]) ?_ 3 _ rfl; refine cO_ ?_; refine blk_put (cs := #[.int .i64 ((rd_T58 l0 a1).f0), .int .i64 ((rd_T58 l0 a1).f1), .int .i64 0, .int .i64 0, .int .i64 0, .int .i64 0, .slice none 0 0]) ?_ 2 _ rfl; refine cO_ ?_; refine blk_put (cs := #[.int .i64 ((rd_T58 l0 a1).f0), .int .i64 0, .int .i64 0, .int .i64 0, .int .i64 0, .int .i64 0, .slice none 0 0]) ?_ 1 _ rfl; refine cO_ ?_; refine blk_put (cs := #[.int .i64 0, .int .i64 0, .int .i64 0, .int .i64 0, .int .i64 0, .int .i64 0, .slice none 0 0]) ?_ 0 _ rfl; refine cO_ ?_; exact BK111.out) : p := h
theorem b3_3 {p : Prop} (h : p := by exact cC_ (Kd.C_below HR0.out b3_1)) : p := h
theorem b3_4 {p : Prop} (h : p := by exact cO_ BK111.out) : p := h
theorem b3_6 {p : Prop} (h : p := by exact cC_ (Kd.C_below HR0.out HB.out)) : p := h
theorem q3_0 {p : Prop} (h : p := by have := HK1.out; first | omega | exact Nat.le_refl _) : p := h
/-! ### spec_l3Node: function 39 -/
mutual
def spec_l3Node.l0 : Nat → List (S58) → Int → Int → Int → Int → Int → Int → Int → Int → List Int → Option (Int)
 | 0, _, _, _, _, _, _, _, _, _, _ => none
 | k + 1, x0, x1, x6, x112000, x112001, x112002, x112003, x112004, x112005, x112006 => (spec_l3Reads.f x112000).bind fun t114 => (if x6 < t114 then (if x6 = 1 then ((spec_l1In.f x112002 0 (wrap64 (x1 - 1))).bind fun t115 => (if t115 = true then (if 0 ≤ x112002 then (if x112002 < (x0.length : Int) then (if ((rd_T58 x0 x112002).f0) = 12 then (some 3) else (spec_l3Node.l0 k x0 x1 (wrap64 (x6 + 1)) x112000 x112001 x112002 x112003 x112004 x112005 x112006)) else (none)) else (none)) else (some 3))) else ((spec_l1In.f x112001 0 (wrap64 (x1 - 1))).bind fun t117 => (if t117 = true then (if 0 ≤ x112001 then (if x112001 < (x0.length : Int) then (if ((rd_T58 x0 x112001).f0) = 12 then (some 3) else (spec_l3Node.l0 k x0 x1 (wrap64 (x6 + 1)) x112000 x112001 x112002 x112003 x112004 x112005 x112006)) else (none)) else (none)) else (some 3)))) else (if x112000 = 1 then ((spec_l1In.f x112003 1 3).bind fun t119 => (if t119 = true then (some 0) else (some 3))) else ((spec_l3Width.f k x0 x112001).bind fun t120 => (if x112000 = 2 then ((spec_l1In.f x112003 0 (wrap64 (t120 - 1))).bind fun t121 => (if t121 = true then ((spec_l1In.f x112004 0 2).bind fun t122 => (if t122 = true then ((spec_l1In.f x112005 (-1000000000) 1000000000).bind fun t123 => (if t123 = true then (some 0) else (some 3))) else (some 3))) else (some 3))) else (if x112000 = 3 then (if (x112006.length : Int) < 1 then (spec_l3Node.j1 k t120 true x112000 x112001 x112002 x112003 x112004 x112005 x112006) else (spec_l3Node.j1 k t120 (decide ((x112006.length : Int) > 4)) x112000 x112001 x112002 x112003 x112004 x112005 x112006)) else (if x112000 = 4 then ((spec_l3Width.f k x0 x112002).bind fun t126 => (if t120 = t126 then (some 0) else (some 1))) else (if x112000 = 6 then ((spec_l3Width.f k x0 x112002).bind fun t127 => ((spec_l1Min.f t120 t127).bind fun t128 => ((spec_l1In.f x112003 1 t128).bind fun t129 => (if t129 = true then (if (wrap64 ((wrap64 (t120 + t127)) - x112003)) > 4 then (some 2) else (some 0)) else (some 3))))) else (if x112000 = 7 then ((spec_l1Min.f t120 3).bind fun t130 => ((spec_l1In.f x112003 0 t130).bind fun t131 => (if t131 = true then (some 0) else (some 3)))) else (if x112000 = 8 then (spec_l3Node.j3 k t120 (x112000 == 8) x112000 x112001 x112002 x112003 x112004 x112005 x112006) else (if x112000 = 9 then (spec_l3Node.j3 k t120 (x112000 == 9) x112000 x112001 x112002 x112003 x112004 x112005 x112006) else (spec_l3Node.j3 k t120 (x112000 == 10) x112000 x112001 x112002 x112003 x112004 x112005 x112006)))))))))))
def spec_l3Node.j1 : Nat → Int → Bool → Int → Int → Int → Int → Int → Int → List Int → Option (Int)
 | 0, _, _, _, _, _, _, _, _, _ => none
 | k + 1, x8, x92, x112000, x112001, x112002, x112003, x112004, x112005, x112006 => if x92 = true then (some 2) else (spec_l3Node.l1 k x8 0 x112000 x112001 x112002 x112003 x112004 x112005 x112006)
def spec_l3Node.l1 : Nat → Int → Int → Int → Int → Int → Int → Int → Int → List Int → Option (Int)
 | 0, _, _, _, _, _, _, _, _, _ => none
 | k + 1, x8, x9, x112000, x112001, x112002, x112003, x112004, x112005, x112006 => if x9 < (x112006.length : Int) then (if 0 ≤ x9 then ((spec_l1In.f (rd x112006 x9) 0 (wrap64 (x8 - 1))).bind fun t125 => (if t125 = true then (spec_l3Node.l1 k x8 (wrap64 (x9 + 1)) x112000 x112001 x112002 x112003 x112004 x112005 x112006) else (some 3))) else (none)) else (some 0)
def spec_l3Node.j3 : Nat → Int → Bool → Int → Int → Int → Int → Int → Int → List Int → Option (Int)
 | 0, _, _, _, _, _, _, _, _, _ => none
 | k + 1, x8, x145, x112000, x112001, x112002, x112003, x112004, x112005, x112006 => if x145 = true then ((spec_l1In.f x112003 0 (wrap64 (x8 - 1))).bind fun t132 => (if t132 = true then (some 0) else (some 3))) else (some 0)
end
def spec_l3Node.f (k : Nat) (l0 : List (S58)) (a1 : Int) : Option (Int) := if 0 ≤ a1 then (if a1 < (l0.length : Int) then ((spec_l1In.f ((rd_T58 l0 a1).f0) 1 12).bind fun t112 => (if t112 = true then ((spec_l3Named.f k ((rd_T58 l0 a1).f0) ((rd_T58 l0 a1).f1) ((rd_T58 l0 a1).f2) ((rd_T58 l0 a1).f3) ((rd_T58 l0 a1).f4) ((rd_T58 l0 a1).f5) ((rd_T58 l0 a1).f6)).bind fun t113 => (if t113 = true then (spec_l3Node.l0 k l0 a1 0 ((rd_T58 l0 a1).f0) ((rd_T58 l0 a1).f1) ((rd_T58 l0 a1).f2) ((rd_T58 l0 a1).f3) ((rd_T58 l0 a1).f4) ((rd_T58 l0 a1).f5) ((rd_T58 l0 a1).f6)) else (some 1))) else (some 5))) else (none)) else (none)
theorem spec_l3Node.mono_l : ∀ k, (∀ y0 y1 y2 y3 y4 y5 y6 y7 y8 y9, LeO (spec_l3Node.l0 k y0 y1 y2 y3 y4 y5 y6 y7 y8 y9) (spec_l3Node.l0 (k + 1) y0 y1 y2 y3 y4 y5 y6 y7 y8 y9)) ∧ (∀ y0 y1 y2 y3 y4 y5 y6 y7 y8, LeO (spec_l3Node.j1 k y0 y1 y2 y3 y4 y5 y6 y7 y8) (spec_l3Node.j1 (k + 1) y0 y1 y2 y3 y4 y5 y6 y7 y8)) ∧ (∀ y0 y1 y2 y3 y4 y5 y6 y7 y8, LeO (spec_l3Node.l1 k y0 y1 y2 y3 y4 y5 y6 y7 y8) (spec_l3Node.l1 (k + 1) y0 y1 y2 y3 y4 y5 y6 y7 y8)) ∧ (∀ y0 y1 y2 y3 y4 y5 y6 y7 y8, LeO (spec_l3Node.j3 k y0 y1 y2 y3 y4 y5 y6 y7 y8) (spec_l3Node.j3 (k + 1) y0 y1 y2 y3 y4 y5 y6 y7 y8))
 | 0 => ⟨fun _ _ _ _ _ _ _ _ _ _ r h => by simp [spec_l3Node.l0] at h, fun _ _ _ _ _ _ _ _ _ r h => by simp [spec_l3Node.j1] at h, fun _ _ _ _ _ _ _ _ _ r h => by simp [spec_l3Node.l1] at h, fun _ _ _ _ _ _ _ _ _ r h => by simp [spec_l3Node.j3] at h⟩
 | k + 1 => by
  obtain ⟨ih0, ih1, ih2, ih3⟩ := spec_l3Node.mono_l k
  refine ⟨?_, ?_, ?_, ?_⟩
  ·intro y0 y1 y2 y3 y4 y5 y6 y7 y8 y9
   unfold spec_l3Node.l0
   repeat' first
   | (with_reducible exact ih0 _ _ _ _ _ _ _ _ _ _)
   | (with_reducible exact ih1 _ _ _ _ _ _ _ _ _)
   | (with_reducible exact ih2 _ _ _ _ _ _ _ _ _)
   | (with_reducible exact ih3 _ _ _ _ _ _ _ _ _)
   | (with_reducible exact spec_l3Named.mono _ _ _ _ _ _ _ _)
   | (with_reducible exact spec_l3Width.mono _ _ _)
   | (with_reducible exact LeO.refl _)
   | (with_reducible exact LeO.none _)
   | (with_reducible refine LeO.ite ?_ ?_)
   | (with_reducible refine LeO.bind ?_ (fun _ => ?_))
   | exact ih0 _ _ _ _ _ _ _ _ _ _
   | exact ih1 _ _ _ _ _ _ _ _ _
   | exact ih2 _ _ _ _ _ _ _ _ _
   | exact ih3 _ _ _ _ _ _ _ _ _
   | exact spec_l3Named.mono _ _ _ _ _ _ _ _
   | exact spec_l3Width.mono _ _ _
   | exact LeO.none _
   | refine LeO.ite ?_ ?_
   | refine LeO.bind ?_ (fun _ => ?_)
  ·intro y0 y1 y2 y3 y4 y5 y6 y7 y8
   unfold spec_l3Node.j1
   repeat' first
   | (with_reducible exact ih0 _ _ _ _ _ _ _ _ _ _)
   | (with_reducible exact ih1 _ _ _ _ _ _ _ _ _)
   | (with_reducible exact ih2 _ _ _ _ _ _ _ _ _)
   | (with_reducible exact ih3 _ _ _ _ _ _ _ _ _)
   | (with_reducible exact spec_l3Named.mono _ _ _ _ _ _ _ _)
   | (with_reducible exact spec_l3Width.mono _ _ _)
   | (with_reducible exact LeO.refl _)
   | (with_reducible exact LeO.none _)
   | (with_reducible refine LeO.ite ?_ ?_)
   | (with_reducible refine LeO.bind ?_ (fun _ => ?_))
   | exact ih0 _ _ _ _ _ _ _ _ _ _
   | exact ih1 _ _ _ _ _ _ _ _ _
   | exact ih2 _ _ _ _ _ _ _ _ _
   | exact ih3 _ _ _ _ _ _ _ _ _
   | exact spec_l3Named.mono _ _ _ _ _ _ _ _
   | exact spec_l3Width.mono _ _ _
   | exact LeO.none _
   | refine LeO.ite ?_ ?_
   | refine LeO.bind ?_ (fun _ => ?_)
  ·intro y0 y1 y2 y3 y4 y5 y6 y7 y8
   unfold spec_l3Node.l1
   repeat' first
   | (with_reducible exact ih0 _ _ _ _ _ _ _ _ _ _)
   | (with_reducible exact ih1 _ _ _ _ _ _ _ _ _)
   | (with_reducible exact ih2 _ _ _ _ _ _ _ _ _)
   | (with_reducible exact ih3 _ _ _ _ _ _ _ _ _)
   | (with_reducible exact spec_l3Named.mono _ _ _ _ _ _ _ _)
   | (with_reducible exact spec_l3Width.mono _ _ _)
   | (with_reducible exact LeO.refl _)
   | (with_reducible exact LeO.none _)
   | (with_reducible refine LeO.ite ?_ ?_)
   | (with_reducible refine LeO.bind ?_ (fun _ => ?_))
   | exact ih0 _ _ _ _ _ _ _ _ _ _
   | exact ih1 _ _ _ _ _ _ _ _ _
   | exact ih2 _ _ _ _ _ _ _ _ _
   | exact ih3 _ _ _ _ _ _ _ _ _
   | exact spec_l3Named.mono _ _ _ _ _ _ _ _
   | exact spec_l3Width.mono _ _ _
   | exact LeO.none _
   | refine LeO.ite ?_ ?_
   | refine LeO.bind ?_ (fun _ => ?_)
  ·intro y0 y1 y2 y3 y4 y5 y6 y7 y8
   unfold spec_l3Node.j3
   repeat' first
   | (with_reducible exact ih0 _ _ _ _ _ _ _ _ _ _)
   | (with_reducible exact ih1 _ _ _ _ _ _ _ _ _)
   | (with_reducible exact ih2 _ _ _ _ _ _ _ _ _)
   | (with_reducible exact ih3 _ _ _ _ _ _ _ _ _)
   | (with_reducible exact spec_l3Named.mono _ _ _ _ _ _ _ _)
   | (with_reducible exact spec_l3Width.mono _ _ _)
   | (with_reducible exact LeO.refl _)
   | (with_reducible exact LeO.none _)
   | (with_reducible refine LeO.ite ?_ ?_)
   | (with_reducible refine LeO.bind ?_ (fun _ => ?_))
   | exact ih0 _ _ _ _ _ _ _ _ _ _
   | exact ih1 _ _ _ _ _ _ _ _ _
   | exact ih2 _ _ _ _ _ _ _ _ _
   | exact ih3 _ _ _ _ _ _ _ _ _
   | exact spec_l3Named.mono _ _ _ _ _ _ _ _
   | exact spec_l3Width.mono _ _ _
   | exact LeO.none _
   | refine LeO.ite ?_ ?_
   | refine LeO.bind ?_ (fun _ => ?_)
theorem spec_l3Node.mono : ∀ a0 a1 k, LeO (spec_l3Node.f k a0 a1) (spec_l3Node.f (k + 1) a0 a1) := by
 intro a0 a1 k
 obtain ⟨ih0, ih1, ih2, ih3⟩ := spec_l3Node.mono_l k
 unfold spec_l3Node.f
 repeat' first
   | (with_reducible exact ih0 _ _ _ _ _ _ _ _ _ _)
   | (with_reducible exact ih1 _ _ _ _ _ _ _ _ _)
   | (with_reducible exact ih2 _ _ _ _ _ _ _ _ _)
   | (with_reducible exact ih3 _ _ _ _ _ _ _ _ _)
   | (with_reducible exact spec_l3Named.mono _ _ _ _ _ _ _ _)
   | (with_reducible exact spec_l3Width.mono _ _ _)
   | (with_reducible exact LeO.refl _)
   | (with_reducible exact LeO.none _)
   | (with_reducible refine LeO.ite ?_ ?_)
   | (with_reducible refine LeO.bind ?_ (fun _ => ?_))
   | exact ih0 _ _ _ _ _ _ _ _ _ _
   | exact ih1 _ _ _ _ _ _ _ _ _
   | exact ih2 _ _ _ _ _ _ _ _ _
   | exact ih3 _ _ _ _ _ _ _ _ _
   | exact spec_l3Named.mono _ _ _ _ _ _ _ _
   | exact spec_l3Width.mono _ _ _
   | exact LeO.none _
   | refine LeO.ite ?_ ?_
   | refine LeO.bind ?_ (fun _ => ?_)
set_option maxHeartbeats 8000000 in
set_option maxRecDepth 100000 in
theorem spec_l3Node.calls (k : Nat) (A0 : Option Addr) (c0 : Nat) (l0 : List (S58)) (a1 : Int) (r : Int) (w : World) (hr0 : Kd.C k58 w A0 l0.length l0) (hc0 : l0.length ≤ c0) (h : spec_l3Node.f k l0 a1 = some r) :
  Calls Try.prog 39 #[.slice A0 l0.length c0, .int .i64 a1] w fun e w' => e = .returned (.int .i64 r) ∧ Below w.heap.size w w' := by
 have hu58 := Try.underlying58
 have HR0 := Aside0.mk hr0
 have HC0 := Aside0.mk hc0
 clear hr0 hc0
 have HB := Aside0.mk (Below.refl w.heap.size w)
 have H : (if 0 ≤ a1 then (if a1 < (l0.length : Int) then ((spec_l1In.f ((rd_T58 l0 a1).f0) 1 12).bind fun t112 => (if t112 = true then ((spec_l3Named.f k ((rd_T58 l0 a1).f0) ((rd_T58 l0 a1).f1) ((rd_T58 l0 a1).f2) ((rd_T58 l0 a1).f3) ((rd_T58 l0 a1).f4) ((rd_T58 l0 a1).f5) ((rd_T58 l0 a1).f6)).bind fun t113 => (if t113 = true then (spec_l3Node.l0 k l0 a1 0 ((rd_T58 l0 a1).f0) ((rd_T58 l0 a1).f1) ((rd_T58 l0 a1).f2) ((rd_T58 l0 a1).f3) ((rd_T58 l0 a1).f4) ((rd_T58 l0 a1).f5) ((rd_T58 l0 a1).f6)) else (some 1))) else (some 5))) else (none)) else (none)) = some r := h
 clear h
 by_cases c3 : 0 ≤ a1
 rotate_left
 ·rw [if_neg c3] at H
  exact absurd H (by simp)
 rw [if_pos c3] at H
 have c3b0 : decide (0 ≤ a1) = true := decide_eq_true c3
 clear c3
 by_cases c4 : a1 < (l0.length : Int)
 rotate_left
 ·rw [if_neg c4] at H
  exact absurd H (by simp)
 rw [if_pos c4] at H
 have c4b0 : decide (a1 < (l0.length : Int)) = true := decide_eq_true c4
 clear c4
 obtain ⟨t112, A5, H⟩ := bnd_ H
 try dsimp only at H
 by_cases c6 : t112 = true
 rotate_left
 ·replace c6 := Bool.eq_false_iff.mpr c6
  subst c6
  rw [if_neg (show ¬ (false = true) by decide)] at H
  obtain rfl := Option.some.inj H
  have p110 : 0 ≤ (a1 : Int) := of_decide_eq_true ca_
  have q110 : a1 < (l0.length : Int) := of_decide_eq_true ca_
  obtain ⟨ad110, A110_6, c110_6, e110, hx110_0, hx110_1, hx110_2, hx110_3, hx110_4, hx110_5, hx110_6, hl110_6, hi110_6⟩ := at_T58 HR0.out a1 p110 q110
  cases e110
  have HR110_6 := Aside0.mk hi110_6
  have HC110_6 := Aside0.mk hl110_6
  clear hi110_6 hl110_6
  replace p110 := eq_true p110
  replace q110 := eq_true q110
  go_enter Try.func39, Try.ntmps39
  go_wp2_with (first | ((with_reducible refine gate_dst (N := 5) rfl ?_); (try (refine gate_guard (by rfl) ?_; dsimp only)); refine box_event ?hg (N := 5) ?hd (cs := #[.int .i64 0, .int .i64 0, .int .i64 0, .int .i64 0, .int .i64 0, .int .i64 0, .slice none 0 0]) (t := 58) ?hr ?_; (case hd => rfl); (case hg => rfl); (case hr => first | (go_simp; done) | (go_simp; rfl)); intro gb111 hg w128 hbox hb; have BK111 := Aside0.mk (hbox); have GW111 := Aside0.mk ((by rw [hg]; exact (below_size cB0_) : w.heap.size ≤ gb111)); have GE111 := Aside0.mk ((by rw [hg]; exact (below_size cB0_) : w.heap.size ≤ gb111)); replace HB := Aside0.mk (below_step cB0_ hb); clear hb hbox hg; obtain ⟨hcz129_0, hcz129_1, hcz129_2, hcz129_3, hcz129_4, hcz129_5, hcz129_6, hfz129_0, hfz129_1, hfz129_2, hfz129_3, hfz129_4, hfz129_5, hfz129_6⟩ := cells7 BK111.out) | (go_at_call 59; (with_reducible refine (spec_l1In.calls ((rd_T58 l0 a1).f0) 1 12 false _ A5.out).mono ?_); rintro e w' ⟨rfl, ⟨nd, rfl⟩⟩; (try exact b3_0)))
  repeat (go_quiet (first | ((with_reducible refine gate_dst (N := 5) rfl ?_); (try (refine gate_guard (by rfl) ?_; dsimp only)); refine box_event ?hg (N := 5) ?hd (cs := #[.int .i64 0, .int .i64 0, .int .i64 0, .int .i64 0, .int .i64 0, .int .i64 0, .slice none 0 0]) (t := 58) ?hr ?_; (case hd => rfl); (case hg => rfl); (case hr => first | (go_simp; done) | (go_simp; rfl)); intro gb111 hg w128 hbox hb; have BK111 := Aside0.mk (hbox); have GW111 := Aside0.mk ((by rw [hg]; exact (below_size cB0_) : w.heap.size ≤ gb111)); have GE111 := Aside0.mk ((by rw [hg]; exact (below_size cB0_) : w.heap.size ≤ gb111)); replace HB := Aside0.mk (below_step cB0_ hb); clear hb hbox hg; obtain ⟨hcz129_0, hcz129_1, hcz129_2, hcz129_3, hcz129_4, hcz129_5, hcz129_6, hfz129_0, hfz129_1, hfz129_2, hfz129_3, hfz129_4, hfz129_5, hfz129_6⟩ := cells7 BK111.out) | (go_at_call 59; (with_reducible refine (spec_l1In.calls ((rd_T58 l0 a1).f0) 1 12 false _ A5.out).mono ?_); rintro e w' ⟨rfl, ⟨nd, rfl⟩⟩; (try exact b3_0))); try go_wp2_with (first | ((with_reducible refine gate_dst (N := 5) rfl ?_); (try (refine gate_guard (by rfl) ?_; dsimp only)); refine box_event ?hg (N := 5) ?hd (cs := #[.int .i64 0, .int .i64 0, .int .i64 0, .int .i64 0, .int .i64 0, .int .i64 0, .slice none 0 0]) (t := 58) ?hr ?_; (case hd => rfl); (case hg => rfl); (case hr => first | (go_simp; done) | (go_simp; rfl)); intro gb111 hg w128 hbox hb; have BK111 := Aside0.mk (hbox); have GW111 := Aside0.mk ((by rw [hg]; exact (below_size cB0_) : w.heap.size ≤ gb111)); have GE111 := Aside0.mk ((by rw [hg]; exact (below_size cB0_) : w.heap.size ≤ gb111)); replace HB := Aside0.mk (below_step cB0_ hb); clear hb hbox hg; obtain ⟨hcz129_0, hcz129_1, hcz129_2, hcz129_3, hcz129_4, hcz129_5, hcz129_6, hfz129_0, hfz129_1, hfz129_2, hfz129_3, hfz129_4, hfz129_5, hfz129_6⟩ := cells7 BK111.out) | (go_at_call 59; (with_reducible refine (spec_l1In.calls ((rd_T58 l0 a1).f0) 1 12 false _ A5.out).mono ?_); rintro e w' ⟨rfl, ⟨nd, rfl⟩⟩; (try exact b3_0))))
  go_ret
  exact ⟨ce_, cB1_ GE111.out⟩
 subst c6
 rw [if_pos rfl] at H
 obtain ⟨t113, A7, H⟩ := bnd_ H
 try dsimp only at H
 by_cases c8 : t113 = true
 rotate_left
 ·replace c8 := Bool.eq_false_iff.mpr c8
  subst c8
  rw [if_neg (show ¬ (false = true) by decide)] at H
  obtain rfl := Option.some.inj H
  have p110 : 0 ≤ (a1 : Int) := of_decide_eq_true ca_
  have q110 : a1 < (l0.length : Int) := of_decide_eq_true ca_
  obtain ⟨ad110, A110_6, c110_6, e110, hx110_0, hx110_1, hx110_2, hx110_3, hx110_4, hx110_5, hx110_6, hl110_6, hi110_6⟩ := at_T58 HR0.out a1 p110 q110
  cases e110
  have HR110_6 := Aside0.mk hi110_6
  have HC110_6 := Aside0.mk hl110_6
  clear hi110_6 hl110_6
  replace p110 := eq_true p110
  replace q110 := eq_true q110
  go_enter Try.func39, Try.ntmps39
  go_wp2_with (first | ((with_reducible refine gate_dst (N := 5) rfl ?_); (try (refine gate_guard (by rfl) ?_; dsimp only)); refine box_event ?hg (N := 5) ?hd (cs := #[.int .i64 0, .int .i64 0, .int .i64 0, .int .i64 0, .int .i64 0, .int .i64 0, .slice none 0 0]) (t := 58) ?hr ?_; (case hd => rfl); (case hg => rfl); (case hr => first | (go_simp; done) | (go_simp; rfl)); intro gb111 hg w125 hbox hb; have BK111 := Aside0.mk (hbox); have GW111 := Aside0.mk ((by rw [hg]; exact (below_size cB0_) : w.heap.size ≤ gb111)); have GE111 := Aside0.mk ((by rw [hg]; exact (below_size cB0_) : w.heap.size ≤ gb111)); replace HB := Aside0.mk (below_step cB0_ hb); clear hb hbox hg; obtain ⟨hcz126_0, hcz126_1, hcz126_2, hcz126_3, hcz126_4, hcz126_5, hcz126_6, hfz126_0, hfz126_1, hfz126_2, hfz126_3, hfz126_4, hfz126_5, hfz126_6⟩ := cells7 BK111.out) | (go_at_call 59; (with_reducible refine (spec_l1In.calls ((rd_T58 l0 a1).f0) 1 12 true _ A5.out).mono ?_); rintro e w' ⟨rfl, ⟨nd, rfl⟩⟩; (try exact b3_0)) | (go_at_call 71; (with_reducible refine (spec_l3Named.calls k ((rd_T58 l0 a1).f0) ((rd_T58 l0 a1).f1) ((rd_T58 l0 a1).f2) ((rd_T58 l0 a1).f3) ((rd_T58 l0 a1).f4) ((rd_T58 l0 a1).f5) _ _ ((rd_T58 l0 a1).f6) false _ ?side1 ?side2 A7.out).mono ?_); (case side1 => exact (by exact Kd.C_below HR110_6.out b3_1)); (case side2 => exact HC110_6.out); rintro e w127 ⟨rfl, hb⟩; replace BK111 := Aside0.mk (blk_below (g := gb111) (o := .cells #[.int .i64 ((rd_T58 l0 a1).f0), .int .i64 ((rd_T58 l0 a1).f1), .int .i64 ((rd_T58 l0 a1).f2), .int .i64 ((rd_T58 l0 a1).f3), .int .i64 ((rd_T58 l0 a1).f4), .int .i64 ((rd_T58 l0 a1).f5), .slice A110_6 ((rd_T58 l0 a1).f6).length c110_6] 58 (0, 0)) b3_2 hb); replace HB := Aside0.mk (below_step b3_1 hb); (try clear hb); (try clear hb2); (try clear hk); (try clear hi)))
  repeat (go_quiet (first | ((with_reducible refine gate_dst (N := 5) rfl ?_); (try (refine gate_guard (by rfl) ?_; dsimp only)); refine box_event ?hg (N := 5) ?hd (cs := #[.int .i64 0, .int .i64 0, .int .i64 0, .int .i64 0, .int .i64 0, .int .i64 0, .slice none 0 0]) (t := 58) ?hr ?_; (case hd => rfl); (case hg => rfl); (case hr => first | (go_simp; done) | (go_simp; rfl)); intro gb111 hg w125 hbox hb; have BK111 := Aside0.mk (hbox); have GW111 := Aside0.mk ((by rw [hg]; exact (below_size cB0_) : w.heap.size ≤ gb111)); have GE111 := Aside0.mk ((by rw [hg]; exact (below_size cB0_) : w.heap.size ≤ gb111)); replace HB := Aside0.mk (below_step cB0_ hb); clear hb hbox hg; obtain ⟨hcz126_0, hcz126_1, hcz126_2, hcz126_3, hcz126_4, hcz126_5, hcz126_6, hfz126_0, hfz126_1, hfz126_2, hfz126_3, hfz126_4, hfz126_5, hfz126_6⟩ := cells7 BK111.out) | (go_at_call 59; (with_reducible refine (spec_l1In.calls ((rd_T58 l0 a1).f0) 1 12 true _ A5.out).mono ?_); rintro e w' ⟨rfl, ⟨nd, rfl⟩⟩; (try exact b3_0)) | (go_at_call 71; (with_reducible refine (spec_l3Named.calls k ((rd_T58 l0 a1).f0) ((rd_T58 l0 a1).f1) ((rd_T58 l0 a1).f2) ((rd_T58 l0 a1).f3) ((rd_T58 l0 a1).f4) ((rd_T58 l0 a1).f5) _ _ ((rd_T58 l0 a1).f6) false _ ?side1 ?side2 A7.out).mono ?_); (case side1 => exact (by exact Kd.C_below HR110_6.out b3_1)); (case side2 => exact HC110_6.out); rintro e w127 ⟨rfl, hb⟩; replace BK111 := Aside0.mk (blk_below (g := gb111) (o := .cells #[.int .i64 ((rd_T58 l0 a1).f0), .int .i64 ((rd_T58 l0 a1).f1), .int .i64 ((rd_T58 l0 a1).f2), .int .i64 ((rd_T58 l0 a1).f3), .int .i64 ((rd_T58 l0 a1).f4), .int .i64 ((rd_T58 l0 a1).f5), .slice A110_6 ((rd_T58 l0 a1).f6).length c110_6] 58 (0, 0)) b3_2 hb); replace HB := Aside0.mk (below_step b3_1 hb); (try clear hb); (try clear hb2); (try clear hk); (try clear hi))); try go_wp2_with (first | ((with_reducible refine gate_dst (N := 5) rfl ?_); (try (refine gate_guard (by rfl) ?_; dsimp only)); refine box_event ?hg (N := 5) ?hd (cs := #[.int .i64 0, .int .i64 0, .int .i64 0, .int .i64 0, .int .i64 0, .int .i64 0, .slice none 0 0]) (t := 58) ?hr ?_; (case hd => rfl); (case hg => rfl); (case hr => first | (go_simp; done) | (go_simp; rfl)); intro gb111 hg w125 hbox hb; have BK111 := Aside0.mk (hbox); have GW111 := Aside0.mk ((by rw [hg]; exact (below_size cB0_) : w.heap.size ≤ gb111)); have GE111 := Aside0.mk ((by rw [hg]; exact (below_size cB0_) : w.heap.size ≤ gb111)); replace HB := Aside0.mk (below_step cB0_ hb); clear hb hbox hg; obtain ⟨hcz126_0, hcz126_1, hcz126_2, hcz126_3, hcz126_4, hcz126_5, hcz126_6, hfz126_0, hfz126_1, hfz126_2, hfz126_3, hfz126_4, hfz126_5, hfz126_6⟩ := cells7 BK111.out) | (go_at_call 59; (with_reducible refine (spec_l1In.calls ((rd_T58 l0 a1).f0) 1 12 true _ A5.out).mono ?_); rintro e w' ⟨rfl, ⟨nd, rfl⟩⟩; (try exact b3_0)) | (go_at_call 71; (with_reducible refine (spec_l3Named.calls k ((rd_T58 l0 a1).f0) ((rd_T58 l0 a1).f1) ((rd_T58 l0 a1).f2) ((rd_T58 l0 a1).f3) ((rd_T58 l0 a1).f4) ((rd_T58 l0 a1).f5) _ _ ((rd_T58 l0 a1).f6) false _ ?side1 ?side2 A7.out).mono ?_); (case side1 => exact (by exact Kd.C_below HR110_6.out b3_1)); (case side2 => exact HC110_6.out); rintro e w127 ⟨rfl, hb⟩; replace BK111 := Aside0.mk (blk_below (g := gb111) (o := .cells #[.int .i64 ((rd_T58 l0 a1).f0), .int .i64 ((rd_T58 l0 a1).f1), .int .i64 ((rd_T58 l0 a1).f2), .int .i64 ((rd_T58 l0 a1).f3), .int .i64 ((rd_T58 l0 a1).f4), .int .i64 ((rd_T58 l0 a1).f5), .slice A110_6 ((rd_T58 l0 a1).f6).length c110_6] 58 (0, 0)) b3_2 hb); replace HB := Aside0.mk (below_step b3_1 hb); (try clear hb); (try clear hb2); (try clear hk); (try clear hi))))
  go_ret
  exact ⟨ce_, cB1_ GE111.out⟩
 subst c8
 rw [if_pos rfl] at H
 have H' := Aside0.mk H
 clear H
 have p110 : 0 ≤ (a1 : Int) := of_decide_eq_true ca_
 have q110 : a1 < (l0.length : Int) := of_decide_eq_true ca_
 obtain ⟨ad110, A110_6, c110_6, e110, hx110_0, hx110_1, hx110_2, hx110_3, hx110_4, hx110_5, hx110_6, hl110_6, hi110_6⟩ := at_T58 HR0.out a1 p110 q110
 cases e110
 have HR110_6 := Aside0.mk hi110_6
 have HC110_6 := Aside0.mk hl110_6
 clear hi110_6 hl110_6
 replace p110 := eq_true p110
 replace q110 := eq_true q110
 go_enter Try.func39, Try.ntmps39
 go_wp2_with (first | ((with_reducible refine gate_dst (N := 5) rfl ?_); (try (refine gate_guard (by rfl) ?_; dsimp only)); refine box_event ?hg (N := 5) ?hd (cs := #[.int .i64 0, .int .i64 0, .int .i64 0, .int .i64 0, .int .i64 0, .int .i64 0, .slice none 0 0]) (t := 58) ?hr ?_; (case hd => rfl); (case hg => rfl); (case hr => first | (go_simp; done) | (go_simp; rfl)); intro gb111 hg w9 hbox hb; have BK111 := Aside0.mk (hbox); have GW111 := Aside0.mk ((by rw [hg]; exact (below_size cB0_) : w.heap.size ≤ gb111)); have GE111 := Aside0.mk ((by rw [hg]; exact (below_size cB0_) : w.heap.size ≤ gb111)); replace HB := Aside0.mk (below_step cB0_ hb); clear hb hbox hg; obtain ⟨hcz10_0, hcz10_1, hcz10_2, hcz10_3, hcz10_4, hcz10_5, hcz10_6, hfz10_0, hfz10_1, hfz10_2, hfz10_3, hfz10_4, hfz10_5, hfz10_6⟩ := cells7 BK111.out) | (go_at_call 59; (with_reducible refine (spec_l1In.calls ((rd_T58 l0 a1).f0) 1 12 true _ A5.out).mono ?_); rintro e w' ⟨rfl, ⟨nd, rfl⟩⟩; (try exact b3_0)) | (go_at_call 71; (with_reducible refine (spec_l3Named.calls k ((rd_T58 l0 a1).f0) ((rd_T58 l0 a1).f1) ((rd_T58 l0 a1).f2) ((rd_T58 l0 a1).f3) ((rd_T58 l0 a1).f4) ((rd_T58 l0 a1).f5) _ _ ((rd_T58 l0 a1).f6) true _ ?side1 ?side2 A7.out).mono ?_); (case side1 => exact (by exact Kd.C_below HR110_6.out b3_1)); (case side2 => exact HC110_6.out); rintro e w11 ⟨rfl, hb⟩; replace BK111 := Aside0.mk (blk_below (g := gb111) (o := .cells #[.int .i64 ((rd_T58 l0 a1).f0), .int .i64 ((rd_T58 l0 a1).f1), .int .i64 ((rd_T58 l0 a1).f2), .int .i64 ((rd_T58 l0 a1).f3), .int .i64 ((rd_T58 l0 a1).f4), .int .i64 ((rd_T58 l0 a1).f5), .slice A110_6 ((rd_T58 l0 a1).f6).length c110_6] 58 (0, 0)) b3_2 hb); replace HB := Aside0.mk (below_step b3_1 hb); (try clear hb); (try clear hb2); (try clear hk); (try clear hi)))
 repeat (go_quiet (first | ((with_reducible refine gate_dst (N := 5) rfl ?_); (try (refine gate_guard (by rfl) ?_; dsimp only)); refine box_event ?hg (N := 5) ?hd (cs := #[.int .i64 0, .int .i64 0, .int .i64 0, .int .i64 0, .int .i64 0, .int .i64 0, .slice none 0 0]) (t := 58) ?hr ?_; (case hd => rfl); (case hg => rfl); (case hr => first | (go_simp; done) | (go_simp; rfl)); intro gb111 hg w9 hbox hb; have BK111 := Aside0.mk (hbox); have GW111 := Aside0.mk ((by rw [hg]; exact (below_size cB0_) : w.heap.size ≤ gb111)); have GE111 := Aside0.mk ((by rw [hg]; exact (below_size cB0_) : w.heap.size ≤ gb111)); replace HB := Aside0.mk (below_step cB0_ hb); clear hb hbox hg; obtain ⟨hcz10_0, hcz10_1, hcz10_2, hcz10_3, hcz10_4, hcz10_5, hcz10_6, hfz10_0, hfz10_1, hfz10_2, hfz10_3, hfz10_4, hfz10_5, hfz10_6⟩ := cells7 BK111.out) | (go_at_call 59; (with_reducible refine (spec_l1In.calls ((rd_T58 l0 a1).f0) 1 12 true _ A5.out).mono ?_); rintro e w' ⟨rfl, ⟨nd, rfl⟩⟩; (try exact b3_0)) | (go_at_call 71; (with_reducible refine (spec_l3Named.calls k ((rd_T58 l0 a1).f0) ((rd_T58 l0 a1).f1) ((rd_T58 l0 a1).f2) ((rd_T58 l0 a1).f3) ((rd_T58 l0 a1).f4) ((rd_T58 l0 a1).f5) _ _ ((rd_T58 l0 a1).f6) true _ ?side1 ?side2 A7.out).mono ?_); (case side1 => exact (by exact Kd.C_below HR110_6.out b3_1)); (case side2 => exact HC110_6.out); rintro e w11 ⟨rfl, hb⟩; replace BK111 := Aside0.mk (blk_below (g := gb111) (o := .cells #[.int .i64 ((rd_T58 l0 a1).f0), .int .i64 ((rd_T58 l0 a1).f1), .int .i64 ((rd_T58 l0 a1).f2), .int .i64 ((rd_T58 l0 a1).f3), .int .i64 ((rd_T58 l0 a1).f4), .int .i64 ((rd_T58 l0 a1).f5), .slice A110_6 ((rd_T58 l0 a1).f6).length c110_6] 58 (0, 0)) b3_2 hb); replace HB := Aside0.mk (below_step b3_1 hb); (try clear hb); (try clear hb2); (try clear hk); (try clear hi))); try go_wp2_with (first | ((with_reducible refine gate_dst (N := 5) rfl ?_); (try (refine gate_guard (by rfl) ?_; dsimp only)); refine box_event ?hg (N := 5) ?hd (cs := #[.int .i64 0, .int .i64 0, .int .i64 0, .int .i64 0, .int .i64 0, .int .i64 0, .slice none 0 0]) (t := 58) ?hr ?_; (case hd => rfl); (case hg => rfl); (case hr => first | (go_simp; done) | (go_simp; rfl)); intro gb111 hg w9 hbox hb; have BK111 := Aside0.mk (hbox); have GW111 := Aside0.mk ((by rw [hg]; exact (below_size cB0_) : w.heap.size ≤ gb111)); have GE111 := Aside0.mk ((by rw [hg]; exact (below_size cB0_) : w.heap.size ≤ gb111)); replace HB := Aside0.mk (below_step cB0_ hb); clear hb hbox hg; obtain ⟨hcz10_0, hcz10_1, hcz10_2, hcz10_3, hcz10_4, hcz10_5, hcz10_6, hfz10_0, hfz10_1, hfz10_2, hfz10_3, hfz10_4, hfz10_5, hfz10_6⟩ := cells7 BK111.out) | (go_at_call 59; (with_reducible refine (spec_l1In.calls ((rd_T58 l0 a1).f0) 1 12 true _ A5.out).mono ?_); rintro e w' ⟨rfl, ⟨nd, rfl⟩⟩; (try exact b3_0)) | (go_at_call 71; (with_reducible refine (spec_l3Named.calls k ((rd_T58 l0 a1).f0) ((rd_T58 l0 a1).f1) ((rd_T58 l0 a1).f2) ((rd_T58 l0 a1).f3) ((rd_T58 l0 a1).f4) ((rd_T58 l0 a1).f5) _ _ ((rd_T58 l0 a1).f6) true _ ?side1 ?side2 A7.out).mono ?_); (case side1 => exact (by exact Kd.C_below HR110_6.out b3_1)); (case side2 => exact HC110_6.out); rintro e w11 ⟨rfl, hb⟩; replace BK111 := Aside0.mk (blk_below (g := gb111) (o := .cells #[.int .i64 ((rd_T58 l0 a1).f0), .int .i64 ((rd_T58 l0 a1).f1), .int .i64 ((rd_T58 l0 a1).f2), .int .i64 ((rd_T58 l0 a1).f3), .int .i64 ((rd_T58 l0 a1).f4), .int .i64 ((rd_T58 l0 a1).f5), .slice A110_6 ((rd_T58 l0 a1).f6).length c110_6] 58 (0, 0)) b3_2 hb); replace HB := Aside0.mk (below_step b3_1 hb); (try clear hb); (try clear hb2); (try clear hk); (try clear hi))))
 go_loopg [6] k (fun kq v6 w' => ∃ (x6_1 : Int), v6 = .int .i64 x6_1 ∧ Aside0 (spec_l3Node.l0 kq l0 a1 x6_1 ((rd_T58 l0 a1).f0) ((rd_T58 l0 a1).f1) ((rd_T58 l0 a1).f2) ((rd_T58 l0 a1).f3) ((rd_T58 l0 a1).f4) ((rd_T58 l0 a1).f5) ((rd_T58 l0 a1).f6) = some r) ∧ Aside0 (kq ≤ k) ∧ Aside0 (w'.heap[gb111]? = some (.cells #[.int .i64 ((rd_T58 l0 a1).f0), .int .i64 ((rd_T58 l0 a1).f1), .int .i64 ((rd_T58 l0 a1).f2), .int .i64 ((rd_T58 l0 a1).f3), .int .i64 ((rd_T58 l0 a1).f4), .int .i64 ((rd_T58 l0 a1).f5), (.slice A110_6 ((rd_T58 l0 a1).f6).length c110_6)] 58 (0, 0))) ∧ Aside0 (Below w.heap.size w w'))
 case atStart => exact ⟨(0), cs_, H', ⟨Nat.le_refl _⟩, ⟨cO_ BK111.out⟩, ⟨cB1_ GE111.out⟩⟩
 case round =>
  clear H'
  try clear c1
  try clear p1
  try clear q1
  try clear hx1
  try clear p2
  try clear c3
  try clear c3b0
  try clear c4
  try clear c4b0
  try clear c6
  try clear c8
  try clear c11
  try clear p11
  try clear q11
  try clear hx11
  try clear hcz10_0
  try clear hcz10_1
  try clear hcz10_2
  try clear hcz10_3
  try clear hcz10_4
  try clear hcz10_5
  try clear hcz10_6
  try clear hfz10_0
  try clear hfz10_1
  try clear hfz10_2
  try clear hfz10_3
  try clear hfz10_4
  try clear hfz10_5
  try clear hfz10_6
  try clear hx110_0
  try clear hx110_1
  try clear hx110_2
  try clear hx110_3
  try clear hx110_4
  try clear hx110_5
  try clear hx110_6
  try clear p110
  try clear q110
  obtain ⟨x6_1, rfl, HA, HK1, BK111, HB⟩ := hrel
  cases gk with
  | zero => exact absurd HA.out (by simp [spec_l3Node.l0])
  | succ k1 =>
   have H := HA.out
   clear HA
   simp only [spec_l3Node.l0] at H
   obtain ⟨t114, A12, H⟩ := bnd_ H
   try dsimp only at H
   by_cases c13 : x6_1 < t114
   ·rw [if_pos c13] at H
    have c13b0 : decide (x6_1 < t114) = true := decide_eq_true c13
    clear c13
    by_cases c14 : x6_1 = 1
    ·rw [if_pos c14] at H
     have c14b0 : (x6_1 == 1) = true := beq_iff_eq.mpr c14
     have c14b1 : (x6_1 != 1) = false := bne_eq_false_iff_eq.mpr c14
     clear c14
     obtain ⟨t115, A15, H⟩ := bnd_ H
     try dsimp only at H
     by_cases c16 : t115 = true
     rotate_left
     ·replace c16 := Bool.eq_false_iff.mpr c16
      subst c16
      rw [if_neg (show ¬ (false = true) by decide)] at H
      obtain rfl := Option.some.inj H
      obtain ⟨hcz22_0, hcz22_1, hcz22_2, hcz22_3, hcz22_4, hcz22_5, hcz22_6, hfz22_0, hfz22_1, hfz22_2, hfz22_3, hfz22_4, hfz22_5, hfz22_6⟩ := cells7 BK111.out
      go_wp2_with (first | (go_at_call 72; (with_reducible refine (spec_l3Reads.calls ((rd_T58 l0 a1).f0) t114 _ A12.out).mono ?_); rintro e w' ⟨rfl, ⟨nd, rfl⟩⟩; (try exact b3_0)) | (go_at_call 59; (with_reducible refine (spec_l1In.calls ((rd_T58 l0 a1).f2) 0 (wrap64 (a1 - 1)) false _ A15.out).mono ?_); rintro e w' ⟨rfl, ⟨nd, rfl⟩⟩; (try exact b3_0)))
      repeat (go_quiet (first | (go_at_call 72; (with_reducible refine (spec_l3Reads.calls ((rd_T58 l0 a1).f0) t114 _ A12.out).mono ?_); rintro e w' ⟨rfl, ⟨nd, rfl⟩⟩; (try exact b3_0)) | (go_at_call 59; (with_reducible refine (spec_l1In.calls ((rd_T58 l0 a1).f2) 0 (wrap64 (a1 - 1)) false _ A15.out).mono ?_); rintro e w' ⟨rfl, ⟨nd, rfl⟩⟩; (try exact b3_0))); try go_wp2_with (first | (go_at_call 72; (with_reducible refine (spec_l3Reads.calls ((rd_T58 l0 a1).f0) t114 _ A12.out).mono ?_); rintro e w' ⟨rfl, ⟨nd, rfl⟩⟩; (try exact b3_0)) | (go_at_call 59; (with_reducible refine (spec_l1In.calls ((rd_T58 l0 a1).f2) 0 (wrap64 (a1 - 1)) false _ A15.out).mono ?_); rintro e w' ⟨rfl, ⟨nd, rfl⟩⟩; (try exact b3_0))))
      go_ret
      exact ⟨ce_, cB1_ GE111.out⟩
     subst c16
     rw [if_pos rfl] at H
     by_cases c17 : 0 ≤ ((rd_T58 l0 a1).f2)
     rotate_left
     ·rw [if_neg c17] at H
      exact absurd H (by simp)
     rw [if_pos c17] at H
     have c17b0 : decide (0 ≤ ((rd_T58 l0 a1).f2)) = true := decide_eq_true c17
     clear c17
     by_cases c18 : ((rd_T58 l0 a1).f2) < (l0.length : Int)
     rotate_left
     ·rw [if_neg c18] at H
      exact absurd H (by simp)
     rw [if_pos c18] at H
     have c18b0 : decide (((rd_T58 l0 a1).f2) < (l0.length : Int)) = true := decide_eq_true c18
     clear c18
     by_cases c19 : ((rd_T58 l0 ((rd_T58 l0 a1).f2)).f0) = 12
     ·rw [if_pos c19] at H
      have c19b0 : (((rd_T58 l0 ((rd_T58 l0 a1).f2)).f0) == 12) = true := beq_iff_eq.mpr c19
      have c19b1 : (((rd_T58 l0 ((rd_T58 l0 a1).f2)).f0) != 12) = false := bne_eq_false_iff_eq.mpr c19
      clear c19
      obtain rfl := Option.some.inj H
      obtain ⟨hcz20_0, hcz20_1, hcz20_2, hcz20_3, hcz20_4, hcz20_5, hcz20_6, hfz20_0, hfz20_1, hfz20_2, hfz20_3, hfz20_4, hfz20_5, hfz20_6⟩ := cells7 BK111.out
      go_wp2_with (first | (go_at_call 72; (with_reducible refine (spec_l3Reads.calls ((rd_T58 l0 a1).f0) t114 _ A12.out).mono ?_); rintro e w' ⟨rfl, ⟨nd, rfl⟩⟩; (try exact b3_0)) | (go_at_call 59; (with_reducible refine (spec_l1In.calls ((rd_T58 l0 a1).f2) 0 (wrap64 (a1 - 1)) true _ A15.out).mono ?_); rintro e w' ⟨rfl, ⟨nd, rfl⟩⟩; (try exact b3_0); have p116 : 0 ≤ (((rd_T58 l0 a1).f2) : Int) := of_decide_eq_true ca_; have q116 : ((rd_T58 l0 a1).f2) < (l0.length : Int) := of_decide_eq_true ca_; obtain ⟨ad116, A116_6, c116_6, e116, hx116_0, hx116_1, hx116_2, hx116_3, hx116_4, hx116_5, hx116_6, hl116_6, hi116_6⟩ := at_T58 HR0.out ((rd_T58 l0 a1).f2) p116 q116; obtain rfl : ad110 = ad116 := (by injection e116); replace hx116_0 := (HB.out.cell (World.block_lt_of_cell? w _ hx116_0)).trans hx116_0; replace hx116_1 := (HB.out.cell (World.block_lt_of_cell? w _ hx116_1)).trans hx116_1; replace hx116_2 := (HB.out.cell (World.block_lt_of_cell? w _ hx116_2)).trans hx116_2; replace hx116_3 := (HB.out.cell (World.block_lt_of_cell? w _ hx116_3)).trans hx116_3; replace hx116_4 := (HB.out.cell (World.block_lt_of_cell? w _ hx116_4)).trans hx116_4; replace hx116_5 := (HB.out.cell (World.block_lt_of_cell? w _ hx116_5)).trans hx116_5; replace hx116_6 := (HB.out.cell (World.block_lt_of_cell? w _ hx116_6)).trans hx116_6; have HR116_6 := Aside0.mk hi116_6; have HC116_6 := Aside0.mk hl116_6; clear hi116_6 hl116_6; replace p116 := eq_true p116; replace q116 := eq_true q116))
      repeat (go_quiet (first | (go_at_call 72; (with_reducible refine (spec_l3Reads.calls ((rd_T58 l0 a1).f0) t114 _ A12.out).mono ?_); rintro e w' ⟨rfl, ⟨nd, rfl⟩⟩; (try exact b3_0)) | (go_at_call 59; (with_reducible refine (spec_l1In.calls ((rd_T58 l0 a1).f2) 0 (wrap64 (a1 - 1)) true _ A15.out).mono ?_); rintro e w' ⟨rfl, ⟨nd, rfl⟩⟩; (try exact b3_0); have p116 : 0 ≤ (((rd_T58 l0 a1).f2) : Int) := of_decide_eq_true ca_; have q116 : ((rd_T58 l0 a1).f2) < (l0.length : Int) := of_decide_eq_true ca_; obtain ⟨ad116, A116_6, c116_6, e116, hx116_0, hx116_1, hx116_2, hx116_3, hx116_4, hx116_5, hx116_6, hl116_6, hi116_6⟩ := at_T58 HR0.out ((rd_T58 l0 a1).f2) p116 q116; obtain rfl : ad110 = ad116 := (by injection e116); replace hx116_0 := (HB.out.cell (World.block_lt_of_cell? w _ hx116_0)).trans hx116_0; replace hx116_1 := (HB.out.cell (World.block_lt_of_cell? w _ hx116_1)).trans hx116_1; replace hx116_2 := (HB.out.cell (World.block_lt_of_cell? w _ hx116_2)).trans hx116_2; replace hx116_3 := (HB.out.cell (World.block_lt_of_cell? w _ hx116_3)).trans hx116_3; replace hx116_4 := (HB.out.cell (World.block_lt_of_cell? w _ hx116_4)).trans hx116_4; replace hx116_5 := (HB.out.cell (World.block_lt_of_cell? w _ hx116_5)).trans hx116_5; replace hx116_6 := (HB.out.cell (World.block_lt_of_cell? w _ hx116_6)).trans hx116_6; have HR116_6 := Aside0.mk hi116_6; have HC116_6 := Aside0.mk hl116_6; clear hi116_6 hl116_6; replace p116 := eq_true p116; replace q116 := eq_true q116)); try go_wp2_with (first | (go_at_call 72; (with_reducible refine (spec_l3Reads.calls ((rd_T58 l0 a1).f0) t114 _ A12.out).mono ?_); rintro e w' ⟨rfl, ⟨nd, rfl⟩⟩; (try exact b3_0)) | (go_at_call 59; (with_reducible refine (spec_l1In.calls ((rd_T58 l0 a1).f2) 0 (wrap64 (a1 - 1)) true _ A15.out).mono ?_); rintro e w' ⟨rfl, ⟨nd, rfl⟩⟩; (try exact b3_0); have p116 : 0 ≤ (((rd_T58 l0 a1).f2) : Int) := of_decide_eq_true ca_; have q116 : ((rd_T58 l0 a1).f2) < (l0.length : Int) := of_decide_eq_true ca_; obtain ⟨ad116, A116_6, c116_6, e116, hx116_0, hx116_1, hx116_2, hx116_3, hx116_4, hx116_5, hx116_6, hl116_6, hi116_6⟩ := at_T58 HR0.out ((rd_T58 l0 a1).f2) p116 q116; obtain rfl : ad110 = ad116 := (by injection e116); replace hx116_0 := (HB.out.cell (World.block_lt_of_cell? w _ hx116_0)).trans hx116_0; replace hx116_1 := (HB.out.cell (World.block_lt_of_cell? w _ hx116_1)).trans hx116_1; replace hx116_2 := (HB.out.cell (World.block_lt_of_cell? w _ hx116_2)).trans hx116_2; replace hx116_3 := (HB.out.cell (World.block_lt_of_cell? w _ hx116_3)).trans hx116_3; replace hx116_4 := (HB.out.cell (World.block_lt_of_cell? w _ hx116_4)).trans hx116_4; replace hx116_5 := (HB.out.cell (World.block_lt_of_cell? w _ hx116_5)).trans hx116_5; replace hx116_6 := (HB.out.cell (World.block_lt_of_cell? w _ hx116_6)).trans hx116_6; have HR116_6 := Aside0.mk hi116_6; have HC116_6 := Aside0.mk hl116_6; clear hi116_6 hl116_6; replace p116 := eq_true p116; replace q116 := eq_true q116)))
      go_ret
      exact ⟨ce_, cB1_ GE111.out⟩
     rw [if_neg c19] at H
     have c19b0 : (((rd_T58 l0 ((rd_T58 l0 a1).f2)).f0) == 12) = false := beq_eq_false_iff_ne.mpr c19
     have c19b1 : (((rd_T58 l0 ((rd_T58 l0 a1).f2)).f0) != 12) = true := bne_iff_ne.mpr c19
     have H' := Aside0.mk H
     clear H
     obtain ⟨hcz21_0, hcz21_1, hcz21_2, hcz21_3, hcz21_4, hcz21_5, hcz21_6, hfz21_0, hfz21_1, hfz21_2, hfz21_3, hfz21_4, hfz21_5, hfz21_6⟩ := cells7 BK111.out
     go_wp2_with (first | (go_at_call 72; (with_reducible refine (spec_l3Reads.calls ((rd_T58 l0 a1).f0) t114 _ A12.out).mono ?_); rintro e w' ⟨rfl, ⟨nd, rfl⟩⟩; (try exact b3_0)) | (go_at_call 59; (with_reducible refine (spec_l1In.calls ((rd_T58 l0 a1).f2) 0 (wrap64 (a1 - 1)) true _ A15.out).mono ?_); rintro e w' ⟨rfl, ⟨nd, rfl⟩⟩; (try exact b3_0); have p116 : 0 ≤ (((rd_T58 l0 a1).f2) : Int) := of_decide_eq_true ca_; have q116 : ((rd_T58 l0 a1).f2) < (l0.length : Int) := of_decide_eq_true ca_; obtain ⟨ad116, A116_6, c116_6, e116, hx116_0, hx116_1, hx116_2, hx116_3, hx116_4, hx116_5, hx116_6, hl116_6, hi116_6⟩ := at_T58 HR0.out ((rd_T58 l0 a1).f2) p116 q116; obtain rfl : ad110 = ad116 := (by injection e116); replace hx116_0 := (HB.out.cell (World.block_lt_of_cell? w _ hx116_0)).trans hx116_0; replace hx116_1 := (HB.out.cell (World.block_lt_of_cell? w _ hx116_1)).trans hx116_1; replace hx116_2 := (HB.out.cell (World.block_lt_of_cell? w _ hx116_2)).trans hx116_2; replace hx116_3 := (HB.out.cell (World.block_lt_of_cell? w _ hx116_3)).trans hx116_3; replace hx116_4 := (HB.out.cell (World.block_lt_of_cell? w _ hx116_4)).trans hx116_4; replace hx116_5 := (HB.out.cell (World.block_lt_of_cell? w _ hx116_5)).trans hx116_5; replace hx116_6 := (HB.out.cell (World.block_lt_of_cell? w _ hx116_6)).trans hx116_6; have HR116_6 := Aside0.mk hi116_6; have HC116_6 := Aside0.mk hl116_6; clear hi116_6 hl116_6; replace p116 := eq_true p116; replace q116 := eq_true q116))
     repeat (go_quiet (first | (go_at_call 72; (with_reducible refine (spec_l3Reads.calls ((rd_T58 l0 a1).f0) t114 _ A12.out).mono ?_); rintro e w' ⟨rfl, ⟨nd, rfl⟩⟩; (try exact b3_0)) | (go_at_call 59; (with_reducible refine (spec_l1In.calls ((rd_T58 l0 a1).f2) 0 (wrap64 (a1 - 1)) true _ A15.out).mono ?_); rintro e w' ⟨rfl, ⟨nd, rfl⟩⟩; (try exact b3_0); have p116 : 0 ≤ (((rd_T58 l0 a1).f2) : Int) := of_decide_eq_true ca_; have q116 : ((rd_T58 l0 a1).f2) < (l0.length : Int) := of_decide_eq_true ca_; obtain ⟨ad116, A116_6, c116_6, e116, hx116_0, hx116_1, hx116_2, hx116_3, hx116_4, hx116_5, hx116_6, hl116_6, hi116_6⟩ := at_T58 HR0.out ((rd_T58 l0 a1).f2) p116 q116; obtain rfl : ad110 = ad116 := (by injection e116); replace hx116_0 := (HB.out.cell (World.block_lt_of_cell? w _ hx116_0)).trans hx116_0; replace hx116_1 := (HB.out.cell (World.block_lt_of_cell? w _ hx116_1)).trans hx116_1; replace hx116_2 := (HB.out.cell (World.block_lt_of_cell? w _ hx116_2)).trans hx116_2; replace hx116_3 := (HB.out.cell (World.block_lt_of_cell? w _ hx116_3)).trans hx116_3; replace hx116_4 := (HB.out.cell (World.block_lt_of_cell? w _ hx116_4)).trans hx116_4; replace hx116_5 := (HB.out.cell (World.block_lt_of_cell? w _ hx116_5)).trans hx116_5; replace hx116_6 := (HB.out.cell (World.block_lt_of_cell? w _ hx116_6)).trans hx116_6; have HR116_6 := Aside0.mk hi116_6; have HC116_6 := Aside0.mk hl116_6; clear hi116_6 hl116_6; replace p116 := eq_true p116; replace q116 := eq_true q116)); try go_wp2_with (first | (go_at_call 72; (with_reducible refine (spec_l3Reads.calls ((rd_T58 l0 a1).f0) t114 _ A12.out).mono ?_); rintro e w' ⟨rfl, ⟨nd, rfl⟩⟩; (try exact b3_0)) | (go_at_call 59; (with_reducible refine (spec_l1In.calls ((rd_T58 l0 a1).f2) 0 (wrap64 (a1 - 1)) true _ A15.out).mono ?_); rintro e w' ⟨rfl, ⟨nd, rfl⟩⟩; (try exact b3_0); have p116 : 0 ≤ (((rd_T58 l0 a1).f2) : Int) := of_decide_eq_true ca_; have q116 : ((rd_T58 l0 a1).f2) < (l0.length : Int) := of_decide_eq_true ca_; obtain ⟨ad116, A116_6, c116_6, e116, hx116_0, hx116_1, hx116_2, hx116_3, hx116_4, hx116_5, hx116_6, hl116_6, hi116_6⟩ := at_T58 HR0.out ((rd_T58 l0 a1).f2) p116 q116; obtain rfl : ad110 = ad116 := (by injection e116); replace hx116_0 := (HB.out.cell (World.block_lt_of_cell? w _ hx116_0)).trans hx116_0; replace hx116_1 := (HB.out.cell (World.block_lt_of_cell? w _ hx116_1)).trans hx116_1; replace hx116_2 := (HB.out.cell (World.block_lt_of_cell? w _ hx116_2)).trans hx116_2; replace hx116_3 := (HB.out.cell (World.block_lt_of_cell? w _ hx116_3)).trans hx116_3; replace hx116_4 := (HB.out.cell (World.block_lt_of_cell? w _ hx116_4)).trans hx116_4; replace hx116_5 := (HB.out.cell (World.block_lt_of_cell? w _ hx116_5)).trans hx116_5; replace hx116_6 := (HB.out.cell (World.block_lt_of_cell? w _ hx116_6)).trans hx116_6; have HR116_6 := Aside0.mk hi116_6; have HC116_6 := Aside0.mk hl116_6; clear hi116_6 hl116_6; replace p116 := eq_true p116; replace q116 := eq_true q116)))
     go_roundg k1
     case measure => have := HK1.out; omega
     case rel => exact ⟨(wrap64 (x6_1 + 1)), cs_, H', ⟨co_ HK1.out⟩, ⟨cO_ BK111.out⟩, ⟨cB1_ GE111.out⟩⟩
    rw [if_neg c14] at H
    have c14b0 : (x6_1 == 1) = false := beq_eq_false_iff_ne.mpr c14
    have c14b1 : (x6_1 != 1) = true := bne_iff_ne.mpr c14
    obtain ⟨t117, A23, H⟩ := bnd_ H
    try dsimp only at H
    by_cases c24 : t117 = true
    rotate_left
    ·replace c24 := Bool.eq_false_iff.mpr c24
     subst c24
     rw [if_neg (show ¬ (false = true) by decide)] at H
     obtain rfl := Option.some.inj H
     obtain ⟨hcz30_0, hcz30_1, hcz30_2, hcz30_3, hcz30_4, hcz30_5, hcz30_6, hfz30_0, hfz30_1, hfz30_2, hfz30_3, hfz30_4, hfz30_5, hfz30_6⟩ := cells7 BK111.out
     go_wp2_with (first | (go_at_call 72; (with_reducible refine (spec_l3Reads.calls ((rd_T58 l0 a1).f0) t114 _ A12.out).mono ?_); rintro e w' ⟨rfl, ⟨nd, rfl⟩⟩; (try exact b3_0)) | (go_at_call 59; (with_reducible refine (spec_l1In.calls ((rd_T58 l0 a1).f1) 0 (wrap64 (a1 - 1)) false _ A23.out).mono ?_); rintro e w' ⟨rfl, ⟨nd, rfl⟩⟩; (try exact b3_0)))
     repeat (go_quiet (first | (go_at_call 72; (with_reducible refine (spec_l3Reads.calls ((rd_T58 l0 a1).f0) t114 _ A12.out).mono ?_); rintro e w' ⟨rfl, ⟨nd, rfl⟩⟩; (try exact b3_0)) | (go_at_call 59; (with_reducible refine (spec_l1In.calls ((rd_T58 l0 a1).f1) 0 (wrap64 (a1 - 1)) false _ A23.out).mono ?_); rintro e w' ⟨rfl, ⟨nd, rfl⟩⟩; (try exact b3_0))); try go_wp2_with (first | (go_at_call 72; (with_reducible refine (spec_l3Reads.calls ((rd_T58 l0 a1).f0) t114 _ A12.out).mono ?_); rintro e w' ⟨rfl, ⟨nd, rfl⟩⟩; (try exact b3_0)) | (go_at_call 59; (with_reducible refine (spec_l1In.calls ((rd_T58 l0 a1).f1) 0 (wrap64 (a1 - 1)) false _ A23.out).mono ?_); rintro e w' ⟨rfl, ⟨nd, rfl⟩⟩; (try exact b3_0))))
     go_ret
     exact ⟨ce_, cB1_ GE111.out⟩
    subst c24
    rw [if_pos rfl] at H
    by_cases c25 : 0 ≤ ((rd_T58 l0 a1).f1)
    rotate_left
    ·rw [if_neg c25] at H
     exact absurd H (by simp)
    rw [if_pos c25] at H
    have c25b0 : decide (0 ≤ ((rd_T58 l0 a1).f1)) = true := decide_eq_true c25
    clear c25
    by_cases c26 : ((rd_T58 l0 a1).f1) < (l0.length : Int)
    rotate_left
    ·rw [if_neg c26] at H
     exact absurd H (by simp)
    rw [if_pos c26] at H
    have c26b0 : decide (((rd_T58 l0 a1).f1) < (l0.length : Int)) = true := decide_eq_true c26
    clear c26
    by_cases c27 : ((rd_T58 l0 ((rd_T58 l0 a1).f1)).f0) = 12
    ·rw [if_pos c27] at H
     have c27b0 : (((rd_T58 l0 ((rd_T58 l0 a1).f1)).f0) == 12) = true := beq_iff_eq.mpr c27
     have c27b1 : (((rd_T58 l0 ((rd_T58 l0 a1).f1)).f0) != 12) = false := bne_eq_false_iff_eq.mpr c27
     clear c27
     obtain rfl := Option.some.inj H
     obtain ⟨hcz28_0, hcz28_1, hcz28_2, hcz28_3, hcz28_4, hcz28_5, hcz28_6, hfz28_0, hfz28_1, hfz28_2, hfz28_3, hfz28_4, hfz28_5, hfz28_6⟩ := cells7 BK111.out
     go_wp2_with (first | (go_at_call 72; (with_reducible refine (spec_l3Reads.calls ((rd_T58 l0 a1).f0) t114 _ A12.out).mono ?_); rintro e w' ⟨rfl, ⟨nd, rfl⟩⟩; (try exact b3_0)) | (go_at_call 59; (with_reducible refine (spec_l1In.calls ((rd_T58 l0 a1).f1) 0 (wrap64 (a1 - 1)) true _ A23.out).mono ?_); rintro e w' ⟨rfl, ⟨nd, rfl⟩⟩; (try exact b3_0); have p118 : 0 ≤ (((rd_T58 l0 a1).f1) : Int) := of_decide_eq_true ca_; have q118 : ((rd_T58 l0 a1).f1) < (l0.length : Int) := of_decide_eq_true ca_; obtain ⟨ad118, A118_6, c118_6, e118, hx118_0, hx118_1, hx118_2, hx118_3, hx118_4, hx118_5, hx118_6, hl118_6, hi118_6⟩ := at_T58 HR0.out ((rd_T58 l0 a1).f1) p118 q118; obtain rfl : ad110 = ad118 := (by injection e118); replace hx118_0 := (HB.out.cell (World.block_lt_of_cell? w _ hx118_0)).trans hx118_0; replace hx118_1 := (HB.out.cell (World.block_lt_of_cell? w _ hx118_1)).trans hx118_1; replace hx118_2 := (HB.out.cell (World.block_lt_of_cell? w _ hx118_2)).trans hx118_2; replace hx118_3 := (HB.out.cell (World.block_lt_of_cell? w _ hx118_3)).trans hx118_3; replace hx118_4 := (HB.out.cell (World.block_lt_of_cell? w _ hx118_4)).trans hx118_4; replace hx118_5 := (HB.out.cell (World.block_lt_of_cell? w _ hx118_5)).trans hx118_5; replace hx118_6 := (HB.out.cell (World.block_lt_of_cell? w _ hx118_6)).trans hx118_6; have HR118_6 := Aside0.mk hi118_6; have HC118_6 := Aside0.mk hl118_6; clear hi118_6 hl118_6; replace p118 := eq_true p118; replace q118 := eq_true q118))
     repeat (go_quiet (first | (go_at_call 72; (with_reducible refine (spec_l3Reads.calls ((rd_T58 l0 a1).f0) t114 _ A12.out).mono ?_); rintro e w' ⟨rfl, ⟨nd, rfl⟩⟩; (try exact b3_0)) | (go_at_call 59; (with_reducible refine (spec_l1In.calls ((rd_T58 l0 a1).f1) 0 (wrap64 (a1 - 1)) true _ A23.out).mono ?_); rintro e w' ⟨rfl, ⟨nd, rfl⟩⟩; (try exact b3_0); have p118 : 0 ≤ (((rd_T58 l0 a1).f1) : Int) := of_decide_eq_true ca_; have q118 : ((rd_T58 l0 a1).f1) < (l0.length : Int) := of_decide_eq_true ca_; obtain ⟨ad118, A118_6, c118_6, e118, hx118_0, hx118_1, hx118_2, hx118_3, hx118_4, hx118_5, hx118_6, hl118_6, hi118_6⟩ := at_T58 HR0.out ((rd_T58 l0 a1).f1) p118 q118; obtain rfl : ad110 = ad118 := (by injection e118); replace hx118_0 := (HB.out.cell (World.block_lt_of_cell? w _ hx118_0)).trans hx118_0; replace hx118_1 := (HB.out.cell (World.block_lt_of_cell? w _ hx118_1)).trans hx118_1; replace hx118_2 := (HB.out.cell (World.block_lt_of_cell? w _ hx118_2)).trans hx118_2; replace hx118_3 := (HB.out.cell (World.block_lt_of_cell? w _ hx118_3)).trans hx118_3; replace hx118_4 := (HB.out.cell (World.block_lt_of_cell? w _ hx118_4)).trans hx118_4; replace hx118_5 := (HB.out.cell (World.block_lt_of_cell? w _ hx118_5)).trans hx118_5; replace hx118_6 := (HB.out.cell (World.block_lt_of_cell? w _ hx118_6)).trans hx118_6; have HR118_6 := Aside0.mk hi118_6; have HC118_6 := Aside0.mk hl118_6; clear hi118_6 hl118_6; replace p118 := eq_true p118; replace q118 := eq_true q118)); try go_wp2_with (first | (go_at_call 72; (with_reducible refine (spec_l3Reads.calls ((rd_T58 l0 a1).f0) t114 _ A12.out).mono ?_); rintro e w' ⟨rfl, ⟨nd, rfl⟩⟩; (try exact b3_0)) | (go_at_call 59; (with_reducible refine (spec_l1In.calls ((rd_T58 l0 a1).f1) 0 (wrap64 (a1 - 1)) true _ A23.out).mono ?_); rintro e w' ⟨rfl, ⟨nd, rfl⟩⟩; (try exact b3_0); have p118 : 0 ≤ (((rd_T58 l0 a1).f1) : Int) := of_decide_eq_true ca_; have q118 : ((rd_T58 l0 a1).f1) < (l0.length : Int) := of_decide_eq_true ca_; obtain ⟨ad118, A118_6, c118_6, e118, hx118_0, hx118_1, hx118_2, hx118_3, hx118_4, hx118_5, hx118_6, hl118_6, hi118_6⟩ := at_T58 HR0.out ((rd_T58 l0 a1).f1) p118 q118; obtain rfl : ad110 = ad118 := (by injection e118); replace hx118_0 := (HB.out.cell (World.block_lt_of_cell? w _ hx118_0)).trans hx118_0; replace hx118_1 := (HB.out.cell (World.block_lt_of_cell? w _ hx118_1)).trans hx118_1; replace hx118_2 := (HB.out.cell (World.block_lt_of_cell? w _ hx118_2)).trans hx118_2; replace hx118_3 := (HB.out.cell (World.block_lt_of_cell? w _ hx118_3)).trans hx118_3; replace hx118_4 := (HB.out.cell (World.block_lt_of_cell? w _ hx118_4)).trans hx118_4; replace hx118_5 := (HB.out.cell (World.block_lt_of_cell? w _ hx118_5)).trans hx118_5; replace hx118_6 := (HB.out.cell (World.block_lt_of_cell? w _ hx118_6)).trans hx118_6; have HR118_6 := Aside0.mk hi118_6; have HC118_6 := Aside0.mk hl118_6; clear hi118_6 hl118_6; replace p118 := eq_true p118; replace q118 := eq_true q118)))
     go_ret
     exact ⟨ce_, cB1_ GE111.out⟩
    rw [if_neg c27] at H
    have c27b0 : (((rd_T58 l0 ((rd_T58 l0 a1).f1)).f0) == 12) = false := beq_eq_false_iff_ne.mpr c27
    have c27b1 : (((rd_T58 l0 ((rd_T58 l0 a1).f1)).f0) != 12) = true := bne_iff_ne.mpr c27
    have H' := Aside0.mk H
    clear H
    obtain ⟨hcz29_0, hcz29_1, hcz29_2, hcz29_3, hcz29_4, hcz29_5, hcz29_6, hfz29_0, hfz29_1, hfz29_2, hfz29_3, hfz29_4, hfz29_5, hfz29_6⟩ := cells7 BK111.out
    go_wp2_with (first | (go_at_call 72; (with_reducible refine (spec_l3Reads.calls ((rd_T58 l0 a1).f0) t114 _ A12.out).mono ?_); rintro e w' ⟨rfl, ⟨nd, rfl⟩⟩; (try exact b3_0)) | (go_at_call 59; (with_reducible refine (spec_l1In.calls ((rd_T58 l0 a1).f1) 0 (wrap64 (a1 - 1)) true _ A23.out).mono ?_); rintro e w' ⟨rfl, ⟨nd, rfl⟩⟩; (try exact b3_0); have p118 : 0 ≤ (((rd_T58 l0 a1).f1) : Int) := of_decide_eq_true ca_; have q118 : ((rd_T58 l0 a1).f1) < (l0.length : Int) := of_decide_eq_true ca_; obtain ⟨ad118, A118_6, c118_6, e118, hx118_0, hx118_1, hx118_2, hx118_3, hx118_4, hx118_5, hx118_6, hl118_6, hi118_6⟩ := at_T58 HR0.out ((rd_T58 l0 a1).f1) p118 q118; obtain rfl : ad110 = ad118 := (by injection e118); replace hx118_0 := (HB.out.cell (World.block_lt_of_cell? w _ hx118_0)).trans hx118_0; replace hx118_1 := (HB.out.cell (World.block_lt_of_cell? w _ hx118_1)).trans hx118_1; replace hx118_2 := (HB.out.cell (World.block_lt_of_cell? w _ hx118_2)).trans hx118_2; replace hx118_3 := (HB.out.cell (World.block_lt_of_cell? w _ hx118_3)).trans hx118_3; replace hx118_4 := (HB.out.cell (World.block_lt_of_cell? w _ hx118_4)).trans hx118_4; replace hx118_5 := (HB.out.cell (World.block_lt_of_cell? w _ hx118_5)).trans hx118_5; replace hx118_6 := (HB.out.cell (World.block_lt_of_cell? w _ hx118_6)).trans hx118_6; have HR118_6 := Aside0.mk hi118_6; have HC118_6 := Aside0.mk hl118_6; clear hi118_6 hl118_6; replace p118 := eq_true p118; replace q118 := eq_true q118))
    repeat (go_quiet (first | (go_at_call 72; (with_reducible refine (spec_l3Reads.calls ((rd_T58 l0 a1).f0) t114 _ A12.out).mono ?_); rintro e w' ⟨rfl, ⟨nd, rfl⟩⟩; (try exact b3_0)) | (go_at_call 59; (with_reducible refine (spec_l1In.calls ((rd_T58 l0 a1).f1) 0 (wrap64 (a1 - 1)) true _ A23.out).mono ?_); rintro e w' ⟨rfl, ⟨nd, rfl⟩⟩; (try exact b3_0); have p118 : 0 ≤ (((rd_T58 l0 a1).f1) : Int) := of_decide_eq_true ca_; have q118 : ((rd_T58 l0 a1).f1) < (l0.length : Int) := of_decide_eq_true ca_; obtain ⟨ad118, A118_6, c118_6, e118, hx118_0, hx118_1, hx118_2, hx118_3, hx118_4, hx118_5, hx118_6, hl118_6, hi118_6⟩ := at_T58 HR0.out ((rd_T58 l0 a1).f1) p118 q118; obtain rfl : ad110 = ad118 := (by injection e118); replace hx118_0 := (HB.out.cell (World.block_lt_of_cell? w _ hx118_0)).trans hx118_0; replace hx118_1 := (HB.out.cell (World.block_lt_of_cell? w _ hx118_1)).trans hx118_1; replace hx118_2 := (HB.out.cell (World.block_lt_of_cell? w _ hx118_2)).trans hx118_2; replace hx118_3 := (HB.out.cell (World.block_lt_of_cell? w _ hx118_3)).trans hx118_3; replace hx118_4 := (HB.out.cell (World.block_lt_of_cell? w _ hx118_4)).trans hx118_4; replace hx118_5 := (HB.out.cell (World.block_lt_of_cell? w _ hx118_5)).trans hx118_5; replace hx118_6 := (HB.out.cell (World.block_lt_of_cell? w _ hx118_6)).trans hx118_6; have HR118_6 := Aside0.mk hi118_6; have HC118_6 := Aside0.mk hl118_6; clear hi118_6 hl118_6; replace p118 := eq_true p118; replace q118 := eq_true q118)); try go_wp2_with (first | (go_at_call 72; (with_reducible refine (spec_l3Reads.calls ((rd_T58 l0 a1).f0) t114 _ A12.out).mono ?_); rintro e w' ⟨rfl, ⟨nd, rfl⟩⟩; (try exact b3_0)) | (go_at_call 59; (with_reducible refine (spec_l1In.calls ((rd_T58 l0 a1).f1) 0 (wrap64 (a1 - 1)) true _ A23.out).mono ?_); rintro e w' ⟨rfl, ⟨nd, rfl⟩⟩; (try exact b3_0); have p118 : 0 ≤ (((rd_T58 l0 a1).f1) : Int) := of_decide_eq_true ca_; have q118 : ((rd_T58 l0 a1).f1) < (l0.length : Int) := of_decide_eq_true ca_; obtain ⟨ad118, A118_6, c118_6, e118, hx118_0, hx118_1, hx118_2, hx118_3, hx118_4, hx118_5, hx118_6, hl118_6, hi118_6⟩ := at_T58 HR0.out ((rd_T58 l0 a1).f1) p118 q118; obtain rfl : ad110 = ad118 := (by injection e118); replace hx118_0 := (HB.out.cell (World.block_lt_of_cell? w _ hx118_0)).trans hx118_0; replace hx118_1 := (HB.out.cell (World.block_lt_of_cell? w _ hx118_1)).trans hx118_1; replace hx118_2 := (HB.out.cell (World.block_lt_of_cell? w _ hx118_2)).trans hx118_2; replace hx118_3 := (HB.out.cell (World.block_lt_of_cell? w _ hx118_3)).trans hx118_3; replace hx118_4 := (HB.out.cell (World.block_lt_of_cell? w _ hx118_4)).trans hx118_4; replace hx118_5 := (HB.out.cell (World.block_lt_of_cell? w _ hx118_5)).trans hx118_5; replace hx118_6 := (HB.out.cell (World.block_lt_of_cell? w _ hx118_6)).trans hx118_6; have HR118_6 := Aside0.mk hi118_6; have HC118_6 := Aside0.mk hl118_6; clear hi118_6 hl118_6; replace p118 := eq_true p118; replace q118 := eq_true q118)))
    go_roundg k1
    case measure => have := HK1.out; omega
    case rel => exact ⟨(wrap64 (x6_1 + 1)), cs_, H', ⟨co_ HK1.out⟩, ⟨cO_ BK111.out⟩, ⟨cB1_ GE111.out⟩⟩
   rw [if_neg c13] at H
   have c13b0 : decide (x6_1 < t114) = false := decide_eq_false c13
   clear c13
   by_cases c31 : ((rd_T58 l0 a1).f0) = 1
   ·rw [if_pos c31] at H
    have c31b0 : (((rd_T58 l0 a1).f0) == 1) = true := beq_iff_eq.mpr c31
    have c31b1 : (((rd_T58 l0 a1).f0) != 1) = false := bne_eq_false_iff_eq.mpr c31
    clear c31
    obtain ⟨t119, A32, H⟩ := bnd_ H
    try dsimp only at H
    by_cases c33 : t119 = true
    ·subst c33
     rw [if_pos rfl] at H
     obtain rfl := Option.some.inj H
     obtain ⟨hcz34_0, hcz34_1, hcz34_2, hcz34_3, hcz34_4, hcz34_5, hcz34_6, hfz34_0, hfz34_1, hfz34_2, hfz34_3, hfz34_4, hfz34_5, hfz34_6⟩ := cells7 BK111.out
     go_wp2_with (first | (go_at_call 72; (with_reducible refine (spec_l3Reads.calls ((rd_T58 l0 a1).f0) t114 _ A12.out).mono ?_); rintro e w' ⟨rfl, ⟨nd, rfl⟩⟩; (try exact b3_0)) | (go_at_call 59; (with_reducible refine (spec_l1In.calls ((rd_T58 l0 a1).f3) 1 3 true _ A32.out).mono ?_); rintro e w' ⟨rfl, ⟨nd, rfl⟩⟩; (try exact b3_0)))
     repeat (go_quiet (first | (go_at_call 72; (with_reducible refine (spec_l3Reads.calls ((rd_T58 l0 a1).f0) t114 _ A12.out).mono ?_); rintro e w' ⟨rfl, ⟨nd, rfl⟩⟩; (try exact b3_0)) | (go_at_call 59; (with_reducible refine (spec_l1In.calls ((rd_T58 l0 a1).f3) 1 3 true _ A32.out).mono ?_); rintro e w' ⟨rfl, ⟨nd, rfl⟩⟩; (try exact b3_0))); try go_wp2_with (first | (go_at_call 72; (with_reducible refine (spec_l3Reads.calls ((rd_T58 l0 a1).f0) t114 _ A12.out).mono ?_); rintro e w' ⟨rfl, ⟨nd, rfl⟩⟩; (try exact b3_0)) | (go_at_call 59; (with_reducible refine (spec_l1In.calls ((rd_T58 l0 a1).f3) 1 3 true _ A32.out).mono ?_); rintro e w' ⟨rfl, ⟨nd, rfl⟩⟩; (try exact b3_0))))
     go_ret
     exact ⟨ce_, cB1_ GE111.out⟩
    replace c33 := Bool.eq_false_iff.mpr c33
    subst c33
    rw [if_neg (show ¬ (false = true) by decide)] at H
    obtain rfl := Option.some.inj H
    obtain ⟨hcz35_0, hcz35_1, hcz35_2, hcz35_3, hcz35_4, hcz35_5, hcz35_6, hfz35_0, hfz35_1, hfz35_2, hfz35_3, hfz35_4, hfz35_5, hfz35_6⟩ := cells7 BK111.out
    go_wp2_with (first | (go_at_call 72; (with_reducible refine (spec_l3Reads.calls ((rd_T58 l0 a1).f0) t114 _ A12.out).mono ?_); rintro e w' ⟨rfl, ⟨nd, rfl⟩⟩; (try exact b3_0)) | (go_at_call 59; (with_reducible refine (spec_l1In.calls ((rd_T58 l0 a1).f3) 1 3 false _ A32.out).mono ?_); rintro e w' ⟨rfl, ⟨nd, rfl⟩⟩; (try exact b3_0)))
    repeat (go_quiet (first | (go_at_call 72; (with_reducible refine (spec_l3Reads.calls ((rd_T58 l0 a1).f0) t114 _ A12.out).mono ?_); rintro e w' ⟨rfl, ⟨nd, rfl⟩⟩; (try exact b3_0)) | (go_at_call 59; (with_reducible refine (spec_l1In.calls ((rd_T58 l0 a1).f3) 1 3 false _ A32.out).mono ?_); rintro e w' ⟨rfl, ⟨nd, rfl⟩⟩; (try exact b3_0))); try go_wp2_with (first | (go_at_call 72; (with_reducible refine (spec_l3Reads.calls ((rd_T58 l0 a1).f0) t114 _ A12.out).mono ?_); rintro e w' ⟨rfl, ⟨nd, rfl⟩⟩; (try exact b3_0)) | (go_at_call 59; (with_reducible refine (spec_l1In.calls ((rd_T58 l0 a1).f3) 1 3 false _ A32.out).mono ?_); rintro e w' ⟨rfl, ⟨nd, rfl⟩⟩; (try exact b3_0))))
    go_ret
    exact ⟨ce_, cB1_ GE111.out⟩
   rw [if_neg c31] at H
   have c31b0 : (((rd_T58 l0 a1).f0) == 1) = false := beq_eq_false_iff_ne.mpr c31
   have c31b1 : (((rd_T58 l0 a1).f0) != 1) = true := bne_iff_ne.mpr c31
   obtain ⟨t120, A36, H⟩ := bnd_ H
   try dsimp only at H
   by_cases c37 : ((rd_T58 l0 a1).f0) = 2
   ·rw [if_pos c37] at H
    have c37b0 : (((rd_T58 l0 a1).f0) == 2) = true := beq_iff_eq.mpr c37
    have c37b1 : (((rd_T58 l0 a1).f0) != 2) = false := bne_eq_false_iff_eq.mpr c37
    clear c37
    obtain ⟨t121, A38, H⟩ := bnd_ H
    try dsimp only at H
    by_cases c39 : t121 = true
    rotate_left
    ·replace c39 := Bool.eq_false_iff.mpr c39
     subst c39
     rw [if_neg (show ¬ (false = true) by decide)] at H
     obtain rfl := Option.some.inj H
     obtain ⟨hcz53_0, hcz53_1, hcz53_2, hcz53_3, hcz53_4, hcz53_5, hcz53_6, hfz53_0, hfz53_1, hfz53_2, hfz53_3, hfz53_4, hfz53_5, hfz53_6⟩ := cells7 BK111.out
     go_wp2_with (first | (go_at_call 72; (with_reducible refine (spec_l3Reads.calls ((rd_T58 l0 a1).f0) t114 _ A12.out).mono ?_); rintro e w' ⟨rfl, ⟨nd, rfl⟩⟩; (try exact b3_0)) | (go_at_call 44; (with_reducible refine (spec_l3Width.calls k1 _ _ l0 ((rd_T58 l0 a1).f1) t120 _ ?side1 ?side2 A36.out).mono ?_); (case side1 => exact b3_3); (case side2 => exact HC0.out); rintro e w54 ⟨rfl, hb⟩; replace BK111 := Aside0.mk (blk_below (g := gb111) (o := .cells #[.int .i64 ((rd_T58 l0 a1).f0), .int .i64 ((rd_T58 l0 a1).f1), .int .i64 ((rd_T58 l0 a1).f2), .int .i64 ((rd_T58 l0 a1).f3), .int .i64 ((rd_T58 l0 a1).f4), .int .i64 ((rd_T58 l0 a1).f5), .slice A110_6 ((rd_T58 l0 a1).f6).length c110_6] 58 (0, 0)) b3_4 hb); replace HB := Aside0.mk (below_step b3_1 hb); (try clear hb); (try clear hb2); (try clear hk); (try clear hi); obtain ⟨hcz55_0, hcz55_1, hcz55_2, hcz55_3, hcz55_4, hcz55_5, hcz55_6, hfz55_0, hfz55_1, hfz55_2, hfz55_3, hfz55_4, hfz55_5, hfz55_6⟩ := cells7 BK111.out) | (go_at_call 59; (with_reducible refine (spec_l1In.calls ((rd_T58 l0 a1).f3) 0 (wrap64 (t120 - 1)) false _ A38.out).mono ?_); rintro e w' ⟨rfl, ⟨nd, rfl⟩⟩; (try exact b3_0)))
     repeat (go_quiet (first | (go_at_call 72; (with_reducible refine (spec_l3Reads.calls ((rd_T58 l0 a1).f0) t114 _ A12.out).mono ?_); rintro e w' ⟨rfl, ⟨nd, rfl⟩⟩; (try exact b3_0)) | (go_at_call 44; (with_reducible refine (spec_l3Width.calls k1 _ _ l0 ((rd_T58 l0 a1).f1) t120 _ ?side1 ?side2 A36.out).mono ?_); (case side1 => exact b3_3); (case side2 => exact HC0.out); rintro e w54 ⟨rfl, hb⟩; replace BK111 := Aside0.mk (blk_below (g := gb111) (o := .cells #[.int .i64 ((rd_T58 l0 a1).f0), .int .i64 ((rd_T58 l0 a1).f1), .int .i64 ((rd_T58 l0 a1).f2), .int .i64 ((rd_T58 l0 a1).f3), .int .i64 ((rd_T58 l0 a1).f4), .int .i64 ((rd_T58 l0 a1).f5), .slice A110_6 ((rd_T58 l0 a1).f6).length c110_6] 58 (0, 0)) b3_4 hb); replace HB := Aside0.mk (below_step b3_1 hb); (try clear hb); (try clear hb2); (try clear hk); (try clear hi); obtain ⟨hcz55_0, hcz55_1, hcz55_2, hcz55_3, hcz55_4, hcz55_5, hcz55_6, hfz55_0, hfz55_1, hfz55_2, hfz55_3, hfz55_4, hfz55_5, hfz55_6⟩ := cells7 BK111.out) | (go_at_call 59; (with_reducible refine (spec_l1In.calls ((rd_T58 l0 a1).f3) 0 (wrap64 (t120 - 1)) false _ A38.out).mono ?_); rintro e w' ⟨rfl, ⟨nd, rfl⟩⟩; (try exact b3_0))); try go_wp2_with (first | (go_at_call 72; (with_reducible refine (spec_l3Reads.calls ((rd_T58 l0 a1).f0) t114 _ A12.out).mono ?_); rintro e w' ⟨rfl, ⟨nd, rfl⟩⟩; (try exact b3_0)) | (go_at_call 44; (with_reducible refine (spec_l3Width.calls k1 _ _ l0 ((rd_T58 l0 a1).f1) t120 _ ?side1 ?side2 A36.out).mono ?_); (case side1 => exact b3_3); (case side2 => exact HC0.out); rintro e w54 ⟨rfl, hb⟩; replace BK111 := Aside0.mk (blk_below (g := gb111) (o := .cells #[.int .i64 ((rd_T58 l0 a1).f0), .int .i64 ((rd_T58 l0 a1).f1), .int .i64 ((rd_T58 l0 a1).f2), .int .i64 ((rd_T58 l0 a1).f3), .int .i64 ((rd_T58 l0 a1).f4), .int .i64 ((rd_T58 l0 a1).f5), .slice A110_6 ((rd_T58 l0 a1).f6).length c110_6] 58 (0, 0)) b3_4 hb); replace HB := Aside0.mk (below_step b3_1 hb); (try clear hb); (try clear hb2); (try clear hk); (try clear hi); obtain ⟨hcz55_0, hcz55_1, hcz55_2, hcz55_3, hcz55_4, hcz55_5, hcz55_6, hfz55_0, hfz55_1, hfz55_2, hfz55_3, hfz55_4, hfz55_5, hfz55_6⟩ := cells7 BK111.out) | (go_at_call 59; (with_reducible refine (spec_l1In.calls ((rd_T58 l0 a1).f3) 0 (wrap64 (t120 - 1)) false _ A38.out).mono ?_); rintro e w' ⟨rfl, ⟨nd, rfl⟩⟩; (try exact b3_0))))
     go_ret
     exact ⟨ce_, cB1_ GE111.out⟩
    subst c39
    rw [if_pos rfl] at H
    obtain ⟨t122, A40, H⟩ := bnd_ H
    try dsimp only at H
    by_cases c41 : t122 = true
    rotate_left
    ·replace c41 := Bool.eq_false_iff.mpr c41
     subst c41
     rw [if_neg (show ¬ (false = true) by decide)] at H
     obtain rfl := Option.some.inj H
     obtain ⟨hcz50_0, hcz50_1, hcz50_2, hcz50_3, hcz50_4, hcz50_5, hcz50_6, hfz50_0, hfz50_1, hfz50_2, hfz50_3, hfz50_4, hfz50_5, hfz50_6⟩ := cells7 BK111.out
     go_wp2_with (first | (go_at_call 72; (with_reducible refine (spec_l3Reads.calls ((rd_T58 l0 a1).f0) t114 _ A12.out).mono ?_); rintro e w' ⟨rfl, ⟨nd, rfl⟩⟩; (try exact b3_0)) | (go_at_call 44; (with_reducible refine (spec_l3Width.calls k1 _ _ l0 ((rd_T58 l0 a1).f1) t120 _ ?side1 ?side2 A36.out).mono ?_); (case side1 => exact b3_3); (case side2 => exact HC0.out); rintro e w51 ⟨rfl, hb⟩; replace BK111 := Aside0.mk (blk_below (g := gb111) (o := .cells #[.int .i64 ((rd_T58 l0 a1).f0), .int .i64 ((rd_T58 l0 a1).f1), .int .i64 ((rd_T58 l0 a1).f2), .int .i64 ((rd_T58 l0 a1).f3), .int .i64 ((rd_T58 l0 a1).f4), .int .i64 ((rd_T58 l0 a1).f5), .slice A110_6 ((rd_T58 l0 a1).f6).length c110_6] 58 (0, 0)) b3_4 hb); replace HB := Aside0.mk (below_step b3_1 hb); (try clear hb); (try clear hb2); (try clear hk); (try clear hi); obtain ⟨hcz52_0, hcz52_1, hcz52_2, hcz52_3, hcz52_4, hcz52_5, hcz52_6, hfz52_0, hfz52_1, hfz52_2, hfz52_3, hfz52_4, hfz52_5, hfz52_6⟩ := cells7 BK111.out) | (go_at_call 59; (with_reducible refine (spec_l1In.calls ((rd_T58 l0 a1).f3) 0 (wrap64 (t120 - 1)) true _ A38.out).mono ?_); rintro e w' ⟨rfl, ⟨nd, rfl⟩⟩; (try exact b3_0)) | (go_at_call 59; (with_reducible refine (spec_l1In.calls ((rd_T58 l0 a1).f4) 0 2 false _ A40.out).mono ?_); rintro e w' ⟨rfl, ⟨nd, rfl⟩⟩; (try exact b3_0)))
     repeat (go_quiet (first | (go_at_call 72; (with_reducible refine (spec_l3Reads.calls ((rd_T58 l0 a1).f0) t114 _ A12.out).mono ?_); rintro e w' ⟨rfl, ⟨nd, rfl⟩⟩; (try exact b3_0)) | (go_at_call 44; (with_reducible refine (spec_l3Width.calls k1 _ _ l0 ((rd_T58 l0 a1).f1) t120 _ ?side1 ?side2 A36.out).mono ?_); (case side1 => exact b3_3); (case side2 => exact HC0.out); rintro e w51 ⟨rfl, hb⟩; replace BK111 := Aside0.mk (blk_below (g := gb111) (o := .cells #[.int .i64 ((rd_T58 l0 a1).f0), .int .i64 ((rd_T58 l0 a1).f1), .int .i64 ((rd_T58 l0 a1).f2), .int .i64 ((rd_T58 l0 a1).f3), .int .i64 ((rd_T58 l0 a1).f4), .int .i64 ((rd_T58 l0 a1).f5), .slice A110_6 ((rd_T58 l0 a1).f6).length c110_6] 58 (0, 0)) b3_4 hb); replace HB := Aside0.mk (below_step b3_1 hb); (try clear hb); (try clear hb2); (try clear hk); (try clear hi); obtain ⟨hcz52_0, hcz52_1, hcz52_2, hcz52_3, hcz52_4, hcz52_5, hcz52_6, hfz52_0, hfz52_1, hfz52_2, hfz52_3, hfz52_4, hfz52_5, hfz52_6⟩ := cells7 BK111.out) | (go_at_call 59; (with_reducible refine (spec_l1In.calls ((rd_T58 l0 a1).f3) 0 (wrap64 (t120 - 1)) true _ A38.out).mono ?_); rintro e w' ⟨rfl, ⟨nd, rfl⟩⟩; (try exact b3_0)) | (go_at_call 59; (with_reducible refine (spec_l1In.calls ((rd_T58 l0 a1).f4) 0 2 false _ A40.out).mono ?_); rintro e w' ⟨rfl, ⟨nd, rfl⟩⟩; (try exact b3_0))); try go_wp2_with (first | (go_at_call 72; (with_reducible refine (spec_l3Reads.calls ((rd_T58 l0 a1).f0) t114 _ A12.out).mono ?_); rintro e w' ⟨rfl, ⟨nd, rfl⟩⟩; (try exact b3_0)) | (go_at_call 44; (with_reducible refine (spec_l3Width.calls k1 _ _ l0 ((rd_T58 l0 a1).f1) t120 _ ?side1 ?side2 A36.out).mono ?_); (case side1 => exact b3_3); (case side2 => exact HC0.out); rintro e w51 ⟨rfl, hb⟩; replace BK111 := Aside0.mk (blk_below (g := gb111) (o := .cells #[.int .i64 ((rd_T58 l0 a1).f0), .int .i64 ((rd_T58 l0 a1).f1), .int .i64 ((rd_T58 l0 a1).f2), .int .i64 ((rd_T58 l0 a1).f3), .int .i64 ((rd_T58 l0 a1).f4), .int .i64 ((rd_T58 l0 a1).f5), .slice A110_6 ((rd_T58 l0 a1).f6).length c110_6] 58 (0, 0)) b3_4 hb); replace HB := Aside0.mk (below_step b3_1 hb); (try clear hb); (try clear hb2); (try clear hk); (try clear hi); obtain ⟨hcz52_0, hcz52_1, hcz52_2, hcz52_3, hcz52_4, hcz52_5, hcz52_6, hfz52_0, hfz52_1, hfz52_2, hfz52_3, hfz52_4, hfz52_5, hfz52_6⟩ := cells7 BK111.out) | (go_at_call 59; (with_reducible refine (spec_l1In.calls ((rd_T58 l0 a1).f3) 0 (wrap64 (t120 - 1)) true _ A38.out).mono ?_); rintro e w' ⟨rfl, ⟨nd, rfl⟩⟩; (try exact b3_0)) | (go_at_call 59; (with_reducible refine (spec_l1In.calls ((rd_T58 l0 a1).f4) 0 2 false _ A40.out).mono ?_); rintro e w' ⟨rfl, ⟨nd, rfl⟩⟩; (try exact b3_0))))
     go_ret
     exact ⟨ce_, cB1_ GE111.out⟩
    subst c41
    rw [if_pos rfl] at H
    obtain ⟨t123, A42, H⟩ := bnd_ H
    try dsimp only at H
    by_cases c43 : t123 = true
    ·subst c43
     rw [if_pos rfl] at H
     obtain rfl := Option.some.inj H
     obtain ⟨hcz44_0, hcz44_1, hcz44_2, hcz44_3, hcz44_4, hcz44_5, hcz44_6, hfz44_0, hfz44_1, hfz44_2, hfz44_3, hfz44_4, hfz44_5, hfz44_6⟩ := cells7 BK111.out
     go_wp2_with (first | (go_at_call 72; (with_reducible refine (spec_l3Reads.calls ((rd_T58 l0 a1).f0) t114 _ A12.out).mono ?_); rintro e w' ⟨rfl, ⟨nd, rfl⟩⟩; (try exact b3_0)) | (go_at_call 44; (with_reducible refine (spec_l3Width.calls k1 _ _ l0 ((rd_T58 l0 a1).f1) t120 _ ?side1 ?side2 A36.out).mono ?_); (case side1 => exact b3_3); (case side2 => exact HC0.out); rintro e w45 ⟨rfl, hb⟩; replace BK111 := Aside0.mk (blk_below (g := gb111) (o := .cells #[.int .i64 ((rd_T58 l0 a1).f0), .int .i64 ((rd_T58 l0 a1).f1), .int .i64 ((rd_T58 l0 a1).f2), .int .i64 ((rd_T58 l0 a1).f3), .int .i64 ((rd_T58 l0 a1).f4), .int .i64 ((rd_T58 l0 a1).f5), .slice A110_6 ((rd_T58 l0 a1).f6).length c110_6] 58 (0, 0)) b3_4 hb); replace HB := Aside0.mk (below_step b3_1 hb); (try clear hb); (try clear hb2); (try clear hk); (try clear hi); obtain ⟨hcz46_0, hcz46_1, hcz46_2, hcz46_3, hcz46_4, hcz46_5, hcz46_6, hfz46_0, hfz46_1, hfz46_2, hfz46_3, hfz46_4, hfz46_5, hfz46_6⟩ := cells7 BK111.out) | (go_at_call 59; (with_reducible refine (spec_l1In.calls ((rd_T58 l0 a1).f3) 0 (wrap64 (t120 - 1)) true _ A38.out).mono ?_); rintro e w' ⟨rfl, ⟨nd, rfl⟩⟩; (try exact b3_0)) | (go_at_call 59; (with_reducible refine (spec_l1In.calls ((rd_T58 l0 a1).f4) 0 2 true _ A40.out).mono ?_); rintro e w' ⟨rfl, ⟨nd, rfl⟩⟩; (try exact b3_0)) | (go_at_call 59; (with_reducible refine (spec_l1In.calls ((rd_T58 l0 a1).f5) (-1000000000) 1000000000 true _ A42.out).mono ?_); rintro e w' ⟨rfl, ⟨nd, rfl⟩⟩; (try exact b3_0)))
     repeat (go_quiet (first | (go_at_call 72; (with_reducible refine (spec_l3Reads.calls ((rd_T58 l0 a1).f0) t114 _ A12.out).mono ?_); rintro e w' ⟨rfl, ⟨nd, rfl⟩⟩; (try exact b3_0)) | (go_at_call 44; (with_reducible refine (spec_l3Width.calls k1 _ _ l0 ((rd_T58 l0 a1).f1) t120 _ ?side1 ?side2 A36.out).mono ?_); (case side1 => exact b3_3); (case side2 => exact HC0.out); rintro e w45 ⟨rfl, hb⟩; replace BK111 := Aside0.mk (blk_below (g := gb111) (o := .cells #[.int .i64 ((rd_T58 l0 a1).f0), .int .i64 ((rd_T58 l0 a1).f1), .int .i64 ((rd_T58 l0 a1).f2), .int .i64 ((rd_T58 l0 a1).f3), .int .i64 ((rd_T58 l0 a1).f4), .int .i64 ((rd_T58 l0 a1).f5), .slice A110_6 ((rd_T58 l0 a1).f6).length c110_6] 58 (0, 0)) b3_4 hb); replace HB := Aside0.mk (below_step b3_1 hb); (try clear hb); (try clear hb2); (try clear hk); (try clear hi); obtain ⟨hcz46_0, hcz46_1, hcz46_2, hcz46_3, hcz46_4, hcz46_5, hcz46_6, hfz46_0, hfz46_1, hfz46_2, hfz46_3, hfz46_4, hfz46_5, hfz46_6⟩ := cells7 BK111.out) | (go_at_call 59; (with_reducible refine (spec_l1In.calls ((rd_T58 l0 a1).f3) 0 (wrap64 (t120 - 1)) true _ A38.out).mono ?_); rintro e w' ⟨rfl, ⟨nd, rfl⟩⟩; (try exact b3_0)) | (go_at_call 59; (with_reducible refine (spec_l1In.calls ((rd_T58 l0 a1).f4) 0 2 true _ A40.out).mono ?_); rintro e w' ⟨rfl, ⟨nd, rfl⟩⟩; (try exact b3_0)) | (go_at_call 59; (with_reducible refine (spec_l1In.calls ((rd_T58 l0 a1).f5) (-1000000000) 1000000000 true _ A42.out).mono ?_); rintro e w' ⟨rfl, ⟨nd, rfl⟩⟩; (try exact b3_0))); try go_wp2_with (first | (go_at_call 72; (with_reducible refine (spec_l3Reads.calls ((rd_T58 l0 a1).f0) t114 _ A12.out).mono ?_); rintro e w' ⟨rfl, ⟨nd, rfl⟩⟩; (try exact b3_0)) | (go_at_call 44; (with_reducible refine (spec_l3Width.calls k1 _ _ l0 ((rd_T58 l0 a1).f1) t120 _ ?side1 ?side2 A36.out).mono ?_); (case side1 => exact b3_3); (case side2 => exact HC0.out); rintro e w45 ⟨rfl, hb⟩; replace BK111 := Aside0.mk (blk_below (g := gb111) (o := .cells #[.int .i64 ((rd_T58 l0 a1).f0), .int .i64 ((rd_T58 l0 a1).f1), .int .i64 ((rd_T58 l0 a1).f2), .int .i64 ((rd_T58 l0 a1).f3), .int .i64 ((rd_T58 l0 a1).f4), .int .i64 ((rd_T58 l0 a1).f5), .slice A110_6 ((rd_T58 l0 a1).f6).length c110_6] 58 (0, 0)) b3_4 hb); replace HB := Aside0.mk (below_step b3_1 hb); (try clear hb); (try clear hb2); (try clear hk); (try clear hi); obtain ⟨hcz46_0, hcz46_1, hcz46_2, hcz46_3, hcz46_4, hcz46_5, hcz46_6, hfz46_0, hfz46_1, hfz46_2, hfz46_3, hfz46_4, hfz46_5, hfz46_6⟩ := cells7 BK111.out) | (go_at_call 59; (with_reducible refine (spec_l1In.calls ((rd_T58 l0 a1).f3) 0 (wrap64 (t120 - 1)) true _ A38.out).mono ?_); rintro e w' ⟨rfl, ⟨nd, rfl⟩⟩; (try exact b3_0)) | (go_at_call 59; (with_reducible refine (spec_l1In.calls ((rd_T58 l0 a1).f4) 0 2 true _ A40.out).mono ?_); rintro e w' ⟨rfl, ⟨nd, rfl⟩⟩; (try exact b3_0)) | (go_at_call 59; (with_reducible refine (spec_l1In.calls ((rd_T58 l0 a1).f5) (-1000000000) 1000000000 true _ A42.out).mono ?_); rintro e w' ⟨rfl, ⟨nd, rfl⟩⟩; (try exact b3_0))))
     go_ret
     exact ⟨ce_, cB1_ GE111.out⟩
    replace c43 := Bool.eq_false_iff.mpr c43
    subst c43
    rw [if_neg (show ¬ (false = true) by decide)] at H
    obtain rfl := Option.some.inj H
    obtain ⟨hcz47_0, hcz47_1, hcz47_2, hcz47_3, hcz47_4, hcz47_5, hcz47_6, hfz47_0, hfz47_1, hfz47_2, hfz47_3, hfz47_4, hfz47_5, hfz47_6⟩ := cells7 BK111.out
    go_wp2_with (first | (go_at_call 72; (with_reducible refine (spec_l3Reads.calls ((rd_T58 l0 a1).f0) t114 _ A12.out).mono ?_); rintro e w' ⟨rfl, ⟨nd, rfl⟩⟩; (try exact b3_0)) | (go_at_call 44; (with_reducible refine (spec_l3Width.calls k1 _ _ l0 ((rd_T58 l0 a1).f1) t120 _ ?side1 ?side2 A36.out).mono ?_); (case side1 => exact b3_3); (case side2 => exact HC0.out); rintro e w48 ⟨rfl, hb⟩; replace BK111 := Aside0.mk (blk_below (g := gb111) (o := .cells #[.int .i64 ((rd_T58 l0 a1).f0), .int .i64 ((rd_T58 l0 a1).f1), .int .i64 ((rd_T58 l0 a1).f2), .int .i64 ((rd_T58 l0 a1).f3), .int .i64 ((rd_T58 l0 a1).f4), .int .i64 ((rd_T58 l0 a1).f5), .slice A110_6 ((rd_T58 l0 a1).f6).length c110_6] 58 (0, 0)) b3_4 hb); replace HB := Aside0.mk (below_step b3_1 hb); (try clear hb); (try clear hb2); (try clear hk); (try clear hi); obtain ⟨hcz49_0, hcz49_1, hcz49_2, hcz49_3, hcz49_4, hcz49_5, hcz49_6, hfz49_0, hfz49_1, hfz49_2, hfz49_3, hfz49_4, hfz49_5, hfz49_6⟩ := cells7 BK111.out) | (go_at_call 59; (with_reducible refine (spec_l1In.calls ((rd_T58 l0 a1).f3) 0 (wrap64 (t120 - 1)) true _ A38.out).mono ?_); rintro e w' ⟨rfl, ⟨nd, rfl⟩⟩; (try exact b3_0)) | (go_at_call 59; (with_reducible refine (spec_l1In.calls ((rd_T58 l0 a1).f4) 0 2 true _ A40.out).mono ?_); rintro e w' ⟨rfl, ⟨nd, rfl⟩⟩; (try exact b3_0)) | (go_at_call 59; (with_reducible refine (spec_l1In.calls ((rd_T58 l0 a1).f5) (-1000000000) 1000000000 false _ A42.out).mono ?_); rintro e w' ⟨rfl, ⟨nd, rfl⟩⟩; (try exact b3_0)))
    repeat (go_quiet (first | (go_at_call 72; (with_reducible refine (spec_l3Reads.calls ((rd_T58 l0 a1).f0) t114 _ A12.out).mono ?_); rintro e w' ⟨rfl, ⟨nd, rfl⟩⟩; (try exact b3_0)) | (go_at_call 44; (with_reducible refine (spec_l3Width.calls k1 _ _ l0 ((rd_T58 l0 a1).f1) t120 _ ?side1 ?side2 A36.out).mono ?_); (case side1 => exact b3_3); (case side2 => exact HC0.out); rintro e w48 ⟨rfl, hb⟩; replace BK111 := Aside0.mk (blk_below (g := gb111) (o := .cells #[.int .i64 ((rd_T58 l0 a1).f0), .int .i64 ((rd_T58 l0 a1).f1), .int .i64 ((rd_T58 l0 a1).f2), .int .i64 ((rd_T58 l0 a1).f3), .int .i64 ((rd_T58 l0 a1).f4), .int .i64 ((rd_T58 l0 a1).f5), .slice A110_6 ((rd_T58 l0 a1).f6).length c110_6] 58 (0, 0)) b3_4 hb); replace HB := Aside0.mk (below_step b3_1 hb); (try clear hb); (try clear hb2); (try clear hk); (try clear hi); obtain ⟨hcz49_0, hcz49_1, hcz49_2, hcz49_3, hcz49_4, hcz49_5, hcz49_6, hfz49_0, hfz49_1, hfz49_2, hfz49_3, hfz49_4, hfz49_5, hfz49_6⟩ := cells7 BK111.out) | (go_at_call 59; (with_reducible refine (spec_l1In.calls ((rd_T58 l0 a1).f3) 0 (wrap64 (t120 - 1)) true _ A38.out).mono ?_); rintro e w' ⟨rfl, ⟨nd, rfl⟩⟩; (try exact b3_0)) | (go_at_call 59; (with_reducible refine (spec_l1In.calls ((rd_T58 l0 a1).f4) 0 2 true _ A40.out).mono ?_); rintro e w' ⟨rfl, ⟨nd, rfl⟩⟩; (try exact b3_0)) | (go_at_call 59; (with_reducible refine (spec_l1In.calls ((rd_T58 l0 a1).f5) (-1000000000) 1000000000 false _ A42.out).mono ?_); rintro e w' ⟨rfl, ⟨nd, rfl⟩⟩; (try exact b3_0))); try go_wp2_with (first | (go_at_call 72; (with_reducible refine (spec_l3Reads.calls ((rd_T58 l0 a1).f0) t114 _ A12.out).mono ?_); rintro e w' ⟨rfl, ⟨nd, rfl⟩⟩; (try exact b3_0)) | (go_at_call 44; (with_reducible refine (spec_l3Width.calls k1 _ _ l0 ((rd_T58 l0 a1).f1) t120 _ ?side1 ?side2 A36.out).mono ?_); (case side1 => exact b3_3); (case side2 => exact HC0.out); rintro e w48 ⟨rfl, hb⟩; replace BK111 := Aside0.mk (blk_below (g := gb111) (o := .cells #[.int .i64 ((rd_T58 l0 a1).f0), .int .i64 ((rd_T58 l0 a1).f1), .int .i64 ((rd_T58 l0 a1).f2), .int .i64 ((rd_T58 l0 a1).f3), .int .i64 ((rd_T58 l0 a1).f4), .int .i64 ((rd_T58 l0 a1).f5), .slice A110_6 ((rd_T58 l0 a1).f6).length c110_6] 58 (0, 0)) b3_4 hb); replace HB := Aside0.mk (below_step b3_1 hb); (try clear hb); (try clear hb2); (try clear hk); (try clear hi); obtain ⟨hcz49_0, hcz49_1, hcz49_2, hcz49_3, hcz49_4, hcz49_5, hcz49_6, hfz49_0, hfz49_1, hfz49_2, hfz49_3, hfz49_4, hfz49_5, hfz49_6⟩ := cells7 BK111.out) | (go_at_call 59; (with_reducible refine (spec_l1In.calls ((rd_T58 l0 a1).f3) 0 (wrap64 (t120 - 1)) true _ A38.out).mono ?_); rintro e w' ⟨rfl, ⟨nd, rfl⟩⟩; (try exact b3_0)) | (go_at_call 59; (with_reducible refine (spec_l1In.calls ((rd_T58 l0 a1).f4) 0 2 true _ A40.out).mono ?_); rintro e w' ⟨rfl, ⟨nd, rfl⟩⟩; (try exact b3_0)) | (go_at_call 59; (with_reducible refine (spec_l1In.calls ((rd_T58 l0 a1).f5) (-1000000000) 1000000000 false _ A42.out).mono ?_); rintro e w' ⟨rfl, ⟨nd, rfl⟩⟩; (try exact b3_0))))
    go_ret
    exact ⟨ce_, cB1_ GE111.out⟩
   rw [if_neg c37] at H
   have c37b0 : (((rd_T58 l0 a1).f0) == 2) = false := beq_eq_false_iff_ne.mpr c37
   have c37b1 : (((rd_T58 l0 a1).f0) != 2) = true := bne_iff_ne.mpr c37
   by_cases c56 : ((rd_T58 l0 a1).f0) = 3
   rotate_left
   ·rw [if_neg c56] at H
    have c56b0 : (((rd_T58 l0 a1).f0) == 3) = false := beq_eq_false_iff_ne.mpr c56
    have c56b1 : (((rd_T58 l0 a1).f0) != 3) = true := bne_iff_ne.mpr c56
    by_cases c72 : ((rd_T58 l0 a1).f0) = 4
    ·rw [if_pos c72] at H
     have c72b0 : (((rd_T58 l0 a1).f0) == 4) = true := beq_iff_eq.mpr c72
     have c72b1 : (((rd_T58 l0 a1).f0) != 4) = false := bne_eq_false_iff_eq.mpr c72
     clear c72
     obtain ⟨t126, A73, H⟩ := bnd_ H
     try dsimp only at H
     by_cases c74 : t120 = t126
     ·rw [if_pos c74] at H
      have c74b0 : (t120 == t126) = true := beq_iff_eq.mpr c74
      have c74b1 : (t120 != t126) = false := bne_eq_false_iff_eq.mpr c74
      clear c74
      obtain rfl := Option.some.inj H
      obtain ⟨hcz75_0, hcz75_1, hcz75_2, hcz75_3, hcz75_4, hcz75_5, hcz75_6, hfz75_0, hfz75_1, hfz75_2, hfz75_3, hfz75_4, hfz75_5, hfz75_6⟩ := cells7 BK111.out
      go_wp2_with (first | (go_at_call 72; (with_reducible refine (spec_l3Reads.calls ((rd_T58 l0 a1).f0) t114 _ A12.out).mono ?_); rintro e w' ⟨rfl, ⟨nd, rfl⟩⟩; (try exact b3_0)) | (go_at_call 44; (with_reducible refine (spec_l3Width.calls k1 _ _ l0 ((rd_T58 l0 a1).f1) t120 _ ?side1 ?side2 A36.out).mono ?_); (case side1 => exact b3_3); (case side2 => exact HC0.out); rintro e w76 ⟨rfl, hb⟩; replace BK111 := Aside0.mk (blk_below (g := gb111) (o := .cells #[.int .i64 ((rd_T58 l0 a1).f0), .int .i64 ((rd_T58 l0 a1).f1), .int .i64 ((rd_T58 l0 a1).f2), .int .i64 ((rd_T58 l0 a1).f3), .int .i64 ((rd_T58 l0 a1).f4), .int .i64 ((rd_T58 l0 a1).f5), .slice A110_6 ((rd_T58 l0 a1).f6).length c110_6] 58 (0, 0)) b3_4 hb); replace HB := Aside0.mk (below_step b3_1 hb); (try clear hb); (try clear hb2); (try clear hk); (try clear hi); obtain ⟨hcz77_0, hcz77_1, hcz77_2, hcz77_3, hcz77_4, hcz77_5, hcz77_6, hfz77_0, hfz77_1, hfz77_2, hfz77_3, hfz77_4, hfz77_5, hfz77_6⟩ := cells7 BK111.out) | (go_at_call 44; (with_reducible refine (spec_l3Width.calls k1 _ _ l0 ((rd_T58 l0 a1).f2) t126 _ ?side1 ?side2 A73.out).mono ?_); (case side1 => exact b3_6); (case side2 => exact HC0.out); rintro e w78 ⟨rfl, hb⟩; replace BK111 := Aside0.mk (blk_below (g := gb111) (o := .cells #[.int .i64 ((rd_T58 l0 a1).f0), .int .i64 ((rd_T58 l0 a1).f1), .int .i64 ((rd_T58 l0 a1).f2), .int .i64 ((rd_T58 l0 a1).f3), .int .i64 ((rd_T58 l0 a1).f4), .int .i64 ((rd_T58 l0 a1).f5), .slice A110_6 ((rd_T58 l0 a1).f6).length c110_6] 58 (0, 0)) b3_4 hb); replace HB := Aside0.mk (below_step b3_1 hb); (try clear hb); (try clear hb2); (try clear hk); (try clear hi)))
      repeat (go_quiet (first | (go_at_call 72; (with_reducible refine (spec_l3Reads.calls ((rd_T58 l0 a1).f0) t114 _ A12.out).mono ?_); rintro e w' ⟨rfl, ⟨nd, rfl⟩⟩; (try exact b3_0)) | (go_at_call 44; (with_reducible refine (spec_l3Width.calls k1 _ _ l0 ((rd_T58 l0 a1).f1) t120 _ ?side1 ?side2 A36.out).mono ?_); (case side1 => exact b3_3); (case side2 => exact HC0.out); rintro e w76 ⟨rfl, hb⟩; replace BK111 := Aside0.mk (blk_below (g := gb111) (o := .cells #[.int .i64 ((rd_T58 l0 a1).f0), .int .i64 ((rd_T58 l0 a1).f1), .int .i64 ((rd_T58 l0 a1).f2), .int .i64 ((rd_T58 l0 a1).f3), .int .i64 ((rd_T58 l0 a1).f4), .int .i64 ((rd_T58 l0 a1).f5), .slice A110_6 ((rd_T58 l0 a1).f6).length c110_6] 58 (0, 0)) b3_4 hb); replace HB := Aside0.mk (below_step b3_1 hb); (try clear hb); (try clear hb2); (try clear hk); (try clear hi); obtain ⟨hcz77_0, hcz77_1, hcz77_2, hcz77_3, hcz77_4, hcz77_5, hcz77_6, hfz77_0, hfz77_1, hfz77_2, hfz77_3, hfz77_4, hfz77_5, hfz77_6⟩ := cells7 BK111.out) | (go_at_call 44; (with_reducible refine (spec_l3Width.calls k1 _ _ l0 ((rd_T58 l0 a1).f2) t126 _ ?side1 ?side2 A73.out).mono ?_); (case side1 => exact b3_6); (case side2 => exact HC0.out); rintro e w78 ⟨rfl, hb⟩; replace BK111 := Aside0.mk (blk_below (g := gb111) (o := .cells #[.int .i64 ((rd_T58 l0 a1).f0), .int .i64 ((rd_T58 l0 a1).f1), .int .i64 ((rd_T58 l0 a1).f2), .int .i64 ((rd_T58 l0 a1).f3), .int .i64 ((rd_T58 l0 a1).f4), .int .i64 ((rd_T58 l0 a1).f5), .slice A110_6 ((rd_T58 l0 a1).f6).length c110_6] 58 (0, 0)) b3_4 hb); replace HB := Aside0.mk (below_step b3_1 hb); (try clear hb); (try clear hb2); (try clear hk); (try clear hi))); try go_wp2_with (first | (go_at_call 72; (with_reducible refine (spec_l3Reads.calls ((rd_T58 l0 a1).f0) t114 _ A12.out).mono ?_); rintro e w' ⟨rfl, ⟨nd, rfl⟩⟩; (try exact b3_0)) | (go_at_call 44; (with_reducible refine (spec_l3Width.calls k1 _ _ l0 ((rd_T58 l0 a1).f1) t120 _ ?side1 ?side2 A36.out).mono ?_); (case side1 => exact b3_3); (case side2 => exact HC0.out); rintro e w76 ⟨rfl, hb⟩; replace BK111 := Aside0.mk (blk_below (g := gb111) (o := .cells #[.int .i64 ((rd_T58 l0 a1).f0), .int .i64 ((rd_T58 l0 a1).f1), .int .i64 ((rd_T58 l0 a1).f2), .int .i64 ((rd_T58 l0 a1).f3), .int .i64 ((rd_T58 l0 a1).f4), .int .i64 ((rd_T58 l0 a1).f5), .slice A110_6 ((rd_T58 l0 a1).f6).length c110_6] 58 (0, 0)) b3_4 hb); replace HB := Aside0.mk (below_step b3_1 hb); (try clear hb); (try clear hb2); (try clear hk); (try clear hi); obtain ⟨hcz77_0, hcz77_1, hcz77_2, hcz77_3, hcz77_4, hcz77_5, hcz77_6, hfz77_0, hfz77_1, hfz77_2, hfz77_3, hfz77_4, hfz77_5, hfz77_6⟩ := cells7 BK111.out) | (go_at_call 44; (with_reducible refine (spec_l3Width.calls k1 _ _ l0 ((rd_T58 l0 a1).f2) t126 _ ?side1 ?side2 A73.out).mono ?_); (case side1 => exact b3_6); (case side2 => exact HC0.out); rintro e w78 ⟨rfl, hb⟩; replace BK111 := Aside0.mk (blk_below (g := gb111) (o := .cells #[.int .i64 ((rd_T58 l0 a1).f0), .int .i64 ((rd_T58 l0 a1).f1), .int .i64 ((rd_T58 l0 a1).f2), .int .i64 ((rd_T58 l0 a1).f3), .int .i64 ((rd_T58 l0 a1).f4), .int .i64 ((rd_T58 l0 a1).f5), .slice A110_6 ((rd_T58 l0 a1).f6).length c110_6] 58 (0, 0)) b3_4 hb); replace HB := Aside0.mk (below_step b3_1 hb); (try clear hb); (try clear hb2); (try clear hk); (try clear hi))))
      go_ret
      exact ⟨ce_, cB1_ GE111.out⟩
     rw [if_neg c74] at H
     have c74b0 : (t120 == t126) = false := beq_eq_false_iff_ne.mpr c74
     have c74b1 : (t120 != t126) = true := bne_iff_ne.mpr c74
     obtain rfl := Option.some.inj H
     obtain ⟨hcz79_0, hcz79_1, hcz79_2, hcz79_3, hcz79_4, hcz79_5, hcz79_6, hfz79_0, hfz79_1, hfz79_2, hfz79_3, hfz79_4, hfz79_5, hfz79_6⟩ := cells7 BK111.out
     go_wp2_with (first | (go_at_call 72; (with_reducible refine (spec_l3Reads.calls ((rd_T58 l0 a1).f0) t114 _ A12.out).mono ?_); rintro e w' ⟨rfl, ⟨nd, rfl⟩⟩; (try exact b3_0)) | (go_at_call 44; (with_reducible refine (spec_l3Width.calls k1 _ _ l0 ((rd_T58 l0 a1).f1) t120 _ ?side1 ?side2 A36.out).mono ?_); (case side1 => exact b3_3); (case side2 => exact HC0.out); rintro e w80 ⟨rfl, hb⟩; replace BK111 := Aside0.mk (blk_below (g := gb111) (o := .cells #[.int .i64 ((rd_T58 l0 a1).f0), .int .i64 ((rd_T58 l0 a1).f1), .int .i64 ((rd_T58 l0 a1).f2), .int .i64 ((rd_T58 l0 a1).f3), .int .i64 ((rd_T58 l0 a1).f4), .int .i64 ((rd_T58 l0 a1).f5), .slice A110_6 ((rd_T58 l0 a1).f6).length c110_6] 58 (0, 0)) b3_4 hb); replace HB := Aside0.mk (below_step b3_1 hb); (try clear hb); (try clear hb2); (try clear hk); (try clear hi); obtain ⟨hcz81_0, hcz81_1, hcz81_2, hcz81_3, hcz81_4, hcz81_5, hcz81_6, hfz81_0, hfz81_1, hfz81_2, hfz81_3, hfz81_4, hfz81_5, hfz81_6⟩ := cells7 BK111.out) | (go_at_call 44; (with_reducible refine (spec_l3Width.calls k1 _ _ l0 ((rd_T58 l0 a1).f2) t126 _ ?side1 ?side2 A73.out).mono ?_); (case side1 => exact b3_6); (case side2 => exact HC0.out); rintro e w82 ⟨rfl, hb⟩; replace BK111 := Aside0.mk (blk_below (g := gb111) (o := .cells #[.int .i64 ((rd_T58 l0 a1).f0), .int .i64 ((rd_T58 l0 a1).f1), .int .i64 ((rd_T58 l0 a1).f2), .int .i64 ((rd_T58 l0 a1).f3), .int .i64 ((rd_T58 l0 a1).f4), .int .i64 ((rd_T58 l0 a1).f5), .slice A110_6 ((rd_T58 l0 a1).f6).length c110_6] 58 (0, 0)) b3_4 hb); replace HB := Aside0.mk (below_step b3_1 hb); (try clear hb); (try clear hb2); (try clear hk); (try clear hi)))
     repeat (go_quiet (first | (go_at_call 72; (with_reducible refine (spec_l3Reads.calls ((rd_T58 l0 a1).f0) t114 _ A12.out).mono ?_); rintro e w' ⟨rfl, ⟨nd, rfl⟩⟩; (try exact b3_0)) | (go_at_call 44; (with_reducible refine (spec_l3Width.calls k1 _ _ l0 ((rd_T58 l0 a1).f1) t120 _ ?side1 ?side2 A36.out).mono ?_); (case side1 => exact b3_3); (case side2 => exact HC0.out); rintro e w80 ⟨rfl, hb⟩; replace BK111 := Aside0.mk (blk_below (g := gb111) (o := .cells #[.int .i64 ((rd_T58 l0 a1).f0), .int .i64 ((rd_T58 l0 a1).f1), .int .i64 ((rd_T58 l0 a1).f2), .int .i64 ((rd_T58 l0 a1).f3), .int .i64 ((rd_T58 l0 a1).f4), .int .i64 ((rd_T58 l0 a1).f5), .slice A110_6 ((rd_T58 l0 a1).f6).length c110_6] 58 (0, 0)) b3_4 hb); replace HB := Aside0.mk (below_step b3_1 hb); (try clear hb); (try clear hb2); (try clear hk); (try clear hi); obtain ⟨hcz81_0, hcz81_1, hcz81_2, hcz81_3, hcz81_4, hcz81_5, hcz81_6, hfz81_0, hfz81_1, hfz81_2, hfz81_3, hfz81_4, hfz81_5, hfz81_6⟩ := cells7 BK111.out) | (go_at_call 44; (with_reducible refine (spec_l3Width.calls k1 _ _ l0 ((rd_T58 l0 a1).f2) t126 _ ?side1 ?side2 A73.out).mono ?_); (case side1 => exact b3_6); (case side2 => exact HC0.out); rintro e w82 ⟨rfl, hb⟩; replace BK111 := Aside0.mk (blk_below (g := gb111) (o := .cells #[.int .i64 ((rd_T58 l0 a1).f0), .int .i64 ((rd_T58 l0 a1).f1), .int .i64 ((rd_T58 l0 a1).f2), .int .i64 ((rd_T58 l0 a1).f3), .int .i64 ((rd_T58 l0 a1).f4), .int .i64 ((rd_T58 l0 a1).f5), .slice A110_6 ((rd_T58 l0 a1).f6).length c110_6] 58 (0, 0)) b3_4 hb); replace HB := Aside0.mk (below_step b3_1 hb); (try clear hb); (try clear hb2); (try clear hk); (try clear hi))); try go_wp2_with (first | (go_at_call 72; (with_reducible refine (spec_l3Reads.calls ((rd_T58 l0 a1).f0) t114 _ A12.out).mono ?_); rintro e w' ⟨rfl, ⟨nd, rfl⟩⟩; (try exact b3_0)) | (go_at_call 44; (with_reducible refine (spec_l3Width.calls k1 _ _ l0 ((rd_T58 l0 a1).f1) t120 _ ?side1 ?side2 A36.out).mono ?_); (case side1 => exact b3_3); (case side2 => exact HC0.out); rintro e w80 ⟨rfl, hb⟩; replace BK111 := Aside0.mk (blk_below (g := gb111) (o := .cells #[.int .i64 ((rd_T58 l0 a1).f0), .int .i64 ((rd_T58 l0 a1).f1), .int .i64 ((rd_T58 l0 a1).f2), .int .i64 ((rd_T58 l0 a1).f3), .int .i64 ((rd_T58 l0 a1).f4), .int .i64 ((rd_T58 l0 a1).f5), .slice A110_6 ((rd_T58 l0 a1).f6).length c110_6] 58 (0, 0)) b3_4 hb); replace HB := Aside0.mk (below_step b3_1 hb); (try clear hb); (try clear hb2); (try clear hk); (try clear hi); obtain ⟨hcz81_0, hcz81_1, hcz81_2, hcz81_3, hcz81_4, hcz81_5, hcz81_6, hfz81_0, hfz81_1, hfz81_2, hfz81_3, hfz81_4, hfz81_5, hfz81_6⟩ := cells7 BK111.out) | (go_at_call 44; (with_reducible refine (spec_l3Width.calls k1 _ _ l0 ((rd_T58 l0 a1).f2) t126 _ ?side1 ?side2 A73.out).mono ?_); (case side1 => exact b3_6); (case side2 => exact HC0.out); rintro e w82 ⟨rfl, hb⟩; replace BK111 := Aside0.mk (blk_below (g := gb111) (o := .cells #[.int .i64 ((rd_T58 l0 a1).f0), .int .i64 ((rd_T58 l0 a1).f1), .int .i64 ((rd_T58 l0 a1).f2), .int .i64 ((rd_T58 l0 a1).f3), .int .i64 ((rd_T58 l0 a1).f4), .int .i64 ((rd_T58 l0 a1).f5), .slice A110_6 ((rd_T58 l0 a1).f6).length c110_6] 58 (0, 0)) b3_4 hb); replace HB := Aside0.mk (below_step b3_1 hb); (try clear hb); (try clear hb2); (try clear hk); (try clear hi))))
     go_ret
     exact ⟨ce_, cB1_ GE111.out⟩
    rw [if_neg c72] at H
    have c72b0 : (((rd_T58 l0 a1).f0) == 4) = false := beq_eq_false_iff_ne.mpr c72
    have c72b1 : (((rd_T58 l0 a1).f0) != 4) = true := bne_iff_ne.mpr c72
    by_cases c83 : ((rd_T58 l0 a1).f0) = 6
    ·rw [if_pos c83] at H
     have c83b0 : (((rd_T58 l0 a1).f0) == 6) = true := beq_iff_eq.mpr c83
     have c83b1 : (((rd_T58 l0 a1).f0) != 6) = false := bne_eq_false_iff_eq.mpr c83
     clear c83
     obtain ⟨t127, A84, H⟩ := bnd_ H
     try dsimp only at H
     obtain ⟨t128, A85, H⟩ := bnd_ H
     try dsimp only at H
     obtain ⟨t129, A86, H⟩ := bnd_ H
     try dsimp only at H
     by_cases c87 : t129 = true
     ·subst c87
      rw [if_pos rfl] at H
      by_cases c88 : (wrap64 ((wrap64 (t120 + t127)) - ((rd_T58 l0 a1).f3))) > 4
      ·rw [if_pos c88] at H
       have c88b0 : decide (4 < (wrap64 ((wrap64 (t120 + t127)) - ((rd_T58 l0 a1).f3)))) = true := decide_eq_true c88
       clear c88
       obtain rfl := Option.some.inj H
       obtain ⟨hcz89_0, hcz89_1, hcz89_2, hcz89_3, hcz89_4, hcz89_5, hcz89_6, hfz89_0, hfz89_1, hfz89_2, hfz89_3, hfz89_4, hfz89_5, hfz89_6⟩ := cells7 BK111.out
       go_wp2_with (first | (go_at_call 72; (with_reducible refine (spec_l3Reads.calls ((rd_T58 l0 a1).f0) t114 _ A12.out).mono ?_); rintro e w' ⟨rfl, ⟨nd, rfl⟩⟩; (try exact b3_0)) | (go_at_call 44; (with_reducible refine (spec_l3Width.calls k1 _ _ l0 ((rd_T58 l0 a1).f1) t120 _ ?side1 ?side2 A36.out).mono ?_); (case side1 => exact b3_3); (case side2 => exact HC0.out); rintro e w90 ⟨rfl, hb⟩; replace BK111 := Aside0.mk (blk_below (g := gb111) (o := .cells #[.int .i64 ((rd_T58 l0 a1).f0), .int .i64 ((rd_T58 l0 a1).f1), .int .i64 ((rd_T58 l0 a1).f2), .int .i64 ((rd_T58 l0 a1).f3), .int .i64 ((rd_T58 l0 a1).f4), .int .i64 ((rd_T58 l0 a1).f5), .slice A110_6 ((rd_T58 l0 a1).f6).length c110_6] 58 (0, 0)) b3_4 hb); replace HB := Aside0.mk (below_step b3_1 hb); (try clear hb); (try clear hb2); (try clear hk); (try clear hi); obtain ⟨hcz91_0, hcz91_1, hcz91_2, hcz91_3, hcz91_4, hcz91_5, hcz91_6, hfz91_0, hfz91_1, hfz91_2, hfz91_3, hfz91_4, hfz91_5, hfz91_6⟩ := cells7 BK111.out) | (go_at_call 44; (with_reducible refine (spec_l3Width.calls k1 _ _ l0 ((rd_T58 l0 a1).f2) t127 _ ?side1 ?side2 A84.out).mono ?_); (case side1 => exact b3_6); (case side2 => exact HC0.out); rintro e w92 ⟨rfl, hb⟩; replace BK111 := Aside0.mk (blk_below (g := gb111) (o := .cells #[.int .i64 ((rd_T58 l0 a1).f0), .int .i64 ((rd_T58 l0 a1).f1), .int .i64 ((rd_T58 l0 a1).f2), .int .i64 ((rd_T58 l0 a1).f3), .int .i64 ((rd_T58 l0 a1).f4), .int .i64 ((rd_T58 l0 a1).f5), .slice A110_6 ((rd_T58 l0 a1).f6).length c110_6] 58 (0, 0)) b3_4 hb); replace HB := Aside0.mk (below_step b3_1 hb); (try clear hb); (try clear hb2); (try clear hk); (try clear hi); obtain ⟨hcz93_0, hcz93_1, hcz93_2, hcz93_3, hcz93_4, hcz93_5, hcz93_6, hfz93_0, hfz93_1, hfz93_2, hfz93_3, hfz93_4, hfz93_5, hfz93_6⟩ := cells7 BK111.out) | (go_at_call 73; (with_reducible refine (spec_l1Min.calls t120 t127 t128 _ A85.out).mono ?_); rintro e w' ⟨rfl, ⟨nd, rfl⟩⟩; (try exact b3_0)) | (go_at_call 59; (with_reducible refine (spec_l1In.calls ((rd_T58 l0 a1).f3) 1 t128 true _ A86.out).mono ?_); rintro e w' ⟨rfl, ⟨nd, rfl⟩⟩; (try exact b3_0)))
       repeat (go_quiet (first | (go_at_call 72; (with_reducible refine (spec_l3Reads.calls ((rd_T58 l0 a1).f0) t114 _ A12.out).mono ?_); rintro e w' ⟨rfl, ⟨nd, rfl⟩⟩; (try exact b3_0)) | (go_at_call 44; (with_reducible refine (spec_l3Width.calls k1 _ _ l0 ((rd_T58 l0 a1).f1) t120 _ ?side1 ?side2 A36.out).mono ?_); (case side1 => exact b3_3); (case side2 => exact HC0.out); rintro e w90 ⟨rfl, hb⟩; replace BK111 := Aside0.mk (blk_below (g := gb111) (o := .cells #[.int .i64 ((rd_T58 l0 a1).f0), .int .i64 ((rd_T58 l0 a1).f1), .int .i64 ((rd_T58 l0 a1).f2), .int .i64 ((rd_T58 l0 a1).f3), .int .i64 ((rd_T58 l0 a1).f4), .int .i64 ((rd_T58 l0 a1).f5), .slice A110_6 ((rd_T58 l0 a1).f6).length c110_6] 58 (0, 0)) b3_4 hb); replace HB := Aside0.mk (below_step b3_1 hb); (try clear hb); (try clear hb2); (try clear hk); (try clear hi); obtain ⟨hcz91_0, hcz91_1, hcz91_2, hcz91_3, hcz91_4, hcz91_5, hcz91_6, hfz91_0, hfz91_1, hfz91_2, hfz91_3, hfz91_4, hfz91_5, hfz91_6⟩ := cells7 BK111.out) | (go_at_call 44; (with_reducible refine (spec_l3Width.calls k1 _ _ l0 ((rd_T58 l0 a1).f2) t127 _ ?side1 ?side2 A84.out).mono ?_); (case side1 => exact b3_6); (case side2 => exact HC0.out); rintro e w92 ⟨rfl, hb⟩; replace BK111 := Aside0.mk (blk_below (g := gb111) (o := .cells #[.int .i64 ((rd_T58 l0 a1).f0), .int .i64 ((rd_T58 l0 a1).f1), .int .i64 ((rd_T58 l0 a1).f2), .int .i64 ((rd_T58 l0 a1).f3), .int .i64 ((rd_T58 l0 a1).f4), .int .i64 ((rd_T58 l0 a1).f5), .slice A110_6 ((rd_T58 l0 a1).f6).length c110_6] 58 (0, 0)) b3_4 hb); replace HB := Aside0.mk (below_step b3_1 hb); (try clear hb); (try clear hb2); (try clear hk); (try clear hi); obtain ⟨hcz93_0, hcz93_1, hcz93_2, hcz93_3, hcz93_4, hcz93_5, hcz93_6, hfz93_0, hfz93_1, hfz93_2, hfz93_3, hfz93_4, hfz93_5, hfz93_6⟩ := cells7 BK111.out) | (go_at_call 73; (with_reducible refine (spec_l1Min.calls t120 t127 t128 _ A85.out).mono ?_); rintro e w' ⟨rfl, ⟨nd, rfl⟩⟩; (try exact b3_0)) | (go_at_call 59; (with_reducible refine (spec_l1In.calls ((rd_T58 l0 a1).f3) 1 t128 true _ A86.out).mono ?_); rintro e w' ⟨rfl, ⟨nd, rfl⟩⟩; (try exact b3_0))); try go_wp2_with (first | (go_at_call 72; (with_reducible refine (spec_l3Reads.calls ((rd_T58 l0 a1).f0) t114 _ A12.out).mono ?_); rintro e w' ⟨rfl, ⟨nd, rfl⟩⟩; (try exact b3_0)) | (go_at_call 44; (with_reducible refine (spec_l3Width.calls k1 _ _ l0 ((rd_T58 l0 a1).f1) t120 _ ?side1 ?side2 A36.out).mono ?_); (case side1 => exact b3_3); (case side2 => exact HC0.out); rintro e w90 ⟨rfl, hb⟩; replace BK111 := Aside0.mk (blk_below (g := gb111) (o := .cells #[.int .i64 ((rd_T58 l0 a1).f0), .int .i64 ((rd_T58 l0 a1).f1), .int .i64 ((rd_T58 l0 a1).f2), .int .i64 ((rd_T58 l0 a1).f3), .int .i64 ((rd_T58 l0 a1).f4), .int .i64 ((rd_T58 l0 a1).f5), .slice A110_6 ((rd_T58 l0 a1).f6).length c110_6] 58 (0, 0)) b3_4 hb); replace HB := Aside0.mk (below_step b3_1 hb); (try clear hb); (try clear hb2); (try clear hk); (try clear hi); obtain ⟨hcz91_0, hcz91_1, hcz91_2, hcz91_3, hcz91_4, hcz91_5, hcz91_6, hfz91_0, hfz91_1, hfz91_2, hfz91_3, hfz91_4, hfz91_5, hfz91_6⟩ := cells7 BK111.out) | (go_at_call 44; (with_reducible refine (spec_l3Width.calls k1 _ _ l0 ((rd_T58 l0 a1).f2) t127 _ ?side1 ?side2 A84.out).mono ?_); (case side1 => exact b3_6); (case side2 => exact HC0.out); rintro e w92 ⟨rfl, hb⟩; replace BK111 := Aside0.mk (blk_below (g := gb111) (o := .cells #[.int .i64 ((rd_T58 l0 a1).f0), .int .i64 ((rd_T58 l0 a1).f1), .int .i64 ((rd_T58 l0 a1).f2), .int .i64 ((rd_T58 l0 a1).f3), .int .i64 ((rd_T58 l0 a1).f4), .int .i64 ((rd_T58 l0 a1).f5), .slice A110_6 ((rd_T58 l0 a1).f6).length c110_6] 58 (0, 0)) b3_4 hb); replace HB := Aside0.mk (below_step b3_1 hb); (try clear hb); (try clear hb2); (try clear hk); (try clear hi); obtain ⟨hcz93_0, hcz93_1, hcz93_2, hcz93_3, hcz93_4, hcz93_5, hcz93_6, hfz93_0, hfz93_1, hfz93_2, hfz93_3, hfz93_4, hfz93_5, hfz93_6⟩ := cells7 BK111.out) | (go_at_call 73; (with_reducible refine (spec_l1Min.calls t120 t127 t128 _ A85.out).mono ?_); rintro e w' ⟨rfl, ⟨nd, rfl⟩⟩; (try exact b3_0)) | (go_at_call 59; (with_reducible refine (spec_l1In.calls ((rd_T58 l0 a1).f3) 1 t128 true _ A86.out).mono ?_); rintro e w' ⟨rfl, ⟨nd, rfl⟩⟩; (try exact b3_0))))
       go_ret
       exact ⟨ce_, cB1_ GE111.out⟩
      rw [if_neg c88] at H
      have c88b0 : decide (4 < (wrap64 ((wrap64 (t120 + t127)) - ((rd_T58 l0 a1).f3)))) = false := decide_eq_false c88
      clear c88
      obtain rfl := Option.some.inj H
      obtain ⟨hcz94_0, hcz94_1, hcz94_2, hcz94_3, hcz94_4, hcz94_5, hcz94_6, hfz94_0, hfz94_1, hfz94_2, hfz94_3, hfz94_4, hfz94_5, hfz94_6⟩ := cells7 BK111.out
      go_wp2_with (first | (go_at_call 72; (with_reducible refine (spec_l3Reads.calls ((rd_T58 l0 a1).f0) t114 _ A12.out).mono ?_); rintro e w' ⟨rfl, ⟨nd, rfl⟩⟩; (try exact b3_0)) | (go_at_call 44; (with_reducible refine (spec_l3Width.calls k1 _ _ l0 ((rd_T58 l0 a1).f1) t120 _ ?side1 ?side2 A36.out).mono ?_); (case side1 => exact b3_3); (case side2 => exact HC0.out); rintro e w95 ⟨rfl, hb⟩; replace BK111 := Aside0.mk (blk_below (g := gb111) (o := .cells #[.int .i64 ((rd_T58 l0 a1).f0), .int .i64 ((rd_T58 l0 a1).f1), .int .i64 ((rd_T58 l0 a1).f2), .int .i64 ((rd_T58 l0 a1).f3), .int .i64 ((rd_T58 l0 a1).f4), .int .i64 ((rd_T58 l0 a1).f5), .slice A110_6 ((rd_T58 l0 a1).f6).length c110_6] 58 (0, 0)) b3_4 hb); replace HB := Aside0.mk (below_step b3_1 hb); (try clear hb); (try clear hb2); (try clear hk); (try clear hi); obtain ⟨hcz96_0, hcz96_1, hcz96_2, hcz96_3, hcz96_4, hcz96_5, hcz96_6, hfz96_0, hfz96_1, hfz96_2, hfz96_3, hfz96_4, hfz96_5, hfz96_6⟩ := cells7 BK111.out) | (go_at_call 44; (with_reducible refine (spec_l3Width.calls k1 _ _ l0 ((rd_T58 l0 a1).f2) t127 _ ?side1 ?side2 A84.out).mono ?_); (case side1 => exact b3_6); (case side2 => exact HC0.out); rintro e w97 ⟨rfl, hb⟩; replace BK111 := Aside0.mk (blk_below (g := gb111) (o := .cells #[.int .i64 ((rd_T58 l0 a1).f0), .int .i64 ((rd_T58 l0 a1).f1), .int .i64 ((rd_T58 l0 a1).f2), .int .i64 ((rd_T58 l0 a1).f3), .int .i64 ((rd_T58 l0 a1).f4), .int .i64 ((rd_T58 l0 a1).f5), .slice A110_6 ((rd_T58 l0 a1).f6).length c110_6] 58 (0, 0)) b3_4 hb); replace HB := Aside0.mk (below_step b3_1 hb); (try clear hb); (try clear hb2); (try clear hk); (try clear hi); obtain ⟨hcz98_0, hcz98_1, hcz98_2, hcz98_3, hcz98_4, hcz98_5, hcz98_6, hfz98_0, hfz98_1, hfz98_2, hfz98_3, hfz98_4, hfz98_5, hfz98_6⟩ := cells7 BK111.out) | (go_at_call 73; (with_reducible refine (spec_l1Min.calls t120 t127 t128 _ A85.out).mono ?_); rintro e w' ⟨rfl, ⟨nd, rfl⟩⟩; (try exact b3_0)) | (go_at_call 59; (with_reducible refine (spec_l1In.calls ((rd_T58 l0 a1).f3) 1 t128 true _ A86.out).mono ?_); rintro e w' ⟨rfl, ⟨nd, rfl⟩⟩; (try exact b3_0)))
      repeat (go_quiet (first | (go_at_call 72; (with_reducible refine (spec_l3Reads.calls ((rd_T58 l0 a1).f0) t114 _ A12.out).mono ?_); rintro e w' ⟨rfl, ⟨nd, rfl⟩⟩; (try exact b3_0)) | (go_at_call 44; (with_reducible refine (spec_l3Width.calls k1 _ _ l0 ((rd_T58 l0 a1).f1) t120 _ ?side1 ?side2 A36.out).mono ?_); (case side1 => exact b3_3); (case side2 => exact HC0.out); rintro e w95 ⟨rfl, hb⟩; replace BK111 := Aside0.mk (blk_below (g := gb111) (o := .cells #[.int .i64 ((rd_T58 l0 a1).f0), .int .i64 ((rd_T58 l0 a1).f1), .int .i64 ((rd_T58 l0 a1).f2), .int .i64 ((rd_T58 l0 a1).f3), .int .i64 ((rd_T58 l0 a1).f4), .int .i64 ((rd_T58 l0 a1).f5), .slice A110_6 ((rd_T58 l0 a1).f6).length c110_6] 58 (0, 0)) b3_4 hb); replace HB := Aside0.mk (below_step b3_1 hb); (try clear hb); (try clear hb2); (try clear hk); (try clear hi); obtain ⟨hcz96_0, hcz96_1, hcz96_2, hcz96_3, hcz96_4, hcz96_5, hcz96_6, hfz96_0, hfz96_1, hfz96_2, hfz96_3, hfz96_4, hfz96_5, hfz96_6⟩ := cells7 BK111.out) | (go_at_call 44; (with_reducible refine (spec_l3Width.calls k1 _ _ l0 ((rd_T58 l0 a1).f2) t127 _ ?side1 ?side2 A84.out).mono ?_); (case side1 => exact b3_6); (case side2 => exact HC0.out); rintro e w97 ⟨rfl, hb⟩; replace BK111 := Aside0.mk (blk_below (g := gb111) (o := .cells #[.int .i64 ((rd_T58 l0 a1).f0), .int .i64 ((rd_T58 l0 a1).f1), .int .i64 ((rd_T58 l0 a1).f2), .int .i64 ((rd_T58 l0 a1).f3), .int .i64 ((rd_T58 l0 a1).f4), .int .i64 ((rd_T58 l0 a1).f5), .slice A110_6 ((rd_T58 l0 a1).f6).length c110_6] 58 (0, 0)) b3_4 hb); replace HB := Aside0.mk (below_step b3_1 hb); (try clear hb); (try clear hb2); (try clear hk); (try clear hi); obtain ⟨hcz98_0, hcz98_1, hcz98_2, hcz98_3, hcz98_4, hcz98_5, hcz98_6, hfz98_0, hfz98_1, hfz98_2, hfz98_3, hfz98_4, hfz98_5, hfz98_6⟩ := cells7 BK111.out) | (go_at_call 73; (with_reducible refine (spec_l1Min.calls t120 t127 t128 _ A85.out).mono ?_); rintro e w' ⟨rfl, ⟨nd, rfl⟩⟩; (try exact b3_0)) | (go_at_call 59; (with_reducible refine (spec_l1In.calls ((rd_T58 l0 a1).f3) 1 t128 true _ A86.out).mono ?_); rintro e w' ⟨rfl, ⟨nd, rfl⟩⟩; (try exact b3_0))); try go_wp2_with (first | (go_at_call 72; (with_reducible refine (spec_l3Reads.calls ((rd_T58 l0 a1).f0) t114 _ A12.out).mono ?_); rintro e w' ⟨rfl, ⟨nd, rfl⟩⟩; (try exact b3_0)) | (go_at_call 44; (with_reducible refine (spec_l3Width.calls k1 _ _ l0 ((rd_T58 l0 a1).f1) t120 _ ?side1 ?side2 A36.out).mono ?_); (case side1 => exact b3_3); (case side2 => exact HC0.out); rintro e w95 ⟨rfl, hb⟩; replace BK111 := Aside0.mk (blk_below (g := gb111) (o := .cells #[.int .i64 ((rd_T58 l0 a1).f0), .int .i64 ((rd_T58 l0 a1).f1), .int .i64 ((rd_T58 l0 a1).f2), .int .i64 ((rd_T58 l0 a1).f3), .int .i64 ((rd_T58 l0 a1).f4), .int .i64 ((rd_T58 l0 a1).f5), .slice A110_6 ((rd_T58 l0 a1).f6).length c110_6] 58 (0, 0)) b3_4 hb); replace HB := Aside0.mk (below_step b3_1 hb); (try clear hb); (try clear hb2); (try clear hk); (try clear hi); obtain ⟨hcz96_0, hcz96_1, hcz96_2, hcz96_3, hcz96_4, hcz96_5, hcz96_6, hfz96_0, hfz96_1, hfz96_2, hfz96_3, hfz96_4, hfz96_5, hfz96_6⟩ := cells7 BK111.out) | (go_at_call 44; (with_reducible refine (spec_l3Width.calls k1 _ _ l0 ((rd_T58 l0 a1).f2) t127 _ ?side1 ?side2 A84.out).mono ?_); (case side1 => exact b3_6); (case side2 => exact HC0.out); rintro e w97 ⟨rfl, hb⟩; replace BK111 := Aside0.mk (blk_below (g := gb111) (o := .cells #[.int .i64 ((rd_T58 l0 a1).f0), .int .i64 ((rd_T58 l0 a1).f1), .int .i64 ((rd_T58 l0 a1).f2), .int .i64 ((rd_T58 l0 a1).f3), .int .i64 ((rd_T58 l0 a1).f4), .int .i64 ((rd_T58 l0 a1).f5), .slice A110_6 ((rd_T58 l0 a1).f6).length c110_6] 58 (0, 0)) b3_4 hb); replace HB := Aside0.mk (below_step b3_1 hb); (try clear hb); (try clear hb2); (try clear hk); (try clear hi); obtain ⟨hcz98_0, hcz98_1, hcz98_2, hcz98_3, hcz98_4, hcz98_5, hcz98_6, hfz98_0, hfz98_1, hfz98_2, hfz98_3, hfz98_4, hfz98_5, hfz98_6⟩ := cells7 BK111.out) | (go_at_call 73; (with_reducible refine (spec_l1Min.calls t120 t127 t128 _ A85.out).mono ?_); rintro e w' ⟨rfl, ⟨nd, rfl⟩⟩; (try exact b3_0)) | (go_at_call 59; (with_reducible refine (spec_l1In.calls ((rd_T58 l0 a1).f3) 1 t128 true _ A86.out).mono ?_); rintro e w' ⟨rfl, ⟨nd, rfl⟩⟩; (try exact b3_0))))
      go_ret
      exact ⟨ce_, cB1_ GE111.out⟩
     replace c87 := Bool.eq_false_iff.mpr c87
     subst c87
     rw [if_neg (show ¬ (false = true) by decide)] at H
     obtain rfl := Option.some.inj H
     obtain ⟨hcz99_0, hcz99_1, hcz99_2, hcz99_3, hcz99_4, hcz99_5, hcz99_6, hfz99_0, hfz99_1, hfz99_2, hfz99_3, hfz99_4, hfz99_5, hfz99_6⟩ := cells7 BK111.out
     go_wp2_with (first | (go_at_call 72; (with_reducible refine (spec_l3Reads.calls ((rd_T58 l0 a1).f0) t114 _ A12.out).mono ?_); rintro e w' ⟨rfl, ⟨nd, rfl⟩⟩; (try exact b3_0)) | (go_at_call 44; (with_reducible refine (spec_l3Width.calls k1 _ _ l0 ((rd_T58 l0 a1).f1) t120 _ ?side1 ?side2 A36.out).mono ?_); (case side1 => exact b3_3); (case side2 => exact HC0.out); rintro e w100 ⟨rfl, hb⟩; replace BK111 := Aside0.mk (blk_below (g := gb111) (o := .cells #[.int .i64 ((rd_T58 l0 a1).f0), .int .i64 ((rd_T58 l0 a1).f1), .int .i64 ((rd_T58 l0 a1).f2), .int .i64 ((rd_T58 l0 a1).f3), .int .i64 ((rd_T58 l0 a1).f4), .int .i64 ((rd_T58 l0 a1).f5), .slice A110_6 ((rd_T58 l0 a1).f6).length c110_6] 58 (0, 0)) b3_4 hb); replace HB := Aside0.mk (below_step b3_1 hb); (try clear hb); (try clear hb2); (try clear hk); (try clear hi); obtain ⟨hcz101_0, hcz101_1, hcz101_2, hcz101_3, hcz101_4, hcz101_5, hcz101_6, hfz101_0, hfz101_1, hfz101_2, hfz101_3, hfz101_4, hfz101_5, hfz101_6⟩ := cells7 BK111.out) | (go_at_call 44; (with_reducible refine (spec_l3Width.calls k1 _ _ l0 ((rd_T58 l0 a1).f2) t127 _ ?side1 ?side2 A84.out).mono ?_); (case side1 => exact b3_6); (case side2 => exact HC0.out); rintro e w102 ⟨rfl, hb⟩; replace BK111 := Aside0.mk (blk_below (g := gb111) (o := .cells #[.int .i64 ((rd_T58 l0 a1).f0), .int .i64 ((rd_T58 l0 a1).f1), .int .i64 ((rd_T58 l0 a1).f2), .int .i64 ((rd_T58 l0 a1).f3), .int .i64 ((rd_T58 l0 a1).f4), .int .i64 ((rd_T58 l0 a1).f5), .slice A110_6 ((rd_T58 l0 a1).f6).length c110_6] 58 (0, 0)) b3_4 hb); replace HB := Aside0.mk (below_step b3_1 hb); (try clear hb); (try clear hb2); (try clear hk); (try clear hi); obtain ⟨hcz103_0, hcz103_1, hcz103_2, hcz103_3, hcz103_4, hcz103_5, hcz103_6, hfz103_0, hfz103_1, hfz103_2, hfz103_3, hfz103_4, hfz103_5, hfz103_6⟩ := cells7 BK111.out) | (go_at_call 73; (with_reducible refine (spec_l1Min.calls t120 t127 t128 _ A85.out).mono ?_); rintro e w' ⟨rfl, ⟨nd, rfl⟩⟩; (try exact b3_0)) | (go_at_call 59; (with_reducible refine (spec_l1In.calls ((rd_T58 l0 a1).f3) 1 t128 false _ A86.out).mono ?_); rintro e w' ⟨rfl, ⟨nd, rfl⟩⟩; (try exact b3_0)))
     repeat (go_quiet (first | (go_at_call 72; (with_reducible refine (spec_l3Reads.calls ((rd_T58 l0 a1).f0) t114 _ A12.out).mono ?_); rintro e w' ⟨rfl, ⟨nd, rfl⟩⟩; (try exact b3_0)) | (go_at_call 44; (with_reducible refine (spec_l3Width.calls k1 _ _ l0 ((rd_T58 l0 a1).f1) t120 _ ?side1 ?side2 A36.out).mono ?_); (case side1 => exact b3_3); (case side2 => exact HC0.out); rintro e w100 ⟨rfl, hb⟩; replace BK111 := Aside0.mk (blk_below (g := gb111) (o := .cells #[.int .i64 ((rd_T58 l0 a1).f0), .int .i64 ((rd_T58 l0 a1).f1), .int .i64 ((rd_T58 l0 a1).f2), .int .i64 ((rd_T58 l0 a1).f3), .int .i64 ((rd_T58 l0 a1).f4), .int .i64 ((rd_T58 l0 a1).f5), .slice A110_6 ((rd_T58 l0 a1).f6).length c110_6] 58 (0, 0)) b3_4 hb); replace HB := Aside0.mk (below_step b3_1 hb); (try clear hb); (try clear hb2); (try clear hk); (try clear hi); obtain ⟨hcz101_0, hcz101_1, hcz101_2, hcz101_3, hcz101_4, hcz101_5, hcz101_6, hfz101_0, hfz101_1, hfz101_2, hfz101_3, hfz101_4, hfz101_5, hfz101_6⟩ := cells7 BK111.out) | (go_at_call 44; (with_reducible refine (spec_l3Width.calls k1 _ _ l0 ((rd_T58 l0 a1).f2) t127 _ ?side1 ?side2 A84.out).mono ?_); (case side1 => exact b3_6); (case side2 => exact HC0.out); rintro e w102 ⟨rfl, hb⟩; replace BK111 := Aside0.mk (blk_below (g := gb111) (o := .cells #[.int .i64 ((rd_T58 l0 a1).f0), .int .i64 ((rd_T58 l0 a1).f1), .int .i64 ((rd_T58 l0 a1).f2), .int .i64 ((rd_T58 l0 a1).f3), .int .i64 ((rd_T58 l0 a1).f4), .int .i64 ((rd_T58 l0 a1).f5), .slice A110_6 ((rd_T58 l0 a1).f6).length c110_6] 58 (0, 0)) b3_4 hb); replace HB := Aside0.mk (below_step b3_1 hb); (try clear hb); (try clear hb2); (try clear hk); (try clear hi); obtain ⟨hcz103_0, hcz103_1, hcz103_2, hcz103_3, hcz103_4, hcz103_5, hcz103_6, hfz103_0, hfz103_1, hfz103_2, hfz103_3, hfz103_4, hfz103_5, hfz103_6⟩ := cells7 BK111.out) | (go_at_call 73; (with_reducible refine (spec_l1Min.calls t120 t127 t128 _ A85.out).mono ?_); rintro e w' ⟨rfl, ⟨nd, rfl⟩⟩; (try exact b3_0)) | (go_at_call 59; (with_reducible refine (spec_l1In.calls ((rd_T58 l0 a1).f3) 1 t128 false _ A86.out).mono ?_); rintro e w' ⟨rfl, ⟨nd, rfl⟩⟩; (try exact b3_0))); try go_wp2_with (first | (go_at_call 72; (with_reducible refine (spec_l3Reads.calls ((rd_T58 l0 a1).f0) t114 _ A12.out).mono ?_); rintro e w' ⟨rfl, ⟨nd, rfl⟩⟩; (try exact b3_0)) | (go_at_call 44; (with_reducible refine (spec_l3Width.calls k1 _ _ l0 ((rd_T58 l0 a1).f1) t120 _ ?side1 ?side2 A36.out).mono ?_); (case side1 => exact b3_3); (case side2 => exact HC0.out); rintro e w100 ⟨rfl, hb⟩; replace BK111 := Aside0.mk (blk_below (g := gb111) (o := .cells #[.int .i64 ((rd_T58 l0 a1).f0), .int .i64 ((rd_T58 l0 a1).f1), .int .i64 ((rd_T58 l0 a1).f2), .int .i64 ((rd_T58 l0 a1).f3), .int .i64 ((rd_T58 l0 a1).f4), .int .i64 ((rd_T58 l0 a1).f5), .slice A110_6 ((rd_T58 l0 a1).f6).length c110_6] 58 (0, 0)) b3_4 hb); replace HB := Aside0.mk (below_step b3_1 hb); (try clear hb); (try clear hb2); (try clear hk); (try clear hi); obtain ⟨hcz101_0, hcz101_1, hcz101_2, hcz101_3, hcz101_4, hcz101_5, hcz101_6, hfz101_0, hfz101_1, hfz101_2, hfz101_3, hfz101_4, hfz101_5, hfz101_6⟩ := cells7 BK111.out) | (go_at_call 44; (with_reducible refine (spec_l3Width.calls k1 _ _ l0 ((rd_T58 l0 a1).f2) t127 _ ?side1 ?side2 A84.out).mono ?_); (case side1 => exact b3_6); (case side2 => exact HC0.out); rintro e w102 ⟨rfl, hb⟩; replace BK111 := Aside0.mk (blk_below (g := gb111) (o := .cells #[.int .i64 ((rd_T58 l0 a1).f0), .int .i64 ((rd_T58 l0 a1).f1), .int .i64 ((rd_T58 l0 a1).f2), .int .i64 ((rd_T58 l0 a1).f3), .int .i64 ((rd_T58 l0 a1).f4), .int .i64 ((rd_T58 l0 a1).f5), .slice A110_6 ((rd_T58 l0 a1).f6).length c110_6] 58 (0, 0)) b3_4 hb); replace HB := Aside0.mk (below_step b3_1 hb); (try clear hb); (try clear hb2); (try clear hk); (try clear hi); obtain ⟨hcz103_0, hcz103_1, hcz103_2, hcz103_3, hcz103_4, hcz103_5, hcz103_6, hfz103_0, hfz103_1, hfz103_2, hfz103_3, hfz103_4, hfz103_5, hfz103_6⟩ := cells7 BK111.out) | (go_at_call 73; (with_reducible refine (spec_l1Min.calls t120 t127 t128 _ A85.out).mono ?_); rintro e w' ⟨rfl, ⟨nd, rfl⟩⟩; (try exact b3_0)) | (go_at_call 59; (with_reducible refine (spec_l1In.calls ((rd_T58 l0 a1).f3) 1 t128 false _ A86.out).mono ?_); rintro e w' ⟨rfl, ⟨nd, rfl⟩⟩; (try exact b3_0))))
     go_ret
     exact ⟨ce_, cB1_ GE111.out⟩
    rw [if_neg c83] at H
    have c83b0 : (((rd_T58 l0 a1).f0) == 6) = false := beq_eq_false_iff_ne.mpr c83
    have c83b1 : (((rd_T58 l0 a1).f0) != 6) = true := bne_iff_ne.mpr c83
    by_cases c104 : ((rd_T58 l0 a1).f0) = 7
    ·rw [if_pos c104] at H
     have c104b0 : (((rd_T58 l0 a1).f0) == 7) = true := beq_iff_eq.mpr c104
     have c104b1 : (((rd_T58 l0 a1).f0) != 7) = false := bne_eq_false_iff_eq.mpr c104
     clear c104
     obtain ⟨t130, A105, H⟩ := bnd_ H
     try dsimp only at H
     obtain ⟨t131, A106, H⟩ := bnd_ H
     try dsimp only at H
     by_cases c107 : t131 = true
     ·subst c107
      rw [if_pos rfl] at H
      obtain rfl := Option.some.inj H
      obtain ⟨hcz108_0, hcz108_1, hcz108_2, hcz108_3, hcz108_4, hcz108_5, hcz108_6, hfz108_0, hfz108_1, hfz108_2, hfz108_3, hfz108_4, hfz108_5, hfz108_6⟩ := cells7 BK111.out
      go_wp2_with (first | (go_at_call 72; (with_reducible refine (spec_l3Reads.calls ((rd_T58 l0 a1).f0) t114 _ A12.out).mono ?_); rintro e w' ⟨rfl, ⟨nd, rfl⟩⟩; (try exact b3_0)) | (go_at_call 44; (with_reducible refine (spec_l3Width.calls k1 _ _ l0 ((rd_T58 l0 a1).f1) t120 _ ?side1 ?side2 A36.out).mono ?_); (case side1 => exact b3_3); (case side2 => exact HC0.out); rintro e w109 ⟨rfl, hb⟩; replace BK111 := Aside0.mk (blk_below (g := gb111) (o := .cells #[.int .i64 ((rd_T58 l0 a1).f0), .int .i64 ((rd_T58 l0 a1).f1), .int .i64 ((rd_T58 l0 a1).f2), .int .i64 ((rd_T58 l0 a1).f3), .int .i64 ((rd_T58 l0 a1).f4), .int .i64 ((rd_T58 l0 a1).f5), .slice A110_6 ((rd_T58 l0 a1).f6).length c110_6] 58 (0, 0)) b3_4 hb); replace HB := Aside0.mk (below_step b3_1 hb); (try clear hb); (try clear hb2); (try clear hk); (try clear hi); obtain ⟨hcz110_0, hcz110_1, hcz110_2, hcz110_3, hcz110_4, hcz110_5, hcz110_6, hfz110_0, hfz110_1, hfz110_2, hfz110_3, hfz110_4, hfz110_5, hfz110_6⟩ := cells7 BK111.out) | (go_at_call 73; (with_reducible refine (spec_l1Min.calls t120 3 t130 _ A105.out).mono ?_); rintro e w' ⟨rfl, ⟨nd, rfl⟩⟩; (try exact b3_0)) | (go_at_call 59; (with_reducible refine (spec_l1In.calls ((rd_T58 l0 a1).f3) 0 t130 true _ A106.out).mono ?_); rintro e w' ⟨rfl, ⟨nd, rfl⟩⟩; (try exact b3_0)))
      repeat (go_quiet (first | (go_at_call 72; (with_reducible refine (spec_l3Reads.calls ((rd_T58 l0 a1).f0) t114 _ A12.out).mono ?_); rintro e w' ⟨rfl, ⟨nd, rfl⟩⟩; (try exact b3_0)) | (go_at_call 44; (with_reducible refine (spec_l3Width.calls k1 _ _ l0 ((rd_T58 l0 a1).f1) t120 _ ?side1 ?side2 A36.out).mono ?_); (case side1 => exact b3_3); (case side2 => exact HC0.out); rintro e w109 ⟨rfl, hb⟩; replace BK111 := Aside0.mk (blk_below (g := gb111) (o := .cells #[.int .i64 ((rd_T58 l0 a1).f0), .int .i64 ((rd_T58 l0 a1).f1), .int .i64 ((rd_T58 l0 a1).f2), .int .i64 ((rd_T58 l0 a1).f3), .int .i64 ((rd_T58 l0 a1).f4), .int .i64 ((rd_T58 l0 a1).f5), .slice A110_6 ((rd_T58 l0 a1).f6).length c110_6] 58 (0, 0)) b3_4 hb); replace HB := Aside0.mk (below_step b3_1 hb); (try clear hb); (try clear hb2); (try clear hk); (try clear hi); obtain ⟨hcz110_0, hcz110_1, hcz110_2, hcz110_3, hcz110_4, hcz110_5, hcz110_6, hfz110_0, hfz110_1, hfz110_2, hfz110_3, hfz110_4, hfz110_5, hfz110_6⟩ := cells7 BK111.out) | (go_at_call 73; (with_reducible refine (spec_l1Min.calls t120 3 t130 _ A105.out).mono ?_); rintro e w' ⟨rfl, ⟨nd, rfl⟩⟩; (try exact b3_0)) | (go_at_call 59; (with_reducible refine (spec_l1In.calls ((rd_T58 l0 a1).f3) 0 t130 true _ A106.out).mono ?_); rintro e w' ⟨rfl, ⟨nd, rfl⟩⟩; (try exact b3_0))); try go_wp2_with (first | (go_at_call 72; (with_reducible refine (spec_l3Reads.calls ((rd_T58 l0 a1).f0) t114 _ A12.out).mono ?_); rintro e w' ⟨rfl, ⟨nd, rfl⟩⟩; (try exact b3_0)) | (go_at_call 44; (with_reducible refine (spec_l3Width.calls k1 _ _ l0 ((rd_T58 l0 a1).f1) t120 _ ?side1 ?side2 A36.out).mono ?_); (case side1 => exact b3_3); (case side2 => exact HC0.out); rintro e w109 ⟨rfl, hb⟩; replace BK111 := Aside0.mk (blk_below (g := gb111) (o := .cells #[.int .i64 ((rd_T58 l0 a1).f0), .int .i64 ((rd_T58 l0 a1).f1), .int .i64 ((rd_T58 l0 a1).f2), .int .i64 ((rd_T58 l0 a1).f3), .int .i64 ((rd_T58 l0 a1).f4), .int .i64 ((rd_T58 l0 a1).f5), .slice A110_6 ((rd_T58 l0 a1).f6).length c110_6] 58 (0, 0)) b3_4 hb); replace HB := Aside0.mk (below_step b3_1 hb); (try clear hb); (try clear hb2); (try clear hk); (try clear hi); obtain ⟨hcz110_0, hcz110_1, hcz110_2, hcz110_3, hcz110_4, hcz110_5, hcz110_6, hfz110_0, hfz110_1, hfz110_2, hfz110_3, hfz110_4, hfz110_5, hfz110_6⟩ := cells7 BK111.out) | (go_at_call 73; (with_reducible refine (spec_l1Min.calls t120 3 t130 _ A105.out).mono ?_); rintro e w' ⟨rfl, ⟨nd, rfl⟩⟩; (try exact b3_0)) | (go_at_call 59; (with_reducible refine (spec_l1In.calls ((rd_T58 l0 a1).f3) 0 t130 true _ A106.out).mono ?_); rintro e w' ⟨rfl, ⟨nd, rfl⟩⟩; (try exact b3_0))))
      go_ret
      exact ⟨ce_, cB1_ GE111.out⟩
     replace c107 := Bool.eq_false_iff.mpr c107
     subst c107
     rw [if_neg (show ¬ (false = true) by decide)] at H
     obtain rfl := Option.some.inj H
     obtain ⟨hcz111_0, hcz111_1, hcz111_2, hcz111_3, hcz111_4, hcz111_5, hcz111_6, hfz111_0, hfz111_1, hfz111_2, hfz111_3, hfz111_4, hfz111_5, hfz111_6⟩ := cells7 BK111.out
     go_wp2_with (first | (go_at_call 72; (with_reducible refine (spec_l3Reads.calls ((rd_T58 l0 a1).f0) t114 _ A12.out).mono ?_); rintro e w' ⟨rfl, ⟨nd, rfl⟩⟩; (try exact b3_0)) | (go_at_call 44; (with_reducible refine (spec_l3Width.calls k1 _ _ l0 ((rd_T58 l0 a1).f1) t120 _ ?side1 ?side2 A36.out).mono ?_); (case side1 => exact b3_3); (case side2 => exact HC0.out); rintro e w112 ⟨rfl, hb⟩; replace BK111 := Aside0.mk (blk_below (g := gb111) (o := .cells #[.int .i64 ((rd_T58 l0 a1).f0), .int .i64 ((rd_T58 l0 a1).f1), .int .i64 ((rd_T58 l0 a1).f2), .int .i64 ((rd_T58 l0 a1).f3), .int .i64 ((rd_T58 l0 a1).f4), .int .i64 ((rd_T58 l0 a1).f5), .slice A110_6 ((rd_T58 l0 a1).f6).length c110_6] 58 (0, 0)) b3_4 hb); replace HB := Aside0.mk (below_step b3_1 hb); (try clear hb); (try clear hb2); (try clear hk); (try clear hi); obtain ⟨hcz113_0, hcz113_1, hcz113_2, hcz113_3, hcz113_4, hcz113_5, hcz113_6, hfz113_0, hfz113_1, hfz113_2, hfz113_3, hfz113_4, hfz113_5, hfz113_6⟩ := cells7 BK111.out) | (go_at_call 73; (with_reducible refine (spec_l1Min.calls t120 3 t130 _ A105.out).mono ?_); rintro e w' ⟨rfl, ⟨nd, rfl⟩⟩; (try exact b3_0)) | (go_at_call 59; (with_reducible refine (spec_l1In.calls ((rd_T58 l0 a1).f3) 0 t130 false _ A106.out).mono ?_); rintro e w' ⟨rfl, ⟨nd, rfl⟩⟩; (try exact b3_0)))
     repeat (go_quiet (first | (go_at_call 72; (with_reducible refine (spec_l3Reads.calls ((rd_T58 l0 a1).f0) t114 _ A12.out).mono ?_); rintro e w' ⟨rfl, ⟨nd, rfl⟩⟩; (try exact b3_0)) | (go_at_call 44; (with_reducible refine (spec_l3Width.calls k1 _ _ l0 ((rd_T58 l0 a1).f1) t120 _ ?side1 ?side2 A36.out).mono ?_); (case side1 => exact b3_3); (case side2 => exact HC0.out); rintro e w112 ⟨rfl, hb⟩; replace BK111 := Aside0.mk (blk_below (g := gb111) (o := .cells #[.int .i64 ((rd_T58 l0 a1).f0), .int .i64 ((rd_T58 l0 a1).f1), .int .i64 ((rd_T58 l0 a1).f2), .int .i64 ((rd_T58 l0 a1).f3), .int .i64 ((rd_T58 l0 a1).f4), .int .i64 ((rd_T58 l0 a1).f5), .slice A110_6 ((rd_T58 l0 a1).f6).length c110_6] 58 (0, 0)) b3_4 hb); replace HB := Aside0.mk (below_step b3_1 hb); (try clear hb); (try clear hb2); (try clear hk); (try clear hi); obtain ⟨hcz113_0, hcz113_1, hcz113_2, hcz113_3, hcz113_4, hcz113_5, hcz113_6, hfz113_0, hfz113_1, hfz113_2, hfz113_3, hfz113_4, hfz113_5, hfz113_6⟩ := cells7 BK111.out) | (go_at_call 73; (with_reducible refine (spec_l1Min.calls t120 3 t130 _ A105.out).mono ?_); rintro e w' ⟨rfl, ⟨nd, rfl⟩⟩; (try exact b3_0)) | (go_at_call 59; (with_reducible refine (spec_l1In.calls ((rd_T58 l0 a1).f3) 0 t130 false _ A106.out).mono ?_); rintro e w' ⟨rfl, ⟨nd, rfl⟩⟩; (try exact b3_0))); try go_wp2_with (first | (go_at_call 72; (with_reducible refine (spec_l3Reads.calls ((rd_T58 l0 a1).f0) t114 _ A12.out).mono ?_); rintro e w' ⟨rfl, ⟨nd, rfl⟩⟩; (try exact b3_0)) | (go_at_call 44; (with_reducible refine (spec_l3Width.calls k1 _ _ l0 ((rd_T58 l0 a1).f1) t120 _ ?side1 ?side2 A36.out).mono ?_); (case side1 => exact b3_3); (case side2 => exact HC0.out); rintro e w112 ⟨rfl, hb⟩; replace BK111 := Aside0.mk (blk_below (g := gb111) (o := .cells #[.int .i64 ((rd_T58 l0 a1).f0), .int .i64 ((rd_T58 l0 a1).f1), .int .i64 ((rd_T58 l0 a1).f2), .int .i64 ((rd_T58 l0 a1).f3), .int .i64 ((rd_T58 l0 a1).f4), .int .i64 ((rd_T58 l0 a1).f5), .slice A110_6 ((rd_T58 l0 a1).f6).length c110_6] 58 (0, 0)) b3_4 hb); replace HB := Aside0.mk (below_step b3_1 hb); (try clear hb); (try clear hb2); (try clear hk); (try clear hi); obtain ⟨hcz113_0, hcz113_1, hcz113_2, hcz113_3, hcz113_4, hcz113_5, hcz113_6, hfz113_0, hfz113_1, hfz113_2, hfz113_3, hfz113_4, hfz113_5, hfz113_6⟩ := cells7 BK111.out) | (go_at_call 73; (with_reducible refine (spec_l1Min.calls t120 3 t130 _ A105.out).mono ?_); rintro e w' ⟨rfl, ⟨nd, rfl⟩⟩; (try exact b3_0)) | (go_at_call 59; (with_reducible refine (spec_l1In.calls ((rd_T58 l0 a1).f3) 0 t130 false _ A106.out).mono ?_); rintro e w' ⟨rfl, ⟨nd, rfl⟩⟩; (try exact b3_0))))
     go_ret
     exact ⟨ce_, cB1_ GE111.out⟩
    rw [if_neg c104] at H
    have c104b0 : (((rd_T58 l0 a1).f0) == 7) = false := beq_eq_false_iff_ne.mpr c104
    have c104b1 : (((rd_T58 l0 a1).f0) != 7) = true := bne_iff_ne.mpr c104
    have HC114 := Aside0.mk H
    clear H
    obtain ⟨hcz115_0, hcz115_1, hcz115_2, hcz115_3, hcz115_4, hcz115_5, hcz115_6, hfz115_0, hfz115_1, hfz115_2, hfz115_3, hfz115_4, hfz115_5, hfz115_6⟩ := cells7 BK111.out
    go_upto_if 145 with (first | (go_at_call 72; (with_reducible refine (spec_l3Reads.calls ((rd_T58 l0 a1).f0) t114 _ A12.out).mono ?_); rintro e w' ⟨rfl, ⟨nd, rfl⟩⟩; (try exact b3_0)) | (go_at_call 44; (with_reducible refine (spec_l3Width.calls k1 _ _ l0 ((rd_T58 l0 a1).f1) t120 _ ?side1 ?side2 A36.out).mono ?_); (case side1 => exact b3_3); (case side2 => exact HC0.out); rintro e w116 ⟨rfl, hb⟩; replace BK111 := Aside0.mk (blk_below (g := gb111) (o := .cells #[.int .i64 ((rd_T58 l0 a1).f0), .int .i64 ((rd_T58 l0 a1).f1), .int .i64 ((rd_T58 l0 a1).f2), .int .i64 ((rd_T58 l0 a1).f3), .int .i64 ((rd_T58 l0 a1).f4), .int .i64 ((rd_T58 l0 a1).f5), .slice A110_6 ((rd_T58 l0 a1).f6).length c110_6] 58 (0, 0)) b3_4 hb); replace HB := Aside0.mk (below_step b3_1 hb); (try clear hb); (try clear hb2); (try clear hk); (try clear hi); obtain ⟨hcz117_0, hcz117_1, hcz117_2, hcz117_3, hcz117_4, hcz117_5, hcz117_6, hfz117_0, hfz117_1, hfz117_2, hfz117_3, hfz117_4, hfz117_5, hfz117_6⟩ := cells7 BK111.out))
    repeat (go_quiet (first | (go_at_call 72; (with_reducible refine (spec_l3Reads.calls ((rd_T58 l0 a1).f0) t114 _ A12.out).mono ?_); rintro e w' ⟨rfl, ⟨nd, rfl⟩⟩; (try exact b3_0)) | (go_at_call 44; (with_reducible refine (spec_l3Width.calls k1 _ _ l0 ((rd_T58 l0 a1).f1) t120 _ ?side1 ?side2 A36.out).mono ?_); (case side1 => exact b3_3); (case side2 => exact HC0.out); rintro e w116 ⟨rfl, hb⟩; replace BK111 := Aside0.mk (blk_below (g := gb111) (o := .cells #[.int .i64 ((rd_T58 l0 a1).f0), .int .i64 ((rd_T58 l0 a1).f1), .int .i64 ((rd_T58 l0 a1).f2), .int .i64 ((rd_T58 l0 a1).f3), .int .i64 ((rd_T58 l0 a1).f4), .int .i64 ((rd_T58 l0 a1).f5), .slice A110_6 ((rd_T58 l0 a1).f6).length c110_6] 58 (0, 0)) b3_4 hb); replace HB := Aside0.mk (below_step b3_1 hb); (try clear hb); (try clear hb2); (try clear hk); (try clear hi); obtain ⟨hcz117_0, hcz117_1, hcz117_2, hcz117_3, hcz117_4, hcz117_5, hcz117_6, hfz117_0, hfz117_1, hfz117_2, hfz117_3, hfz117_4, hfz117_5, hfz117_6⟩ := cells7 BK111.out)); go_upto_if 145 with (first | (go_at_call 72; (with_reducible refine (spec_l3Reads.calls ((rd_T58 l0 a1).f0) t114 _ A12.out).mono ?_); rintro e w' ⟨rfl, ⟨nd, rfl⟩⟩; (try exact b3_0)) | (go_at_call 44; (with_reducible refine (spec_l3Width.calls k1 _ _ l0 ((rd_T58 l0 a1).f1) t120 _ ?side1 ?side2 A36.out).mono ?_); (case side1 => exact b3_3); (case side2 => exact HC0.out); rintro e w116 ⟨rfl, hb⟩; replace BK111 := Aside0.mk (blk_below (g := gb111) (o := .cells #[.int .i64 ((rd_T58 l0 a1).f0), .int .i64 ((rd_T58 l0 a1).f1), .int .i64 ((rd_T58 l0 a1).f2), .int .i64 ((rd_T58 l0 a1).f3), .int .i64 ((rd_T58 l0 a1).f4), .int .i64 ((rd_T58 l0 a1).f5), .slice A110_6 ((rd_T58 l0 a1).f6).length c110_6] 58 (0, 0)) b3_4 hb); replace HB := Aside0.mk (below_step b3_1 hb); (try clear hb); (try clear hb2); (try clear hk); (try clear hi); obtain ⟨hcz117_0, hcz117_1, hcz117_2, hcz117_3, hcz117_4, hcz117_5, hcz117_6, hfz117_0, hfz117_1, hfz117_2, hfz117_3, hfz117_4, hfz117_5, hfz117_6⟩ := cells7 BK111.out)))
    (try simp only [Act.put, List.setIfInBounds_toArray, List.set_cons_zero, List.set_cons_succ])
    go_cut [145] (fun v145 wc => ∃ (kq : Nat) (x145_113 : Bool), v145 = .bool x145_113 ∧ Aside0 (spec_l3Node.j3 kq t120 x145_113 ((rd_T58 l0 a1).f0) ((rd_T58 l0 a1).f1) ((rd_T58 l0 a1).f2) ((rd_T58 l0 a1).f3) ((rd_T58 l0 a1).f4) ((rd_T58 l0 a1).f5) ((rd_T58 l0 a1).f6) = some r) ∧ Aside0 (kq ≤ k1) ∧ Aside0 (wc.heap[gb111]? = some (.cells #[.int .i64 ((rd_T58 l0 a1).f0), .int .i64 ((rd_T58 l0 a1).f1), .int .i64 ((rd_T58 l0 a1).f2), .int .i64 ((rd_T58 l0 a1).f3), .int .i64 ((rd_T58 l0 a1).f4), .int .i64 ((rd_T58 l0 a1).f5), (.slice A110_6 ((rd_T58 l0 a1).f6).length c110_6)] 58 (0, 0))) ∧ Aside0 (Below w.heap.size w wc))
    case first =>
     have H := HC114.out
     clear HC114
     by_cases c118 : ((rd_T58 l0 a1).f0) = 8
     ·rw [if_pos c118] at H
      have c118b0 : (((rd_T58 l0 a1).f0) == 8) = true := beq_iff_eq.mpr c118
      have c118b1 : (((rd_T58 l0 a1).f0) != 8) = false := bne_eq_false_iff_eq.mpr c118
      clear c118
      (first | rw [c118b0] | (simp only [i64_w, i32_w]; rw [c118b0]) | skip)
      have H' := Aside0.mk H
      clear H
      go_wp2
      repeat (go_quiet (fail); try go_wp2)
      go_meet
      case rel => exact ⟨_, ((((rd_T58 l0 a1).f0) == 8)), cs_, H', ⟨q3_0⟩, ⟨cO_ BK111.out⟩, ⟨cB1_ GE111.out⟩⟩
     rw [if_neg c118] at H
     have c118b0 : (((rd_T58 l0 a1).f0) == 8) = false := beq_eq_false_iff_ne.mpr c118
     have c118b1 : (((rd_T58 l0 a1).f0) != 8) = true := bne_iff_ne.mpr c118
     (first | rw [c118b0] | (simp only [i64_w, i32_w]; rw [c118b0]) | skip)
     by_cases c119 : ((rd_T58 l0 a1).f0) = 9
     ·rw [if_pos c119] at H
      have c119b0 : (((rd_T58 l0 a1).f0) == 9) = true := beq_iff_eq.mpr c119
      have c119b1 : (((rd_T58 l0 a1).f0) != 9) = false := bne_eq_false_iff_eq.mpr c119
      clear c119
      have H' := Aside0.mk H
      clear H
      go_wp2
      repeat (go_quiet (fail); try go_wp2)
      go_meet
      case rel => exact ⟨_, ((((rd_T58 l0 a1).f0) == 9)), cs_, H', ⟨q3_0⟩, ⟨cO_ BK111.out⟩, ⟨cB1_ GE111.out⟩⟩
     rw [if_neg c119] at H
     have c119b0 : (((rd_T58 l0 a1).f0) == 9) = false := beq_eq_false_iff_ne.mpr c119
     have c119b1 : (((rd_T58 l0 a1).f0) != 9) = true := bne_iff_ne.mpr c119
     have H' := Aside0.mk H
     clear H
     go_wp2
     repeat (go_quiet (fail); try go_wp2)
     go_meet
     case rel => exact ⟨_, ((((rd_T58 l0 a1).f0) == 10)), cs_, H', ⟨q3_0⟩, ⟨cO_ BK111.out⟩, ⟨cB1_ GE111.out⟩⟩
    case rest =>
     clear HC114
     try clear c1
     try clear p1
     try clear q1
     try clear hx1
     try clear p2
     try clear c5
     try clear c6
     try clear p6
     try clear c7
     try clear c8
     try clear c10
     try clear c11
     try clear p11
     try clear q11
     try clear hx11
     try clear p12
     try clear q12
     try clear hx12
     try clear c56
     try clear c56b0
     try clear c56b1
     try clear p64
     try clear c65
     try clear c65b0
     try clear c66
     try clear c66b0
     try clear c68
     try clear c72
     try clear c72b0
     try clear c72b1
     try clear c74
     try clear c74b0
     try clear c74b1
     try clear c83
     try clear c83b0
     try clear c83b1
     try clear c87
     try clear c88
     try clear c88b0
     try clear c104
     try clear c104b0
     try clear c104b1
     try clear c107
     try clear c110
     try clear p110
     try clear q110
     try clear hx110
     try clear p116
     try clear q116
     try clear hx116
     try clear c118
     try clear c118b0
     try clear c118b1
     try clear p118
     try clear q118
     try clear hx118
     try clear c119
     try clear c119b0
     try clear c119b1
     try clear hcz101_0
     try clear hcz101_1
     try clear hcz101_2
     try clear hcz101_3
     try clear hcz101_4
     try clear hcz101_5
     try clear hcz101_6
     try clear hcz103_0
     try clear hcz103_1
     try clear hcz103_2
     try clear hcz103_3
     try clear hcz103_4
     try clear hcz103_5
     try clear hcz103_6
     try clear hcz108_0
     try clear hcz108_1
     try clear hcz108_2
     try clear hcz108_3
     try clear hcz108_4
     try clear hcz108_5
     try clear hcz108_6
     try clear hcz110_0
     try clear hcz110_1
     try clear hcz110_2
     try clear hcz110_3
     try clear hcz110_4
     try clear hcz110_5
     try clear hcz110_6
     try clear hcz111_0
     try clear hcz111_1
     try clear hcz111_2
     try clear hcz111_3
     try clear hcz111_4
     try clear hcz111_5
     try clear hcz111_6
     try clear hcz113_0
     try clear hcz113_1
     try clear hcz113_2
     try clear hcz113_3
     try clear hcz113_4
     try clear hcz113_5
     try clear hcz113_6
     try clear hcz115_0
     try clear hcz115_1
     try clear hcz115_2
     try clear hcz115_3
     try clear hcz115_4
     try clear hcz115_5
     try clear hcz115_6
     try clear hcz117_0
     try clear hcz117_1
     try clear hcz117_2
     try clear hcz117_3
     try clear hcz117_4
     try clear hcz117_5
     try clear hcz117_6
     try clear hcz60_1
     try clear hcz60_2
     try clear hcz60_3
     try clear hcz60_4
     try clear hcz60_5
     try clear hcz60_6
     try clear hcz62_0
     try clear hcz62_1
     try clear hcz62_2
     try clear hcz62_3
     try clear hcz62_4
     try clear hcz62_5
     try clear hcz62_6
     try clear hcz63_0
     try clear hcz63_1
     try clear hcz63_2
     try clear hcz63_3
     try clear hcz63_4
     try clear hcz63_5
     try clear hcz63_6
     try clear hcz69_0
     try clear hcz69_1
     try clear hcz69_2
     try clear hcz69_3
     try clear hcz69_4
     try clear hcz69_5
     try clear hcz69_6
     try clear hcz70_0
     try clear hcz70_1
     try clear hcz70_2
     try clear hcz70_3
     try clear hcz70_4
     try clear hcz70_5
     try clear hcz70_6
     try clear hcz71_0
     try clear hcz71_1
     try clear hcz71_2
     try clear hcz71_3
     try clear hcz71_4
     try clear hcz71_5
     try clear hcz71_6
     try clear hcz75_0
     try clear hcz75_1
     try clear hcz75_2
     try clear hcz75_3
     try clear hcz75_4
     try clear hcz75_5
     try clear hcz75_6
     try clear hcz77_0
     try clear hcz77_1
     try clear hcz77_2
     try clear hcz77_3
     try clear hcz77_4
     try clear hcz77_5
     try clear hcz77_6
     try clear hcz79_0
     try clear hcz79_1
     try clear hcz79_2
     try clear hcz79_3
     try clear hcz79_4
     try clear hcz79_5
     try clear hcz79_6
     try clear hcz81_0
     try clear hcz81_1
     try clear hcz81_2
     try clear hcz81_3
     try clear hcz81_4
     try clear hcz81_5
     try clear hcz81_6
     try clear hcz89_0
     try clear hcz89_1
     try clear hcz89_2
     try clear hcz89_3
     try clear hcz89_4
     try clear hcz89_5
     try clear hcz89_6
     try clear hcz91_0
     try clear hcz91_1
     try clear hcz91_2
     try clear hcz91_3
     try clear hcz91_4
     try clear hcz91_5
     try clear hcz91_6
     try clear hcz93_0
     try clear hcz93_1
     try clear hcz93_2
     try clear hcz93_3
     try clear hcz93_4
     try clear hcz93_5
     try clear hcz93_6
     try clear hcz94_0
     try clear hcz94_1
     try clear hcz94_2
     try clear hcz94_3
     try clear hcz94_4
     try clear hcz94_5
     try clear hcz94_6
     try clear hcz96_0
     try clear hcz96_1
     try clear hcz96_2
     try clear hcz96_3
     try clear hcz96_4
     try clear hcz96_5
     try clear hcz96_6
     try clear hcz98_0
     try clear hcz98_1
     try clear hcz98_2
     try clear hcz98_3
     try clear hcz98_4
     try clear hcz98_5
     try clear hcz98_6
     try clear hcz99_0
     try clear hcz99_1
     try clear hcz99_2
     try clear hcz99_3
     try clear hcz99_4
     try clear hcz99_5
     try clear hcz99_6
     try clear hfz101_0
     try clear hfz101_1
     try clear hfz101_2
     try clear hfz101_3
     try clear hfz101_4
     try clear hfz101_5
     try clear hfz101_6
     try clear hfz103_0
     try clear hfz103_1
     try clear hfz103_2
     try clear hfz103_3
     try clear hfz103_4
     try clear hfz103_5
     try clear hfz103_6
     try clear hfz108_0
     try clear hfz108_1
     try clear hfz108_2
     try clear hfz108_3
     try clear hfz108_4
     try clear hfz108_5
     try clear hfz108_6
     try clear hfz10_0
     try clear hfz10_1
     try clear hfz10_2
     try clear hfz10_3
     try clear hfz10_4
     try clear hfz10_5
     try clear hfz10_6
     try clear hfz110_0
     try clear hfz110_1
     try clear hfz110_2
     try clear hfz110_3
     try clear hfz110_4
     try clear hfz110_5
     try clear hfz110_6
     try clear hfz111_0
     try clear hfz111_1
     try clear hfz111_2
     try clear hfz111_3
     try clear hfz111_4
     try clear hfz111_5
     try clear hfz111_6
     try clear hfz113_0
     try clear hfz113_1
     try clear hfz113_2
     try clear hfz113_3
     try clear hfz113_4
     try clear hfz113_5
     try clear hfz113_6
     try clear hfz115_0
     try clear hfz115_1
     try clear hfz115_2
     try clear hfz115_3
     try clear hfz115_4
     try clear hfz115_5
     try clear hfz115_6
     try clear hfz117_0
     try clear hfz117_1
     try clear hfz117_2
     try clear hfz117_3
     try clear hfz117_4
     try clear hfz117_5
     try clear hfz117_6
     try clear hfz20_0
     try clear hfz20_1
     try clear hfz20_2
     try clear hfz20_3
     try clear hfz20_4
     try clear hfz20_5
     try clear hfz20_6
     try clear hfz21_0
     try clear hfz21_1
     try clear hfz21_2
     try clear hfz21_3
     try clear hfz21_4
     try clear hfz21_5
     try clear hfz21_6
     try clear hfz22_0
     try clear hfz22_1
     try clear hfz22_2
     try clear hfz22_3
     try clear hfz22_4
     try clear hfz22_5
     try clear hfz22_6
     try clear hfz28_0
     try clear hfz28_1
     try clear hfz28_2
     try clear hfz28_3
     try clear hfz28_4
     try clear hfz28_5
     try clear hfz28_6
     try clear hfz29_0
     try clear hfz29_1
     try clear hfz29_2
     try clear hfz29_3
     try clear hfz29_4
     try clear hfz29_5
     try clear hfz29_6
     try clear hfz30_0
     try clear hfz30_1
     try clear hfz30_2
     try clear hfz30_3
     try clear hfz30_4
     try clear hfz30_5
     try clear hfz30_6
     try clear hfz34_0
     try clear hfz34_1
     try clear hfz34_2
     try clear hfz34_3
     try clear hfz34_4
     try clear hfz34_5
     try clear hfz34_6
     try clear hfz35_0
     try clear hfz35_1
     try clear hfz35_2
     try clear hfz35_3
     try clear hfz35_4
     try clear hfz35_5
     try clear hfz35_6
     try clear hfz44_0
     try clear hfz44_1
     try clear hfz44_2
     try clear hfz44_3
     try clear hfz44_4
     try clear hfz44_5
     try clear hfz44_6
     try clear hfz46_0
     try clear hfz46_1
     try clear hfz46_2
     try clear hfz46_3
     try clear hfz46_4
     try clear hfz46_5
     try clear hfz46_6
     try clear hfz47_0
     try clear hfz47_1
     try clear hfz47_2
     try clear hfz47_3
     try clear hfz47_4
     try clear hfz47_5
     try clear hfz47_6
     try clear hfz49_0
     try clear hfz49_1
     try clear hfz49_2
     try clear hfz49_3
     try clear hfz49_4
     try clear hfz49_5
     try clear hfz49_6
     try clear hfz50_0
     try clear hfz50_1
     try clear hfz50_2
     try clear hfz50_3
     try clear hfz50_4
     try clear hfz50_5
     try clear hfz50_6
     try clear hfz52_0
     try clear hfz52_1
     try clear hfz52_2
     try clear hfz52_3
     try clear hfz52_4
     try clear hfz52_5
     try clear hfz52_6
     try clear hfz53_0
     try clear hfz53_1
     try clear hfz53_2
     try clear hfz53_3
     try clear hfz53_4
     try clear hfz53_5
     try clear hfz53_6
     try clear hfz55_0
     try clear hfz55_1
     try clear hfz55_2
     try clear hfz55_3
     try clear hfz55_4
     try clear hfz55_5
     try clear hfz55_6
     try clear hfz58_0
     try clear hfz58_1
     try clear hfz58_2
     try clear hfz58_3
     try clear hfz58_4
     try clear hfz58_5
     try clear hfz58_6
     try clear hfz60_0
     try clear hfz60_1
     try clear hfz60_2
     try clear hfz60_3
     try clear hfz60_4
     try clear hfz60_5
     try clear hfz60_6
     try clear hfz62_0
     try clear hfz62_1
     try clear hfz62_2
     try clear hfz62_3
     try clear hfz62_4
     try clear hfz62_5
     try clear hfz62_6
     try clear hfz63_0
     try clear hfz63_1
     try clear hfz63_2
     try clear hfz63_3
     try clear hfz63_4
     try clear hfz63_5
     try clear hfz63_6
     try clear hfz69_0
     try clear hfz69_1
     try clear hfz69_2
     try clear hfz69_3
     try clear hfz69_4
     try clear hfz69_5
     try clear hfz69_6
     try clear hfz70_0
     try clear hfz70_1
     try clear hfz70_2
     try clear hfz70_3
     try clear hfz70_4
     try clear hfz70_5
     try clear hfz70_6
     try clear hfz71_0
     try clear hfz71_1
     try clear hfz71_2
     try clear hfz71_3
     try clear hfz71_4
     try clear hfz71_5
     try clear hfz71_6
     try clear hfz75_0
     try clear hfz75_1
     try clear hfz75_2
     try clear hfz75_3
     try clear hfz75_4
     try clear hfz75_5
     try clear hfz75_6
     try clear hfz77_0
     try clear hfz77_1
     try clear hfz77_2
     try clear hfz77_3
     try clear hfz77_4
     try clear hfz77_5
     try clear hfz77_6
     try clear hfz79_0
     try clear hfz79_1
     try clear hfz79_2
     try clear hfz79_3
     try clear hfz79_4
     try clear hfz79_5
     try clear hfz79_6
     try clear hfz81_0
     try clear hfz81_1
     try clear hfz81_2
     try clear hfz81_3
     try clear hfz81_4
     try clear hfz81_5
     try clear hfz81_6
     try clear hfz89_0
     try clear hfz89_1
     try clear hfz89_2
     try clear hfz89_3
     try clear hfz89_4
     try clear hfz89_5
     try clear hfz89_6
     try clear hfz91_0
     try clear hfz91_1
     try clear hfz91_2
     try clear hfz91_3
     try clear hfz91_4
     try clear hfz91_5
     try clear hfz91_6
     try clear hfz93_0
     try clear hfz93_1
     try clear hfz93_2
     try clear hfz93_3
     try clear hfz93_4
     try clear hfz93_5
     try clear hfz93_6
     try clear hfz94_0
     try clear hfz94_1
     try clear hfz94_2
     try clear hfz94_3
     try clear hfz94_4
     try clear hfz94_5
     try clear hfz94_6
     try clear hfz96_0
     try clear hfz96_1
     try clear hfz96_2
     try clear hfz96_3
     try clear hfz96_4
     try clear hfz96_5
     try clear hfz96_6
     try clear hfz98_0
     try clear hfz98_1
     try clear hfz98_2
     try clear hfz98_3
     try clear hfz98_4
     try clear hfz98_5
     try clear hfz98_6
     try clear hfz99_0
     try clear hfz99_1
     try clear hfz99_2
     try clear hfz99_3
     try clear hfz99_4
     try clear hfz99_5
     try clear hfz99_6
     try clear hx110_0
     try clear hx110_1
     try clear hx110_2
     try clear hx110_3
     try clear hx110_4
     try clear hx110_5
     try clear hx110_6
     try clear hx116_0
     try clear hx116_1
     try clear hx116_2
     try clear hx116_3
     try clear hx116_4
     try clear hx116_5
     try clear hx116_6
     try clear hx118_0
     try clear hx118_1
     try clear hx118_2
     try clear hx118_3
     try clear hx118_4
     try clear hx118_5
     try clear hx118_6
     try clear hx124_0
     try clear p1
     try clear p11
     try clear p110
     try clear p116
     try clear p118
     try clear p124
     try clear p2
     try clear p6
     try clear q1
     try clear q11
     try clear q110
     try clear q116
     try clear q118
     try clear q124
     obtain ⟨kq, x145_113, rfl, HA, HJ113, BK111, HB⟩ := hcut
     cases kq with
     | zero => exact absurd HA.out (by simp [spec_l3Node.j3])
     | succ kj113 =>
      have H := HA.out
      clear HA
      simp only [spec_l3Node.j3] at H
      by_cases c120 : x145_113 = true
      rotate_left
      ·replace c120 := Bool.eq_false_iff.mpr c120
       subst c120
       rw [if_neg (show ¬ (false = true) by decide)] at H
       obtain rfl := Option.some.inj H
       go_wp2
       repeat (go_quiet (fail); try go_wp2)
       go_ret
       exact ⟨ce_, cB1_ GE111.out⟩
      subst c120
      rw [if_pos rfl] at H
      obtain ⟨t132, A121, H⟩ := bnd_ H
      try dsimp only at H
      by_cases c122 : t132 = true
      ·subst c122
       rw [if_pos rfl] at H
       obtain rfl := Option.some.inj H
       obtain ⟨hcz123_0, hcz123_1, hcz123_2, hcz123_3, hcz123_4, hcz123_5, hcz123_6, hfz123_0, hfz123_1, hfz123_2, hfz123_3, hfz123_4, hfz123_5, hfz123_6⟩ := cells7 BK111.out
       go_wp2_with (first | (go_at_call 59; (with_reducible refine (spec_l1In.calls ((rd_T58 l0 a1).f3) 0 (wrap64 (t120 - 1)) true _ A121.out).mono ?_); rintro e w' ⟨rfl, ⟨nd, rfl⟩⟩; (try exact b3_0)))
       repeat (go_quiet (first | (go_at_call 59; (with_reducible refine (spec_l1In.calls ((rd_T58 l0 a1).f3) 0 (wrap64 (t120 - 1)) true _ A121.out).mono ?_); rintro e w' ⟨rfl, ⟨nd, rfl⟩⟩; (try exact b3_0))); try go_wp2_with (first | (go_at_call 59; (with_reducible refine (spec_l1In.calls ((rd_T58 l0 a1).f3) 0 (wrap64 (t120 - 1)) true _ A121.out).mono ?_); rintro e w' ⟨rfl, ⟨nd, rfl⟩⟩; (try exact b3_0))))
       go_ret
       exact ⟨ce_, cB1_ GE111.out⟩
      replace c122 := Bool.eq_false_iff.mpr c122
      subst c122
      rw [if_neg (show ¬ (false = true) by decide)] at H
      obtain rfl := Option.some.inj H
      obtain ⟨hcz124_0, hcz124_1, hcz124_2, hcz124_3, hcz124_4, hcz124_5, hcz124_6, hfz124_0, hfz124_1, hfz124_2, hfz124_3, hfz124_4, hfz124_5, hfz124_6⟩ := cells7 BK111.out
      go_wp2_with (first | (go_at_call 59; (with_reducible refine (spec_l1In.calls ((rd_T58 l0 a1).f3) 0 (wrap64 (t120 - 1)) false _ A121.out).mono ?_); rintro e w' ⟨rfl, ⟨nd, rfl⟩⟩; (try exact b3_0)))
      repeat (go_quiet (first | (go_at_call 59; (with_reducible refine (spec_l1In.calls ((rd_T58 l0 a1).f3) 0 (wrap64 (t120 - 1)) false _ A121.out).mono ?_); rintro e w' ⟨rfl, ⟨nd, rfl⟩⟩; (try exact b3_0))); try go_wp2_with (first | (go_at_call 59; (with_reducible refine (spec_l1In.calls ((rd_T58 l0 a1).f3) 0 (wrap64 (t120 - 1)) false _ A121.out).mono ?_); rintro e w' ⟨rfl, ⟨nd, rfl⟩⟩; (try exact b3_0))))
      go_ret
      exact ⟨ce_, cB1_ GE111.out⟩
   rw [if_pos c56] at H
   have c56b0 : (((rd_T58 l0 a1).f0) == 3) = true := beq_iff_eq.mpr c56
   have c56b1 : (((rd_T58 l0 a1).f0) != 3) = false := bne_eq_false_iff_eq.mpr c56
   clear c56
   have HC57 := Aside0.mk H
   clear H
   obtain ⟨hcz58_0, hcz58_1, hcz58_2, hcz58_3, hcz58_4, hcz58_5, hcz58_6, hfz58_0, hfz58_1, hfz58_2, hfz58_3, hfz58_4, hfz58_5, hfz58_6⟩ := cells7 BK111.out
   go_upto_region 24 with (first | (go_at_call 72; (with_reducible refine (spec_l3Reads.calls ((rd_T58 l0 a1).f0) t114 _ A12.out).mono ?_); rintro e w' ⟨rfl, ⟨nd, rfl⟩⟩; (try exact b3_0)) | (go_at_call 44; (with_reducible refine (spec_l3Width.calls k1 _ _ l0 ((rd_T58 l0 a1).f1) t120 _ ?side1 ?side2 A36.out).mono ?_); (case side1 => exact b3_3); (case side2 => exact HC0.out); rintro e w59 ⟨rfl, hb⟩; replace BK111 := Aside0.mk (blk_below (g := gb111) (o := .cells #[.int .i64 ((rd_T58 l0 a1).f0), .int .i64 ((rd_T58 l0 a1).f1), .int .i64 ((rd_T58 l0 a1).f2), .int .i64 ((rd_T58 l0 a1).f3), .int .i64 ((rd_T58 l0 a1).f4), .int .i64 ((rd_T58 l0 a1).f5), .slice A110_6 ((rd_T58 l0 a1).f6).length c110_6] 58 (0, 0)) b3_4 hb); replace HB := Aside0.mk (below_step b3_1 hb); (try clear hb); (try clear hb2); (try clear hk); (try clear hi); obtain ⟨hcz60_0, hcz60_1, hcz60_2, hcz60_3, hcz60_4, hcz60_5, hcz60_6, hfz60_0, hfz60_1, hfz60_2, hfz60_3, hfz60_4, hfz60_5, hfz60_6⟩ := cells7 BK111.out))
   repeat (go_quiet (first | (go_at_call 72; (with_reducible refine (spec_l3Reads.calls ((rd_T58 l0 a1).f0) t114 _ A12.out).mono ?_); rintro e w' ⟨rfl, ⟨nd, rfl⟩⟩; (try exact b3_0)) | (go_at_call 44; (with_reducible refine (spec_l3Width.calls k1 _ _ l0 ((rd_T58 l0 a1).f1) t120 _ ?side1 ?side2 A36.out).mono ?_); (case side1 => exact b3_3); (case side2 => exact HC0.out); rintro e w59 ⟨rfl, hb⟩; replace BK111 := Aside0.mk (blk_below (g := gb111) (o := .cells #[.int .i64 ((rd_T58 l0 a1).f0), .int .i64 ((rd_T58 l0 a1).f1), .int .i64 ((rd_T58 l0 a1).f2), .int .i64 ((rd_T58 l0 a1).f3), .int .i64 ((rd_T58 l0 a1).f4), .int .i64 ((rd_T58 l0 a1).f5), .slice A110_6 ((rd_T58 l0 a1).f6).length c110_6] 58 (0, 0)) b3_4 hb); replace HB := Aside0.mk (below_step b3_1 hb); (try clear hb); (try clear hb2); (try clear hk); (try clear hi); obtain ⟨hcz60_0, hcz60_1, hcz60_2, hcz60_3, hcz60_4, hcz60_5, hcz60_6, hfz60_0, hfz60_1, hfz60_2, hfz60_3, hfz60_4, hfz60_5, hfz60_6⟩ := cells7 BK111.out)); go_upto_region 24 with (first | (go_at_call 72; (with_reducible refine (spec_l3Reads.calls ((rd_T58 l0 a1).f0) t114 _ A12.out).mono ?_); rintro e w' ⟨rfl, ⟨nd, rfl⟩⟩; (try exact b3_0)) | (go_at_call 44; (with_reducible refine (spec_l3Width.calls k1 _ _ l0 ((rd_T58 l0 a1).f1) t120 _ ?side1 ?side2 A36.out).mono ?_); (case side1 => exact b3_3); (case side2 => exact HC0.out); rintro e w59 ⟨rfl, hb⟩; replace BK111 := Aside0.mk (blk_below (g := gb111) (o := .cells #[.int .i64 ((rd_T58 l0 a1).f0), .int .i64 ((rd_T58 l0 a1).f1), .int .i64 ((rd_T58 l0 a1).f2), .int .i64 ((rd_T58 l0 a1).f3), .int .i64 ((rd_T58 l0 a1).f4), .int .i64 ((rd_T58 l0 a1).f5), .slice A110_6 ((rd_T58 l0 a1).f6).length c110_6] 58 (0, 0)) b3_4 hb); replace HB := Aside0.mk (below_step b3_1 hb); (try clear hb); (try clear hb2); (try clear hk); (try clear hi); obtain ⟨hcz60_0, hcz60_1, hcz60_2, hcz60_3, hcz60_4, hcz60_5, hcz60_6, hfz60_0, hfz60_1, hfz60_2, hfz60_3, hfz60_4, hfz60_5, hfz60_6⟩ := cells7 BK111.out)))
   (try simp only [Act.put, List.setIfInBounds_toArray, List.set_cons_zero, List.set_cons_succ])
   go_cut [92] (fun v92 wc => ∃ (kq : Nat) (x92_56 : Bool), v92 = .bool x92_56 ∧ Aside0 (spec_l3Node.j1 kq t120 x92_56 ((rd_T58 l0 a1).f0) ((rd_T58 l0 a1).f1) ((rd_T58 l0 a1).f2) ((rd_T58 l0 a1).f3) ((rd_T58 l0 a1).f4) ((rd_T58 l0 a1).f5) ((rd_T58 l0 a1).f6) = some r) ∧ Aside0 (kq ≤ k1) ∧ Aside0 (wc.heap[gb111]? = some (.cells #[.int .i64 ((rd_T58 l0 a1).f0), .int .i64 ((rd_T58 l0 a1).f1), .int .i64 ((rd_T58 l0 a1).f2), .int .i64 ((rd_T58 l0 a1).f3), .int .i64 ((rd_T58 l0 a1).f4), .int .i64 ((rd_T58 l0 a1).f5), (.slice A110_6 ((rd_T58 l0 a1).f6).length c110_6)] 58 (0, 0))) ∧ Aside0 (Below w.heap.size w wc))
   case first =>
    have H := HC57.out
    clear HC57
    by_cases c61 : (((rd_T58 l0 a1).f6).length : Int) < 1
    ·rw [if_pos c61] at H
     have c61b0 : decide ((((rd_T58 l0 a1).f6).length : Int) < 1) = true := decide_eq_true c61
     have c61b1 : decide (((rd_T58 l0 a1).f6).length < 1) = true := decide_eq_true (by omega)
     clear c61
     (first | rw [c61b0] | (simp only [i64_w, i32_w]; rw [c61b0]) | skip)
     have H' := Aside0.mk H
     clear H
     obtain ⟨hcz62_0, hcz62_1, hcz62_2, hcz62_3, hcz62_4, hcz62_5, hcz62_6, hfz62_0, hfz62_1, hfz62_2, hfz62_3, hfz62_4, hfz62_5, hfz62_6⟩ := cells7 BK111.out
     go_wp2
     repeat (go_quiet (fail); try go_wp2)
     go_meet
     case rel => exact ⟨_, (true), cs_, H', ⟨q3_0⟩, ⟨cO_ BK111.out⟩, ⟨cB1_ GE111.out⟩⟩
    rw [if_neg c61] at H
    have c61b0 : decide ((((rd_T58 l0 a1).f6).length : Int) < 1) = false := decide_eq_false c61
    have c61b1 : decide (((rd_T58 l0 a1).f6).length < 1) = false := decide_eq_false (by omega)
    clear c61
    (first | rw [c61b0] | (simp only [i64_w, i32_w]; rw [c61b0]) | skip)
    have H' := Aside0.mk H
    clear H
    obtain ⟨hcz63_0, hcz63_1, hcz63_2, hcz63_3, hcz63_4, hcz63_5, hcz63_6, hfz63_0, hfz63_1, hfz63_2, hfz63_3, hfz63_4, hfz63_5, hfz63_6⟩ := cells7 BK111.out
    go_wp2
    repeat (go_quiet (fail); try go_wp2)
    go_meet
    case rel => exact ⟨_, (decide ((((rd_T58 l0 a1).f6).length : Int) > 4)), cs_, H', ⟨q3_0⟩, ⟨cO_ BK111.out⟩, ⟨cB1_ GE111.out⟩⟩
   case rest =>
    clear HC57
    try clear c1
    try clear p1
    try clear q1
    try clear hx1
    try clear c2
    try clear p2
    try clear c3
    try clear c3b0
    try clear c4
    try clear c4b0
    try clear c5
    try clear c6
    try clear p6
    try clear c8
    try clear c11
    try clear p11
    try clear q11
    try clear hx11
    try clear c13
    try clear c13b0
    try clear c14
    try clear c14b0
    try clear c14b1
    try clear c16
    try clear c17
    try clear c17b0
    try clear c18
    try clear c18b0
    try clear c19
    try clear c19b0
    try clear c19b1
    try clear c24
    try clear c25
    try clear c25b0
    try clear c26
    try clear c26b0
    try clear c27
    try clear c27b0
    try clear c27b1
    try clear c31
    try clear c31b0
    try clear c31b1
    try clear c33
    try clear c37
    try clear c37b0
    try clear c37b1
    try clear c39
    try clear c41
    try clear c43
    try clear c56
    try clear c56b0
    try clear c56b1
    try clear c61
    try clear c61b0
    try clear c61b1
    try clear hcz10_0
    try clear hcz10_1
    try clear hcz10_2
    try clear hcz10_3
    try clear hcz10_4
    try clear hcz10_5
    try clear hcz10_6
    try clear hcz20_0
    try clear hcz20_1
    try clear hcz20_2
    try clear hcz20_3
    try clear hcz20_4
    try clear hcz20_5
    try clear hcz20_6
    try clear hcz21_0
    try clear hcz21_1
    try clear hcz21_2
    try clear hcz21_3
    try clear hcz21_4
    try clear hcz21_5
    try clear hcz21_6
    try clear hcz22_0
    try clear hcz22_1
    try clear hcz22_2
    try clear hcz22_3
    try clear hcz22_4
    try clear hcz22_5
    try clear hcz22_6
    try clear hcz28_0
    try clear hcz28_1
    try clear hcz28_2
    try clear hcz28_3
    try clear hcz28_4
    try clear hcz28_5
    try clear hcz28_6
    try clear hcz29_0
    try clear hcz29_1
    try clear hcz29_2
    try clear hcz29_3
    try clear hcz29_4
    try clear hcz29_5
    try clear hcz29_6
    try clear hcz30_0
    try clear hcz30_1
    try clear hcz30_2
    try clear hcz30_3
    try clear hcz30_4
    try clear hcz30_5
    try clear hcz30_6
    try clear hcz34_0
    try clear hcz34_1
    try clear hcz34_2
    try clear hcz34_3
    try clear hcz34_4
    try clear hcz34_5
    try clear hcz34_6
    try clear hcz35_0
    try clear hcz35_1
    try clear hcz35_2
    try clear hcz35_3
    try clear hcz35_4
    try clear hcz35_5
    try clear hcz35_6
    try clear hcz44_0
    try clear hcz44_1
    try clear hcz44_2
    try clear hcz44_3
    try clear hcz44_4
    try clear hcz44_5
    try clear hcz44_6
    try clear hcz46_0
    try clear hcz46_1
    try clear hcz46_2
    try clear hcz46_3
    try clear hcz46_4
    try clear hcz46_5
    try clear hcz46_6
    try clear hcz47_0
    try clear hcz47_1
    try clear hcz47_2
    try clear hcz47_3
    try clear hcz47_4
    try clear hcz47_5
    try clear hcz47_6
    try clear hcz49_0
    try clear hcz49_1
    try clear hcz49_2
    try clear hcz49_3
    try clear hcz49_4
    try clear hcz49_5
    try clear hcz49_6
    try clear hcz50_0
    try clear hcz50_1
    try clear hcz50_2
    try clear hcz50_3
    try clear hcz50_4
    try clear hcz50_5
    try clear hcz50_6
    try clear hcz52_0
    try clear hcz52_1
    try clear hcz52_2
    try clear hcz52_3
    try clear hcz52_4
    try clear hcz52_5
    try clear hcz52_6
    try clear hcz53_0
    try clear hcz53_1
    try clear hcz53_2
    try clear hcz53_3
    try clear hcz53_4
    try clear hcz53_5
    try clear hcz53_6
    try clear hcz55_0
    try clear hcz55_1
    try clear hcz55_2
    try clear hcz55_3
    try clear hcz55_4
    try clear hcz55_5
    try clear hcz55_6
    try clear hcz58_0
    try clear hcz58_1
    try clear hcz58_2
    try clear hcz58_3
    try clear hcz58_4
    try clear hcz58_5
    try clear hcz58_6
    try clear hcz60_0
    try clear hcz60_1
    try clear hcz60_2
    try clear hcz60_3
    try clear hcz60_4
    try clear hcz60_5
    try clear hcz60_6
    try clear hcz62_0
    try clear hcz62_1
    try clear hcz62_2
    try clear hcz62_3
    try clear hcz62_4
    try clear hcz62_5
    try clear hcz62_6
    try clear hcz63_0
    try clear hcz63_1
    try clear hcz63_2
    try clear hcz63_3
    try clear hcz63_4
    try clear hcz63_5
    try clear hcz63_6
    try clear hfz10_0
    try clear hfz10_1
    try clear hfz10_2
    try clear hfz10_3
    try clear hfz10_4
    try clear hfz10_5
    try clear hfz10_6
    try clear hfz20_0
    try clear hfz20_1
    try clear hfz20_2
    try clear hfz20_3
    try clear hfz20_4
    try clear hfz20_5
    try clear hfz20_6
    try clear hfz21_0
    try clear hfz21_1
    try clear hfz21_2
    try clear hfz21_3
    try clear hfz21_4
    try clear hfz21_5
    try clear hfz21_6
    try clear hfz22_0
    try clear hfz22_1
    try clear hfz22_2
    try clear hfz22_3
    try clear hfz22_4
    try clear hfz22_5
    try clear hfz22_6
    try clear hfz28_0
    try clear hfz28_1
    try clear hfz28_2
    try clear hfz28_3
    try clear hfz28_4
    try clear hfz28_5
    try clear hfz28_6
    try clear hfz29_0
    try clear hfz29_1
    try clear hfz29_2
    try clear hfz29_3
    try clear hfz29_4
    try clear hfz29_5
    try clear hfz29_6
    try clear hfz30_0
    try clear hfz30_1
    try clear hfz30_2
    try clear hfz30_3
    try clear hfz30_4
    try clear hfz30_5
    try clear hfz30_6
    try clear hfz34_0
    try clear hfz34_1
    try clear hfz34_2
    try clear hfz34_3
    try clear hfz34_4
    try clear hfz34_5
    try clear hfz34_6
    try clear hfz35_0
    try clear hfz35_1
    try clear hfz35_2
    try clear hfz35_3
    try clear hfz35_4
    try clear hfz35_5
    try clear hfz35_6
    try clear hfz44_0
    try clear hfz44_1
    try clear hfz44_2
    try clear hfz44_3
    try clear hfz44_4
    try clear hfz44_5
    try clear hfz44_6
    try clear hfz46_0
    try clear hfz46_1
    try clear hfz46_2
    try clear hfz46_3
    try clear hfz46_4
    try clear hfz46_5
    try clear hfz46_6
    try clear hfz47_0
    try clear hfz47_1
    try clear hfz47_2
    try clear hfz47_3
    try clear hfz47_4
    try clear hfz47_5
    try clear hfz47_6
    try clear hfz49_0
    try clear hfz49_1
    try clear hfz49_2
    try clear hfz49_3
    try clear hfz49_4
    try clear hfz49_5
    try clear hfz49_6
    try clear hfz50_0
    try clear hfz50_1
    try clear hfz50_2
    try clear hfz50_3
    try clear hfz50_4
    try clear hfz50_5
    try clear hfz50_6
    try clear hfz52_0
    try clear hfz52_1
    try clear hfz52_2
    try clear hfz52_3
    try clear hfz52_4
    try clear hfz52_5
    try clear hfz52_6
    try clear hfz53_0
    try clear hfz53_1
    try clear hfz53_2
    try clear hfz53_3
    try clear hfz53_4
    try clear hfz53_5
    try clear hfz53_6
    try clear hfz55_0
    try clear hfz55_1
    try clear hfz55_2
    try clear hfz55_3
    try clear hfz55_4
    try clear hfz55_5
    try clear hfz55_6
    try clear hfz58_0
    try clear hfz58_1
    try clear hfz58_2
    try clear hfz58_3
    try clear hfz58_4
    try clear hfz58_5
    try clear hfz58_6
    try clear hfz60_0
    try clear hfz60_1
    try clear hfz60_2
    try clear hfz60_3
    try clear hfz60_4
    try clear hfz60_5
    try clear hfz60_6
    try clear hfz62_0
    try clear hfz62_1
    try clear hfz62_2
    try clear hfz62_3
    try clear hfz62_4
    try clear hfz62_5
    try clear hfz62_6
    try clear hfz63_0
    try clear hfz63_1
    try clear hfz63_2
    try clear hfz63_3
    try clear hfz63_4
    try clear hfz63_5
    try clear hfz63_6
    try clear hx110_0
    try clear hx110_1
    try clear hx110_2
    try clear hx110_3
    try clear hx110_4
    try clear hx110_5
    try clear hx110_6
    try clear hx116_0
    try clear hx116_1
    try clear hx116_2
    try clear hx116_3
    try clear hx116_4
    try clear hx116_5
    try clear hx116_6
    try clear hx118_0
    try clear hx118_1
    try clear hx118_2
    try clear hx118_3
    try clear hx118_4
    try clear hx118_5
    try clear hx118_6
    try clear p1
    try clear p11
    try clear p110
    try clear p116
    try clear p118
    try clear p2
    try clear q1
    try clear q11
    try clear q110
    try clear q116
    try clear q118
    obtain ⟨kq, x92_56, rfl, HA, HJ56, BK111, HB⟩ := hcut
    cases kq with
    | zero => exact absurd HA.out (by simp [spec_l3Node.j1])
    | succ kj56 =>
     have H := HA.out
     clear HA
     simp only [spec_l3Node.j1] at H
     by_cases c64 : x92_56 = true
     ·subst c64
      rw [if_pos rfl] at H
      obtain rfl := Option.some.inj H
      go_wp2
      repeat (go_quiet (fail); try go_wp2)
      go_ret
      exact ⟨ce_, cB1_ GE111.out⟩
     replace c64 := Bool.eq_false_iff.mpr c64
     subst c64
     rw [if_neg (show ¬ (false = true) by decide)] at H
     have H' := Aside0.mk H
     clear H
     go_wp2
     repeat (go_quiet (fail); try go_wp2)
     go_loopg [9] kj56 (fun kq v9 w' => ∃ (x9_3 : Int), v9 = .int .i64 x9_3 ∧ Aside0 (spec_l3Node.l1 kq t120 x9_3 ((rd_T58 l0 a1).f0) ((rd_T58 l0 a1).f1) ((rd_T58 l0 a1).f2) ((rd_T58 l0 a1).f3) ((rd_T58 l0 a1).f4) ((rd_T58 l0 a1).f5) ((rd_T58 l0 a1).f6) = some r) ∧ Aside0 (kq ≤ kj56) ∧ Aside0 (w'.heap[gb111]? = some (.cells #[.int .i64 ((rd_T58 l0 a1).f0), .int .i64 ((rd_T58 l0 a1).f1), .int .i64 ((rd_T58 l0 a1).f2), .int .i64 ((rd_T58 l0 a1).f3), .int .i64 ((rd_T58 l0 a1).f4), .int .i64 ((rd_T58 l0 a1).f5), (.slice A110_6 ((rd_T58 l0 a1).f6).length c110_6)] 58 (0, 0))) ∧ Aside0 (Below w.heap.size w w'))
     case atStart => exact ⟨(0), cs_, H', ⟨Nat.le_refl _⟩, ⟨cO_ BK111.out⟩, ⟨cB1_ GE111.out⟩⟩
     case round =>
      clear H'
      try clear c1
      try clear p1
      try clear q1
      try clear hx1
      try clear c2
      try clear p2
      try clear c3
      try clear c3b0
      try clear c4
      try clear c4b0
      try clear c5
      try clear c6
      try clear p6
      try clear c8
      try clear c11
      try clear p11
      try clear q11
      try clear hx11
      try clear c13
      try clear c13b0
      try clear c14
      try clear c14b0
      try clear c14b1
      try clear c16
      try clear c17
      try clear c17b0
      try clear c18
      try clear c18b0
      try clear c19
      try clear c19b0
      try clear c19b1
      try clear c24
      try clear c25
      try clear c25b0
      try clear c26
      try clear c26b0
      try clear c27
      try clear c27b0
      try clear c27b1
      try clear c31
      try clear c31b0
      try clear c31b1
      try clear c33
      try clear c37
      try clear c37b0
      try clear c37b1
      try clear c39
      try clear c41
      try clear c43
      try clear c56
      try clear c56b0
      try clear c56b1
      try clear c61
      try clear c61b0
      try clear c61b1
      try clear c64
      try clear p64
      try clear hcz10_0
      try clear hcz10_1
      try clear hcz10_2
      try clear hcz10_3
      try clear hcz10_4
      try clear hcz10_5
      try clear hcz10_6
      try clear hcz20_0
      try clear hcz20_1
      try clear hcz20_2
      try clear hcz20_3
      try clear hcz20_4
      try clear hcz20_5
      try clear hcz20_6
      try clear hcz21_0
      try clear hcz21_1
      try clear hcz21_2
      try clear hcz21_3
      try clear hcz21_4
      try clear hcz21_5
      try clear hcz21_6
      try clear hcz22_0
      try clear hcz22_1
      try clear hcz22_2
      try clear hcz22_3
      try clear hcz22_4
      try clear hcz22_5
      try clear hcz22_6
      try clear hcz28_0
      try clear hcz28_1
      try clear hcz28_2
      try clear hcz28_3
      try clear hcz28_4
      try clear hcz28_5
      try clear hcz28_6
      try clear hcz29_0
      try clear hcz29_1
      try clear hcz29_2
      try clear hcz29_3
      try clear hcz29_4
      try clear hcz29_5
      try clear hcz29_6
      try clear hcz30_0
      try clear hcz30_1
      try clear hcz30_2
      try clear hcz30_3
      try clear hcz30_4
      try clear hcz30_5
      try clear hcz30_6
      try clear hcz34_0
      try clear hcz34_1
      try clear hcz34_2
      try clear hcz34_3
      try clear hcz34_4
      try clear hcz34_5
      try clear hcz34_6
      try clear hcz35_0
      try clear hcz35_1
      try clear hcz35_2
      try clear hcz35_3
      try clear hcz35_4
      try clear hcz35_5
      try clear hcz35_6
      try clear hcz44_0
      try clear hcz44_1
      try clear hcz44_2
      try clear hcz44_3
      try clear hcz44_4
      try clear hcz44_5
      try clear hcz44_6
      try clear hcz46_0
      try clear hcz46_1
      try clear hcz46_2
      try clear hcz46_3
      try clear hcz46_4
      try clear hcz46_5
      try clear hcz46_6
      try clear hcz47_0
      try clear hcz47_1
      try clear hcz47_2
      try clear hcz47_3
      try clear hcz47_4
      try clear hcz47_5
      try clear hcz47_6
      try clear hcz49_0
      try clear hcz49_1
      try clear hcz49_2
      try clear hcz49_3
      try clear hcz49_4
      try clear hcz49_5
      try clear hcz49_6
      try clear hcz50_0
      try clear hcz50_1
      try clear hcz50_2
      try clear hcz50_3
      try clear hcz50_4
      try clear hcz50_5
      try clear hcz50_6
      try clear hcz52_0
      try clear hcz52_1
      try clear hcz52_2
      try clear hcz52_3
      try clear hcz52_4
      try clear hcz52_5
      try clear hcz52_6
      try clear hcz53_0
      try clear hcz53_1
      try clear hcz53_2
      try clear hcz53_3
      try clear hcz53_4
      try clear hcz53_5
      try clear hcz53_6
      try clear hcz55_0
      try clear hcz55_1
      try clear hcz55_2
      try clear hcz55_3
      try clear hcz55_4
      try clear hcz55_5
      try clear hcz55_6
      try clear hcz58_0
      try clear hcz58_1
      try clear hcz58_2
      try clear hcz58_3
      try clear hcz58_4
      try clear hcz58_5
      try clear hcz58_6
      try clear hcz60_0
      try clear hcz60_1
      try clear hcz60_2
      try clear hcz60_3
      try clear hcz60_4
      try clear hcz60_5
      try clear hcz60_6
      try clear hcz62_0
      try clear hcz62_1
      try clear hcz62_2
      try clear hcz62_3
      try clear hcz62_4
      try clear hcz62_5
      try clear hcz62_6
      try clear hcz63_0
      try clear hcz63_1
      try clear hcz63_2
      try clear hcz63_3
      try clear hcz63_4
      try clear hcz63_5
      try clear hcz63_6
      try clear hfz10_0
      try clear hfz10_1
      try clear hfz10_2
      try clear hfz10_3
      try clear hfz10_4
      try clear hfz10_5
      try clear hfz10_6
      try clear hfz20_0
      try clear hfz20_1
      try clear hfz20_2
      try clear hfz20_3
      try clear hfz20_4
      try clear hfz20_5
      try clear hfz20_6
      try clear hfz21_0
      try clear hfz21_1
      try clear hfz21_2
      try clear hfz21_3
      try clear hfz21_4
      try clear hfz21_5
      try clear hfz21_6
      try clear hfz22_0
      try clear hfz22_1
      try clear hfz22_2
      try clear hfz22_3
      try clear hfz22_4
      try clear hfz22_5
      try clear hfz22_6
      try clear hfz28_0
      try clear hfz28_1
      try clear hfz28_2
      try clear hfz28_3
      try clear hfz28_4
      try clear hfz28_5
      try clear hfz28_6
      try clear hfz29_0
      try clear hfz29_1
      try clear hfz29_2
      try clear hfz29_3
      try clear hfz29_4
      try clear hfz29_5
      try clear hfz29_6
      try clear hfz30_0
      try clear hfz30_1
      try clear hfz30_2
      try clear hfz30_3
      try clear hfz30_4
      try clear hfz30_5
      try clear hfz30_6
      try clear hfz34_0
      try clear hfz34_1
      try clear hfz34_2
      try clear hfz34_3
      try clear hfz34_4
      try clear hfz34_5
      try clear hfz34_6
      try clear hfz35_0
      try clear hfz35_1
      try clear hfz35_2
      try clear hfz35_3
      try clear hfz35_4
      try clear hfz35_5
      try clear hfz35_6
      try clear hfz44_0
      try clear hfz44_1
      try clear hfz44_2
      try clear hfz44_3
      try clear hfz44_4
      try clear hfz44_5
      try clear hfz44_6
      try clear hfz46_0
      try clear hfz46_1
      try clear hfz46_2
      try clear hfz46_3
      try clear hfz46_4
      try clear hfz46_5
      try clear hfz46_6
      try clear hfz47_0
      try clear hfz47_1
      try clear hfz47_2
      try clear hfz47_3
      try clear hfz47_4
      try clear hfz47_5
      try clear hfz47_6
      try clear hfz49_0
      try clear hfz49_1
      try clear hfz49_2
      try clear hfz49_3
      try clear hfz49_4
      try clear hfz49_5
      try clear hfz49_6
      try clear hfz50_0
      try clear hfz50_1
      try clear hfz50_2
      try clear hfz50_3
      try clear hfz50_4
      try clear hfz50_5
      try clear hfz50_6
      try clear hfz52_0
      try clear hfz52_1
      try clear hfz52_2
      try clear hfz52_3
      try clear hfz52_4
      try clear hfz52_5
      try clear hfz52_6
      try clear hfz53_0
      try clear hfz53_1
      try clear hfz53_2
      try clear hfz53_3
      try clear hfz53_4
      try clear hfz53_5
      try clear hfz53_6
      try clear hfz55_0
      try clear hfz55_1
      try clear hfz55_2
      try clear hfz55_3
      try clear hfz55_4
      try clear hfz55_5
      try clear hfz55_6
      try clear hfz58_0
      try clear hfz58_1
      try clear hfz58_2
      try clear hfz58_3
      try clear hfz58_4
      try clear hfz58_5
      try clear hfz58_6
      try clear hfz60_0
      try clear hfz60_1
      try clear hfz60_2
      try clear hfz60_3
      try clear hfz60_4
      try clear hfz60_5
      try clear hfz60_6
      try clear hfz62_0
      try clear hfz62_1
      try clear hfz62_2
      try clear hfz62_3
      try clear hfz62_4
      try clear hfz62_5
      try clear hfz62_6
      try clear hfz63_0
      try clear hfz63_1
      try clear hfz63_2
      try clear hfz63_3
      try clear hfz63_4
      try clear hfz63_5
      try clear hfz63_6
      try clear hx110_0
      try clear hx110_1
      try clear hx110_2
      try clear hx110_3
      try clear hx110_4
      try clear hx110_5
      try clear hx110_6
      try clear hx116_0
      try clear hx116_1
      try clear hx116_2
      try clear hx116_3
      try clear hx116_4
      try clear hx116_5
      try clear hx116_6
      try clear hx118_0
      try clear hx118_1
      try clear hx118_2
      try clear hx118_3
      try clear hx118_4
      try clear hx118_5
      try clear hx118_6
      try clear p1
      try clear p11
      try clear p110
      try clear p116
      try clear p118
      try clear p2
      try clear p6
      try clear q1
      try clear q11
      try clear q110
      try clear q116
      try clear q118
      obtain ⟨x9_3, rfl, HA, HK3, BK111, HB⟩ := hrel
      cases gk with
      | zero => exact absurd HA.out (by simp [spec_l3Node.l1])
      | succ k3 =>
       have H := HA.out
       clear HA
       simp only [spec_l3Node.l1] at H
       by_cases c65 : x9_3 < (((rd_T58 l0 a1).f6).length : Int)
       rotate_left
       ·rw [if_neg c65] at H
        have c65b0 : decide (x9_3 < (((rd_T58 l0 a1).f6).length : Int)) = false := decide_eq_false c65
        clear c65
        obtain rfl := Option.some.inj H
        obtain ⟨hcz71_0, hcz71_1, hcz71_2, hcz71_3, hcz71_4, hcz71_5, hcz71_6, hfz71_0, hfz71_1, hfz71_2, hfz71_3, hfz71_4, hfz71_5, hfz71_6⟩ := cells7 BK111.out
        go_wp2
        repeat (go_quiet (fail); try go_wp2)
        go_ret
        exact ⟨ce_, cB1_ GE111.out⟩
       rw [if_pos c65] at H
       have c65b0 : decide (x9_3 < (((rd_T58 l0 a1).f6).length : Int)) = true := decide_eq_true c65
       clear c65
       by_cases c66 : 0 ≤ x9_3
       rotate_left
       ·rw [if_neg c66] at H
        exact absurd H (by simp)
       rw [if_pos c66] at H
       have c66b0 : decide (0 ≤ x9_3) = true := decide_eq_true c66
       clear c66
       obtain ⟨t125, A67, H⟩ := bnd_ H
       try dsimp only at H
       by_cases c68 : t125 = true
       ·subst c68
        rw [if_pos rfl] at H
        have H' := Aside0.mk H
        clear H
        obtain ⟨hcz69_0, hcz69_1, hcz69_2, hcz69_3, hcz69_4, hcz69_5, hcz69_6, hfz69_0, hfz69_1, hfz69_2, hfz69_3, hfz69_4, hfz69_5, hfz69_6⟩ := cells7 BK111.out
        have p124 : 0 ≤ (x9_3 : Int) := of_decide_eq_true ca_
        have q124 : x9_3 < (((rd_T58 l0 a1).f6).length : Int) := of_decide_eq_true ca_
        obtain ⟨ad124, e124, hx124_0⟩ := Kd.at_int HR110_6.out x9_3 p124 q124
        cases e124
        replace hx124_0 := (HB.out.cell (World.block_lt_of_cell? w _ hx124_0)).trans hx124_0
        replace p124 := eq_true p124
        replace q124 := eq_true q124
        go_wp2_with (first | (go_at_call 59; (with_reducible refine (spec_l1In.calls (rd ((rd_T58 l0 a1).f6) x9_3) 0 (wrap64 (t120 - 1)) true _ A67.out).mono ?_); rintro e w' ⟨rfl, ⟨nd, rfl⟩⟩; (try exact b3_0)))
        repeat (go_quiet (first | (go_at_call 59; (with_reducible refine (spec_l1In.calls (rd ((rd_T58 l0 a1).f6) x9_3) 0 (wrap64 (t120 - 1)) true _ A67.out).mono ?_); rintro e w' ⟨rfl, ⟨nd, rfl⟩⟩; (try exact b3_0))); try go_wp2_with (first | (go_at_call 59; (with_reducible refine (spec_l1In.calls (rd ((rd_T58 l0 a1).f6) x9_3) 0 (wrap64 (t120 - 1)) true _ A67.out).mono ?_); rintro e w' ⟨rfl, ⟨nd, rfl⟩⟩; (try exact b3_0))))
        go_roundg k3
        case measure => have := HK1.out; have := HJ56.out; have := HK3.out; omega
        case rel => exact ⟨(wrap64 (x9_3 + 1)), cs_, H', ⟨by have := HK1.out; have := HJ56.out; have := HK3.out; omega⟩, ⟨cO_ BK111.out⟩, ⟨cB1_ GE111.out⟩⟩
       replace c68 := Bool.eq_false_iff.mpr c68
       subst c68
       rw [if_neg (show ¬ (false = true) by decide)] at H
       obtain rfl := Option.some.inj H
       obtain ⟨hcz70_0, hcz70_1, hcz70_2, hcz70_3, hcz70_4, hcz70_5, hcz70_6, hfz70_0, hfz70_1, hfz70_2, hfz70_3, hfz70_4, hfz70_5, hfz70_6⟩ := cells7 BK111.out
       have p124 : 0 ≤ (x9_3 : Int) := of_decide_eq_true ca_
       have q124 : x9_3 < (((rd_T58 l0 a1).f6).length : Int) := of_decide_eq_true ca_
       obtain ⟨ad124, e124, hx124_0⟩ := Kd.at_int HR110_6.out x9_3 p124 q124
       cases e124
       replace hx124_0 := (HB.out.cell (World.block_lt_of_cell? w _ hx124_0)).trans hx124_0
       replace p124 := eq_true p124
       replace q124 := eq_true q124
       go_wp2_with (first | (go_at_call 59; (with_reducible refine (spec_l1In.calls (rd ((rd_T58 l0 a1).f6) x9_3) 0 (wrap64 (t120 - 1)) false _ A67.out).mono ?_); rintro e w' ⟨rfl, ⟨nd, rfl⟩⟩; (try exact b3_0)))
       repeat (go_quiet (first | (go_at_call 59; (with_reducible refine (spec_l1In.calls (rd ((rd_T58 l0 a1).f6) x9_3) 0 (wrap64 (t120 - 1)) false _ A67.out).mono ?_); rintro e w' ⟨rfl, ⟨nd, rfl⟩⟩; (try exact b3_0))); try go_wp2_with (first | (go_at_call 59; (with_reducible refine (spec_l1In.calls (rd ((rd_T58 l0 a1).f6) x9_3) 0 (wrap64 (t120 - 1)) false _ A67.out).mono ?_); rintro e w' ⟨rfl, ⟨nd, rfl⟩⟩; (try exact b3_0))))
       go_ret
       exact ⟨ce_, cB1_ GE111.out⟩

end Go.Proofs.Yteibdjkfkcckkaa.PFnFeeds
