-- Written by fprint, a program of this session, out of Lean's own print of the translation. Lean checks it.
import Derived.Test.YteibdjkfkcckkaaDense
import Derived.Test.YteibdjkfkcckkaaPFnFeedsx0
import Derived.Test.YteibdjkfkcckkaaPFnFeedsx1
import Derived.Test.YteibdjkfkcckkaaPFnFeedsx4
import Derived.Test.YteibdjkfkcckkaaPFnFeedsx8
import Derived.Test.YteibdjkfkcckkaaPFnFeedsx9
import Derived.Test.YteibdjkfkcckkaaPFnFeedsx12
import Derived.Test.YteibdjkfkcckkaaPFnFeedsx13
namespace Go.Proofs.Yteibdjkfkcckkaa.PFnFeeds
open Go.RowKit Go.Proofs.YteibdjkfkcckkaaW.PrintWords Go.Proofs.YteibdjkfkcckkaaW.PrintLast Go.Proofs.YteibdjkfkcckkaaW.PrintMore
attribute [local go_sem] max2_int min2_int max_two min_two max_three min_three max_four min_four   -- for this text's walks alone
set_option linter.unusedVariables false
set_option linter.unusedSimpArgs false

theorem b14_2 {p : Prop} (h : p := by exact cC_ ((Kd.N_reads' HO_3.out).2.2)) : p := h
theorem b14_3 {p : Prop} (h : p := by exact cN_ HO_3.out) : p := h
theorem b14_4 {p : Prop} (h : p := by exact cB1_ GE468.out) : p := h
theorem b14_5 {p : Prop} (h : p := by exact cO_ BK468.out) : p := h
theorem b14_6 {p : Prop} (h : p := by exact cB1_ GE440.out) : p := h
theorem b14_7 {p : Prop} (h : p := by exact cR_ HO_469001.out) : p := h
theorem b14_9 {p : Prop} (h : p := by exact cC_ ((Kd.N_reads' HO449.out).2.2)) : p := h
theorem b14_12 {p : Prop} (h : p := by exact cC_ (Kd.C_below HR0.out HB.out)) : p := h
theorem q14_0 {p : Prop} (h : p := by have := HK1.out; have := HK2.out; have := HK3.out; have := HK4.out; omega) : p := h
theorem q14_1 {p : Prop} (h : p := by first | exact Kd.R_nil _ _ _ _ _ | exact Kd.N_nil _ _ _ _ _ | exact Kd.V_nil _ _ _ _ _ | exact Kd.Q_nil _ _ _ _ _ | exact Kd.S_nil _ _ _ _ _) : p := h
/-! ### spec_NodesOf: function 27 -/
def spec_NodesOf.f (k : Nat) (l0 : List (S58)) (a1 : Int) : Option (Int × List Int) := (spec_PlanFault.f k l0).bind fun t441 => (if t441 = 0 then ((spec_l1In.f a1 1 12).bind fun t442 => (if t442 = true then ((spec_l3Of.f k l0 a1).bind fun t443 => (some (0, t443))) else (some (5, ([] : List Int))))) else (some (t441, ([] : List Int))))
theorem spec_NodesOf.mono : ∀ a0 a1 k, LeO (spec_NodesOf.f k a0 a1) (spec_NodesOf.f (k + 1) a0 a1) := by
 intro a0 a1 k
 unfold spec_NodesOf.f
 repeat' first
   | (with_reducible exact spec_PlanFault.mono _ _)
   | (with_reducible exact spec_l3Of.mono _ _ _)
   | (with_reducible exact LeO.refl _)
   | (with_reducible exact LeO.none _)
   | (with_reducible refine LeO.ite ?_ ?_)
   | (with_reducible refine LeO.bind ?_ (fun _ => ?_))
   | exact spec_PlanFault.mono _ _
   | exact spec_l3Of.mono _ _ _
   | exact LeO.none _
   | refine LeO.ite ?_ ?_
   | refine LeO.bind ?_ (fun _ => ?_)
set_option maxHeartbeats 8000000 in
set_option maxRecDepth 100000 in
theorem spec_NodesOf.calls (k : Nat) (A0 : Option Addr) (c0 : Nat) (l0 : List (S58)) (a1 : Int) (r1 : Int) (r2 : List Int) (w : World) (hr0 : Kd.C k58 w A0 l0.length l0) (hc0 : l0.length ≤ c0) (h : spec_NodesOf.f k l0 a1 = some (r1, r2)) :
  Calls Try.prog 27 #[.slice A0 l0.length c0, .int .i64 a1] w fun e w' => ∃ v1_ : Value, e = .returned (.agg #[.int .i64 r1, v1_]) ∧ Kd.R (Kd.int .i64) 2 w' w.heap.size (fun _ => True) v1_ r2 ∧ Below w.heap.size w w' := by
 have hu42 := Try.underlying42
 have HR0 := Aside0.mk hr0
 have HC0 := Aside0.mk hc0
 clear hr0 hc0
 have HB := Aside0.mk (Below.refl w.heap.size w)
 have H : ((spec_PlanFault.f k l0).bind fun t441 => (if t441 = 0 then ((spec_l1In.f a1 1 12).bind fun t442 => (if t442 = true then ((spec_l3Of.f k l0 a1).bind fun t443 => (some (0, t443))) else (some (5, ([] : List Int))))) else (some (t441, ([] : List Int))))) = some (r1, r2) := h
 clear h
 obtain ⟨t441, A3, H⟩ := bnd_ H
 try dsimp only at H
 by_cases c4 : t441 = 0
 rotate_left
 ·rw [if_neg c4] at H
  have c4b0 : (t441 == 0) = false := beq_eq_false_iff_ne.mpr c4
  have c4b1 : (t441 != 0) = true := bne_iff_ne.mpr c4
  simp only [Option.some.injEq, Prod.mk.injEq] at H
  obtain ⟨rfl, rfl⟩ := H
  go_enter Try.func27, Try.ntmps27
  go_wp2_with (first | (refine bx_ 4 #[.int .i64 0, .slice none 0 0] 42 ?_; intro gb440 hg w16 hbox hb; have BK440 := Aside0.mk (hbox); have GW440 := Aside0.mk ((by rw [hg]; exact (below_size cB0_) : w.heap.size ≤ gb440)); have GE440 := Aside0.mk ((by rw [hg]; exact (below_size cB0_) : w.heap.size ≤ gb440)); replace HB := Aside0.mk (below_step cB0_ hb); clear hb hbox hg) | (refine gl_ 12 (some 7) Try.func12 #[.slice A0 l0.length c0] ?_; (with_reducible refine (spec_PlanFault.calls k _ _ l0 t441 _ ?side1 ?side2 A3.out).mono ?_); (case side1 => exact b14_12); (case side2 => exact HC0.out); rintro e w17 ⟨rfl, hb⟩; refine ⟨_, rfl, ?_⟩; replace BK440 := Aside0.mk (blk_below (g := gb440) (o := .cells #[.int .i64 0, .slice none 0 0] 42 (0, 0)) (cO_ BK440.out) hb); replace HB := Aside0.mk (below_step b14_6 hb); (try clear hb); (try clear hb2); (try clear hk); (try clear hi); obtain ⟨hcz18_0, hcz18_1, hfz18_0, hfz18_1⟩ := cells2 BK440.out))
  refine bodyPost_ret (results_cell_row rfl _ _ gb440 42 #[.int .i64 t441, .slice none 0 0] (0, 0) _ rfl (by refine cO_ ?_; refine blk_put (cs := #[.int .i64 t441, .slice none 0 0]) ?_ 1 _ rfl; refine cO_ ?_; refine blk_put (cs := #[.int .i64 0, .slice none 0 0]) ?_ 0 _ rfl; refine cO_ ?_; exact BK440.out) Try.underlying42 rfl (by kernel_rfl)) rfl ?_
  exact ⟨_, ce_, q14_1, cB1_ GE440.out⟩
 rw [if_pos c4] at H
 have c4b0 : (t441 == 0) = true := beq_iff_eq.mpr c4
 have c4b1 : (t441 != 0) = false := bne_eq_false_iff_eq.mpr c4
 clear c4
 obtain ⟨t442, A5, H⟩ := bnd_ H
 try dsimp only at H
 by_cases c6 : t442 = true
 ·subst c6
  rw [if_pos rfl] at H
  obtain ⟨t443, A7, H⟩ := bnd_ H
  try dsimp only at H
  simp only [Option.some.injEq, Prod.mk.injEq] at H
  obtain ⟨rfl, rfl⟩ := H
  go_enter Try.func27, Try.ntmps27
  go_wp2_with (first | (refine bx_ 4 #[.int .i64 0, .slice none 0 0] 42 ?_; intro gb440 hg w8 hbox hb; have BK440 := Aside0.mk (hbox); have GW440 := Aside0.mk ((by rw [hg]; exact (below_size cB0_) : w.heap.size ≤ gb440)); have GE440 := Aside0.mk ((by rw [hg]; exact (below_size cB0_) : w.heap.size ≤ gb440)); replace HB := Aside0.mk (below_step cB0_ hb); clear hb hbox hg) | (refine gl_ 12 (some 7) Try.func12 #[.slice A0 l0.length c0] ?_; (with_reducible refine (spec_PlanFault.calls k _ _ l0 t441 _ ?side1 ?side2 A3.out).mono ?_); (case side1 => exact b14_12); (case side2 => exact HC0.out); rintro e w9 ⟨rfl, hb⟩; refine ⟨_, rfl, ?_⟩; replace BK440 := Aside0.mk (blk_below (g := gb440) (o := .cells #[.int .i64 0, .slice none 0 0] 42 (0, 0)) (cO_ BK440.out) hb); replace HB := Aside0.mk (below_step b14_6 hb); (try clear hb); (try clear hb2); (try clear hk); (try clear hi)) | (refine gl_ 59 (some 13) Try.func59 #[.int .i64 a1, .int .i64 1, .int .i64 12] ?_; (with_reducible refine (spec_l1In.calls a1 1 12 true _ A5.out).mono ?_); rintro e w' ⟨rfl, ⟨nd, rfl⟩⟩; refine ⟨_, rfl, ?_⟩; (try simp only [World.drewN_drewN]); (try (rw [drewN_self w9]; generalize hq_ : World.drewN w9 _ = w9; have n0_ : Aside0 (w9.heap[gb440]? = some (.cells #[.int .i64 0, .slice none 0 0] 42 (0, 0))) := ⟨by rw [← hq_]; exact (cO_ BK440.out)⟩; have n1_ : Aside0 (Below w.heap.size w w9) := ⟨by rw [← hq_]; exact b14_6⟩; clear BK440 HB hq_; have BK440 := n0_; have HB := n1_; clear n0_ n1_))) | (refine gl_ 60 (some 18) Try.func60 #[.slice A0 l0.length c0, .int .i64 a1] ?_; (with_reducible refine (spec_l3Of.calls k _ _ l0 a1 t443 _ ?side1 ?side2 A7.out).mono ?_); (case side1 => exact b14_12); (case side2 => exact HC0.out); rintro e w10 ⟨v444, rfl, ho0, hb⟩; refine ⟨_, rfl, ?_⟩; have HO445 := Aside0.mk (Kd.R_lower ho0 (below_size b14_6)); replace BK440 := Aside0.mk (blk_below (g := gb440) (o := .cells #[.int .i64 0, .slice none 0 0] 42 (0, 0)) (cO_ BK440.out) hb); replace HB := Aside0.mk (below_step b14_6 hb); (try clear hb); (try clear hb2); (try clear hk); (try clear hi); (try clear ho0); obtain ⟨Ao11, co11, eo11⟩ := Kd.R_slice HO445.out; subst eo11; obtain ⟨hcz12_0, hcz12_1, hfz12_0, hfz12_1⟩ := cells2 BK440.out))
  refine bodyPost_ret (results_cell_row rfl _ _ gb440 42 #[.int .i64 0, .slice Ao11 t443.length co11] (0, 0) _ rfl (by refine cO_ ?_; refine blk_put (cs := #[.int .i64 0, .slice none 0 0]) ?_ 1 _ rfl; refine cO_ ?_; refine blk_put (cs := #[.int .i64 0, .slice none 0 0]) ?_ 0 _ rfl; refine cO_ ?_; exact BK440.out) Try.underlying42 rfl (by kernel_rfl)) rfl ?_
  exact ⟨_, ce_, by refine cR_ ?_; exact Kd.R_mono (Kd.R_far (p := ⟨gb440, 1, none⟩) (Kd.R_far (p := ⟨gb440, 0, none⟩) (Kd.R_types HO445.out BK440.out (by decide)) (fun _ hk => hk.2) (.int .i64 0)) (fun _ hk => hk.2) (.slice Ao11 t443.length co11)) (fun _ hk => trivial), cB1_ GE440.out⟩
 replace c6 := Bool.eq_false_iff.mpr c6
 subst c6
 rw [if_neg (show ¬ (false = true) by decide)] at H
 simp only [Option.some.injEq, Prod.mk.injEq] at H
 obtain ⟨rfl, rfl⟩ := H
 go_enter Try.func27, Try.ntmps27
 go_wp2_with (first | (refine bx_ 4 #[.int .i64 0, .slice none 0 0] 42 ?_; intro gb440 hg w13 hbox hb; have BK440 := Aside0.mk (hbox); have GW440 := Aside0.mk ((by rw [hg]; exact (below_size cB0_) : w.heap.size ≤ gb440)); have GE440 := Aside0.mk ((by rw [hg]; exact (below_size cB0_) : w.heap.size ≤ gb440)); replace HB := Aside0.mk (below_step cB0_ hb); clear hb hbox hg) | (refine gl_ 12 (some 7) Try.func12 #[.slice A0 l0.length c0] ?_; (with_reducible refine (spec_PlanFault.calls k _ _ l0 t441 _ ?side1 ?side2 A3.out).mono ?_); (case side1 => exact b14_12); (case side2 => exact HC0.out); rintro e w14 ⟨rfl, hb⟩; refine ⟨_, rfl, ?_⟩; replace BK440 := Aside0.mk (blk_below (g := gb440) (o := .cells #[.int .i64 0, .slice none 0 0] 42 (0, 0)) (cO_ BK440.out) hb); replace HB := Aside0.mk (below_step b14_6 hb); (try clear hb); (try clear hb2); (try clear hk); (try clear hi)) | (refine gl_ 59 (some 13) Try.func59 #[.int .i64 a1, .int .i64 1, .int .i64 12] ?_; (with_reducible refine (spec_l1In.calls a1 1 12 false _ A5.out).mono ?_); rintro e w' ⟨rfl, ⟨nd, rfl⟩⟩; refine ⟨_, rfl, ?_⟩; (try simp only [World.drewN_drewN]); (try (rw [drewN_self w14]; generalize hq_ : World.drewN w14 _ = w14; have n0_ : Aside0 (w14.heap[gb440]? = some (.cells #[.int .i64 0, .slice none 0 0] 42 (0, 0))) := ⟨by rw [← hq_]; exact (cO_ BK440.out)⟩; have n1_ : Aside0 (Below w.heap.size w w14) := ⟨by rw [← hq_]; exact b14_6⟩; clear BK440 HB hq_; have BK440 := n0_; have HB := n1_; clear n0_ n1_)); obtain ⟨hcz15_0, hcz15_1, hfz15_0, hfz15_1⟩ := cells2 BK440.out))
 refine bodyPost_ret (results_cell_row rfl _ _ gb440 42 #[.int .i64 5, .slice none 0 0] (0, 0) _ rfl (by refine cO_ ?_; refine blk_put (cs := #[.int .i64 5, .slice none 0 0]) ?_ 1 _ rfl; refine cO_ ?_; refine blk_put (cs := #[.int .i64 0, .slice none 0 0]) ?_ 0 _ rfl; refine cO_ ?_; exact BK440.out) Try.underlying42 rfl (by kernel_rfl)) rfl ?_
 exact ⟨_, ce_, q14_1, cB1_ GE440.out⟩

/-! ### laws_FnFeeds: function 7 -/
mutual
def laws_FnFeeds.l0 : Nat → List (S58) → Int → Int → Option (Bool)
 | 0, _, _, _ => none
 | k + 1, x3, x6, x7 => if x7 < x6 then ((impl_ReadersOf.f k x3 x7).bind fun bt464 => (laws_FnFeeds.l1 k x3 x6 x7 0 bt464.1 bt464.2)) else ((impl_PlanFault.f k x3).bind fun t455 => (if t455 = 0 then ((impl_NodesOf.f k x3 1).bind fun bt456 => ((spec_NodesOf.f k x3 1).bind fun bt460 => (some ((bt456.2.length : Int) == (bt460.2.length : Int))))) else (some false)))
def laws_FnFeeds.l1 : Nat → List (S58) → Int → Int → Int → Int → List Int → Option (Bool)
 | 0, _, _, _, _, _, _ => none
 | k + 1, x3, x6, x7, x9, x469000, x469001 => if x9 < (x469001.length : Int) then (if 0 ≤ x9 then ((impl_FeedsOn.f k x3 x7 (rd x469001 x9)).bind fun t470 => (if t470 = true then (laws_FnFeeds.l1 k x3 x6 x7 (wrap64 (x9 + 1)) x469000 x469001) else (some false))) else (none)) else (laws_FnFeeds.l2 k x3 x6 x7 0)
def laws_FnFeeds.l2 : Nat → List (S58) → Int → Int → Int → Option (Bool)
 | 0, _, _, _, _ => none
 | k + 1, x3, x6, x7, x10 => if x10 < x6 then ((impl_FeedsOn.f k x3 x7 x10).bind fun t471 => (if t471 = true then (if x7 ≥ x10 then (some false) else (laws_FnFeeds.l3 k x3 x6 x7 x10 0)) else (laws_FnFeeds.l2 k x3 x6 x7 (wrap64 (x10 + 1))))) else (laws_FnFeeds.l0 k x3 x6 (wrap64 (x7 + 1)))
def laws_FnFeeds.l3 : Nat → List (S58) → Int → Int → Int → Int → Option (Bool)
 | 0, _, _, _, _, _ => none
 | k + 1, x3, x6, x7, x10, x11 => if x11 < x6 then ((impl_FeedsOn.f k x3 x10 x11).bind fun t472 => (if t472 = true then ((impl_FeedsOn.f k x3 x7 x11).bind fun t473 => (if t473 = true then (laws_FnFeeds.l3 k x3 x6 x7 x10 (wrap64 (x11 + 1))) else (some false))) else (laws_FnFeeds.l3 k x3 x6 x7 x10 (wrap64 (x11 + 1))))) else (laws_FnFeeds.l2 k x3 x6 x7 (wrap64 (x10 + 1)))
end
def laws_FnFeeds.f (k : Nat) (l0 : List Int) : Option (Bool) := (laws_lwBig.f l0).bind fun t446 => (if t446 = true then (some true) else ((spec_DrawFeedsOn.f k l0).bind fun bt447 => ((spec_PlanFault.f k bt447.1).bind fun t452 => (if t452 = 0 then (laws_FnFeeds.l0 k bt447.1 (bt447.1.length : Int) 0) else ((impl_FeedsOn.f k bt447.1 0 (wrap64 ((bt447.1.length : Int) - 1))).bind fun t453 => (if t453 = true then (some false) else ((impl_PlanFault.f k bt447.1).bind fun t454 => (some (t454 != 0)))))))))
theorem laws_FnFeeds.mono_l : ∀ k, (∀ y0 y1 y2, LeO (laws_FnFeeds.l0 k y0 y1 y2) (laws_FnFeeds.l0 (k + 1) y0 y1 y2)) ∧ (∀ y0 y1 y2 y3 y4 y5, LeO (laws_FnFeeds.l1 k y0 y1 y2 y3 y4 y5) (laws_FnFeeds.l1 (k + 1) y0 y1 y2 y3 y4 y5)) ∧ (∀ y0 y1 y2 y3, LeO (laws_FnFeeds.l2 k y0 y1 y2 y3) (laws_FnFeeds.l2 (k + 1) y0 y1 y2 y3)) ∧ (∀ y0 y1 y2 y3 y4, LeO (laws_FnFeeds.l3 k y0 y1 y2 y3 y4) (laws_FnFeeds.l3 (k + 1) y0 y1 y2 y3 y4))
 | 0 => ⟨fun _ _ _ r h => by simp [laws_FnFeeds.l0] at h, fun _ _ _ _ _ _ r h => by simp [laws_FnFeeds.l1] at h, fun _ _ _ _ r h => by simp [laws_FnFeeds.l2] at h, fun _ _ _ _ _ r h => by simp [laws_FnFeeds.l3] at h⟩
 | k + 1 => by
  obtain ⟨ih0, ih1, ih2, ih3⟩ := laws_FnFeeds.mono_l k
  refine ⟨?_, ?_, ?_, ?_⟩
  ·intro y0 y1 y2
   unfold laws_FnFeeds.l0
   repeat' first
   | (with_reducible exact ih0 _ _ _)
   | (with_reducible exact ih1 _ _ _ _ _ _)
   | (with_reducible exact ih2 _ _ _ _)
   | (with_reducible exact ih3 _ _ _ _ _)
   | (with_reducible exact impl_FeedsOn.mono _ _ _ _)
   | (with_reducible exact impl_NodesOf.mono _ _ _)
   | (with_reducible exact impl_PlanFault.mono _ _)
   | (with_reducible exact impl_ReadersOf.mono _ _ _)
   | (with_reducible exact spec_DrawFeedsOn.mono _ _)
   | (with_reducible exact spec_NodesOf.mono _ _ _)
   | (with_reducible exact spec_PlanFault.mono _ _)
   | (with_reducible exact LeO.refl _)
   | (with_reducible exact LeO.none _)
   | (with_reducible refine LeO.ite ?_ ?_)
   | (with_reducible refine LeO.bind ?_ (fun _ => ?_))
   | exact ih0 _ _ _
   | exact ih1 _ _ _ _ _ _
   | exact ih2 _ _ _ _
   | exact ih3 _ _ _ _ _
   | exact impl_FeedsOn.mono _ _ _ _
   | exact impl_NodesOf.mono _ _ _
   | exact impl_PlanFault.mono _ _
   | exact impl_ReadersOf.mono _ _ _
   | exact spec_DrawFeedsOn.mono _ _
   | exact spec_NodesOf.mono _ _ _
   | exact spec_PlanFault.mono _ _
   | exact LeO.none _
   | refine LeO.ite ?_ ?_
   | refine LeO.bind ?_ (fun _ => ?_)
  ·intro y0 y1 y2 y3 y4 y5
   unfold laws_FnFeeds.l1
   repeat' first
   | (with_reducible exact ih0 _ _ _)
   | (with_reducible exact ih1 _ _ _ _ _ _)
   | (with_reducible exact ih2 _ _ _ _)
   | (with_reducible exact ih3 _ _ _ _ _)
   | (with_reducible exact impl_FeedsOn.mono _ _ _ _)
   | (with_reducible exact impl_NodesOf.mono _ _ _)
   | (with_reducible exact impl_PlanFault.mono _ _)
   | (with_reducible exact impl_ReadersOf.mono _ _ _)
   | (with_reducible exact spec_DrawFeedsOn.mono _ _)
   | (with_reducible exact spec_NodesOf.mono _ _ _)
   | (with_reducible exact spec_PlanFault.mono _ _)
   | (with_reducible exact LeO.refl _)
   | (with_reducible exact LeO.none _)
   | (with_reducible refine LeO.ite ?_ ?_)
   | (with_reducible refine LeO.bind ?_ (fun _ => ?_))
   | exact ih0 _ _ _
   | exact ih1 _ _ _ _ _ _
   | exact ih2 _ _ _ _
   | exact ih3 _ _ _ _ _
   | exact impl_FeedsOn.mono _ _ _ _
   | exact impl_NodesOf.mono _ _ _
   | exact impl_PlanFault.mono _ _
   | exact impl_ReadersOf.mono _ _ _
   | exact spec_DrawFeedsOn.mono _ _
   | exact spec_NodesOf.mono _ _ _
   | exact spec_PlanFault.mono _ _
   | exact LeO.none _
   | refine LeO.ite ?_ ?_
   | refine LeO.bind ?_ (fun _ => ?_)
  ·intro y0 y1 y2 y3
   unfold laws_FnFeeds.l2
   repeat' first
   | (with_reducible exact ih0 _ _ _)
   | (with_reducible exact ih1 _ _ _ _ _ _)
   | (with_reducible exact ih2 _ _ _ _)
   | (with_reducible exact ih3 _ _ _ _ _)
   | (with_reducible exact impl_FeedsOn.mono _ _ _ _)
   | (with_reducible exact impl_NodesOf.mono _ _ _)
   | (with_reducible exact impl_PlanFault.mono _ _)
   | (with_reducible exact impl_ReadersOf.mono _ _ _)
   | (with_reducible exact spec_DrawFeedsOn.mono _ _)
   | (with_reducible exact spec_NodesOf.mono _ _ _)
   | (with_reducible exact spec_PlanFault.mono _ _)
   | (with_reducible exact LeO.refl _)
   | (with_reducible exact LeO.none _)
   | (with_reducible refine LeO.ite ?_ ?_)
   | (with_reducible refine LeO.bind ?_ (fun _ => ?_))
   | exact ih0 _ _ _
   | exact ih1 _ _ _ _ _ _
   | exact ih2 _ _ _ _
   | exact ih3 _ _ _ _ _
   | exact impl_FeedsOn.mono _ _ _ _
   | exact impl_NodesOf.mono _ _ _
   | exact impl_PlanFault.mono _ _
   | exact impl_ReadersOf.mono _ _ _
   | exact spec_DrawFeedsOn.mono _ _
   | exact spec_NodesOf.mono _ _ _
   | exact spec_PlanFault.mono _ _
   | exact LeO.none _
   | refine LeO.ite ?_ ?_
   | refine LeO.bind ?_ (fun _ => ?_)
  ·intro y0 y1 y2 y3 y4
   unfold laws_FnFeeds.l3
   repeat' first
   | (with_reducible exact ih0 _ _ _)
   | (with_reducible exact ih1 _ _ _ _ _ _)
   | (with_reducible exact ih2 _ _ _ _)
   | (with_reducible exact ih3 _ _ _ _ _)
   | (with_reducible exact impl_FeedsOn.mono _ _ _ _)
   | (with_reducible exact impl_NodesOf.mono _ _ _)
   | (with_reducible exact impl_PlanFault.mono _ _)
   | (with_reducible exact impl_ReadersOf.mono _ _ _)
   | (with_reducible exact spec_DrawFeedsOn.mono _ _)
   | (with_reducible exact spec_NodesOf.mono _ _ _)
   | (with_reducible exact spec_PlanFault.mono _ _)
   | (with_reducible exact LeO.refl _)
   | (with_reducible exact LeO.none _)
   | (with_reducible refine LeO.ite ?_ ?_)
   | (with_reducible refine LeO.bind ?_ (fun _ => ?_))
   | exact ih0 _ _ _
   | exact ih1 _ _ _ _ _ _
   | exact ih2 _ _ _ _
   | exact ih3 _ _ _ _ _
   | exact impl_FeedsOn.mono _ _ _ _
   | exact impl_NodesOf.mono _ _ _
   | exact impl_PlanFault.mono _ _
   | exact impl_ReadersOf.mono _ _ _
   | exact spec_DrawFeedsOn.mono _ _
   | exact spec_NodesOf.mono _ _ _
   | exact spec_PlanFault.mono _ _
   | exact LeO.none _
   | refine LeO.ite ?_ ?_
   | refine LeO.bind ?_ (fun _ => ?_)
theorem laws_FnFeeds.mono : ∀ a0 k, LeO (laws_FnFeeds.f k a0) (laws_FnFeeds.f (k + 1) a0) := by
 intro a0 k
 obtain ⟨ih0, ih1, ih2, ih3⟩ := laws_FnFeeds.mono_l k
 unfold laws_FnFeeds.f
 repeat' first
   | (with_reducible exact ih0 _ _ _)
   | (with_reducible exact ih1 _ _ _ _ _ _)
   | (with_reducible exact ih2 _ _ _ _)
   | (with_reducible exact ih3 _ _ _ _ _)
   | (with_reducible exact impl_FeedsOn.mono _ _ _ _)
   | (with_reducible exact impl_NodesOf.mono _ _ _)
   | (with_reducible exact impl_PlanFault.mono _ _)
   | (with_reducible exact impl_ReadersOf.mono _ _ _)
   | (with_reducible exact spec_DrawFeedsOn.mono _ _)
   | (with_reducible exact spec_NodesOf.mono _ _ _)
   | (with_reducible exact spec_PlanFault.mono _ _)
   | (with_reducible exact LeO.refl _)
   | (with_reducible exact LeO.none _)
   | (with_reducible refine LeO.ite ?_ ?_)
   | (with_reducible refine LeO.bind ?_ (fun _ => ?_))
   | exact ih0 _ _ _
   | exact ih1 _ _ _ _ _ _
   | exact ih2 _ _ _ _
   | exact ih3 _ _ _ _ _
   | exact impl_FeedsOn.mono _ _ _ _
   | exact impl_NodesOf.mono _ _ _
   | exact impl_PlanFault.mono _ _
   | exact impl_ReadersOf.mono _ _ _
   | exact spec_DrawFeedsOn.mono _ _
   | exact spec_NodesOf.mono _ _ _
   | exact spec_PlanFault.mono _ _
   | exact LeO.none _
   | refine LeO.ite ?_ ?_
   | refine LeO.bind ?_ (fun _ => ?_)
set_option maxHeartbeats 8000000 in
set_option maxRecDepth 100000 in
theorem laws_FnFeeds.calls (k : Nat) (A0 : Option Addr) (c0 : Nat) (l0 : List Int) (r : Bool) (w : World) (hr0 : Kd.C (Kd.int .u8) w A0 l0.length l0) (hc0 : l0.length ≤ c0) (h : laws_FnFeeds.f k l0 = some r) :
  Calls Try.prog 7 #[.slice A0 l0.length c0] w fun e w' => e = .returned (.bool r) ∧ Below w.heap.size w w' := by
 have hfd42_1 : ∀ (x0_ x1_ : Value) (w_ : World), Sem.run Try.prog (Instr.field 42 (.agg #[x0_, x1_]) 1) w_ = .ok x1_ w_ := fun _ _ _ => by kernel_rfl
 have hu42 := Try.underlying42
 have HR0 := Aside0.mk hr0
 have HC0 := Aside0.mk hc0
 clear hr0 hc0
 have HB := Aside0.mk (Below.refl w.heap.size w)
 have H : ((laws_lwBig.f l0).bind fun t446 => (if t446 = true then (some true) else ((spec_DrawFeedsOn.f k l0).bind fun bt447 => ((spec_PlanFault.f k bt447.1).bind fun t452 => (if t452 = 0 then (laws_FnFeeds.l0 k bt447.1 (bt447.1.length : Int) 0) else ((impl_FeedsOn.f k bt447.1 0 (wrap64 ((bt447.1.length : Int) - 1))).bind fun t453 => (if t453 = true then (some false) else ((impl_PlanFault.f k bt447.1).bind fun t454 => (some (t454 != 0)))))))))) = some r := h
 clear h
 obtain ⟨t446, A2, H⟩ := bnd_ H
 try dsimp only at H
 by_cases c3 : t446 = true
 ·subst c3
  rw [if_pos rfl] at H
  obtain rfl := Option.some.inj H
  go_enter Try.func7, Try.ntmps7
  go_wp2_with (first | (refine gl_ 23 (some 13) Try.func23 #[.slice A0 l0.length c0] ?_; (with_reducible refine (laws_lwBig.calls _ _ l0 true _ ?side1 ?side2 A2.out).mono ?_); (case side1 => exact cC_ HR0.out); (case side2 => exact HC0.out); rintro e w' ⟨rfl, ⟨nd, rfl⟩⟩; refine ⟨_, rfl, ?_⟩))
  go_ret
  exact ⟨ce_, cB0_⟩
 replace c3 := Bool.eq_false_iff.mpr c3
 subst c3
 rw [if_neg (show ¬ (false = true) by decide)] at H
 obtain ⟨⟨t447, t450, t451⟩, A4, H⟩ := bnd_ H
 try dsimp only at H
 obtain ⟨t452, A5, H⟩ := bnd_ H
 try dsimp only at H
 by_cases c6 : t452 = 0
 rotate_left
 ·rw [if_neg c6] at H
  have c6b0 : (t452 == 0) = false := beq_eq_false_iff_ne.mpr c6
  have c6b1 : (t452 != 0) = true := bne_iff_ne.mpr c6
  obtain ⟨t453, A52, H⟩ := bnd_ H
  try dsimp only at H
  by_cases c53 : t453 = true
  ·subst c53
   rw [if_pos rfl] at H
   obtain rfl := Option.some.inj H
   go_enter Try.func7, Try.ntmps7
   go_wp2_with (first | (refine gl_ 23 (some 13) Try.func23 #[.slice A0 l0.length c0] ?_; (with_reducible refine (laws_lwBig.calls _ _ l0 false _ ?side1 ?side2 A2.out).mono ?_); (case side1 => exact cC_ HR0.out); (case side2 => exact HC0.out); rintro e w' ⟨rfl, ⟨nd, rfl⟩⟩; refine ⟨_, rfl, ?_⟩) | (refine gl_ 24 (some 16) Try.func24 #[.slice A0 l0.length c0] ?_; (with_reducible refine (spec_DrawFeedsOn.calls k _ _ l0 t447 t450 t451 _ ?side1 ?side2 A4.out).mono ?_); (case side1 => exact cC_ HR0.out); (case side2 => exact HC0.out); rintro e w54 ⟨v448, rfl, ho0, hb⟩; refine ⟨_, rfl, ?_⟩; have HO449 := Aside0.mk (Kd.N_lower (Kd.N_mono (ok' := fun k_ => True) ho0 (fun k_ hk_ => trivial)) (below_size cB0_)); replace HB := Aside0.mk (below_step cB0_ hb); (try clear hb); (try clear hb2); (try clear hk); (try clear hi); (try clear ho0); obtain ⟨Ao55, co55, eo55⟩ := Kd.N_slice HO449.out; subst eo55) | (refine gl_ 12 (some 23) Try.func12 #[.slice Ao55 t447.length co55] ?_; (with_reducible refine (spec_PlanFault.calls k _ _ t447 t452 _ ?side1 ?side2 A5.out).mono ?_); (case side1 => exact b14_9); (case side2 => exact (Kd.N_reads' HO449.out).2.1); rintro e w56 ⟨rfl, hb⟩; refine ⟨_, rfl, ?_⟩; replace HO449 := Aside0.mk (Kd.N_below (cN_ HO449.out) hb); replace HB := Aside0.mk (below_step cB0_ hb); (try clear hb); (try clear hb2); (try clear hk); (try clear hi)) | (refine gl_ 20 (some 28) Try.func20 #[.slice Ao55 t447.length co55, .int .i64 0, .int .i64 (wrap64 ((t447.length : Int) - 1))] ?_; (with_reducible refine (impl_FeedsOn.calls k _ _ t447 0 (wrap64 ((t447.length : Int) - 1)) true _ ?side1 ?side2 A52.out).mono ?_); (case side1 => exact b14_9); (case side2 => exact (Kd.N_reads' HO449.out).2.1); rintro e w57 ⟨rfl, hb⟩; refine ⟨_, rfl, ?_⟩; replace HO449 := Aside0.mk (Kd.N_below (cN_ HO449.out) hb); replace HB := Aside0.mk (below_step cB0_ hb); (try clear hb); (try clear hb2); (try clear hk); (try clear hi)))
   go_ret
   exact ⟨ce_, cB0_⟩
  replace c53 := Bool.eq_false_iff.mpr c53
  subst c53
  rw [if_neg (show ¬ (false = true) by decide)] at H
  obtain ⟨t454, A58, H⟩ := bnd_ H
  try dsimp only at H
  obtain rfl := Option.some.inj H
  go_enter Try.func7, Try.ntmps7
  go_wp2_with (first | (refine gl_ 23 (some 13) Try.func23 #[.slice A0 l0.length c0] ?_; (with_reducible refine (laws_lwBig.calls _ _ l0 false _ ?side1 ?side2 A2.out).mono ?_); (case side1 => exact cC_ HR0.out); (case side2 => exact HC0.out); rintro e w' ⟨rfl, ⟨nd, rfl⟩⟩; refine ⟨_, rfl, ?_⟩) | (refine gl_ 24 (some 16) Try.func24 #[.slice A0 l0.length c0] ?_; (with_reducible refine (spec_DrawFeedsOn.calls k _ _ l0 t447 t450 t451 _ ?side1 ?side2 A4.out).mono ?_); (case side1 => exact cC_ HR0.out); (case side2 => exact HC0.out); rintro e w59 ⟨v448, rfl, ho0, hb⟩; refine ⟨_, rfl, ?_⟩; have HO449 := Aside0.mk (Kd.N_lower (Kd.N_mono (ok' := fun k_ => True) ho0 (fun k_ hk_ => trivial)) (below_size cB0_)); replace HB := Aside0.mk (below_step cB0_ hb); (try clear hb); (try clear hb2); (try clear hk); (try clear hi); (try clear ho0); obtain ⟨Ao60, co60, eo60⟩ := Kd.N_slice HO449.out; subst eo60) | (refine gl_ 12 (some 23) Try.func12 #[.slice Ao60 t447.length co60] ?_; (with_reducible refine (spec_PlanFault.calls k _ _ t447 t452 _ ?side1 ?side2 A5.out).mono ?_); (case side1 => exact b14_9); (case side2 => exact (Kd.N_reads' HO449.out).2.1); rintro e w61 ⟨rfl, hb⟩; refine ⟨_, rfl, ?_⟩; replace HO449 := Aside0.mk (Kd.N_below (cN_ HO449.out) hb); replace HB := Aside0.mk (below_step cB0_ hb); (try clear hb); (try clear hb2); (try clear hk); (try clear hi)) | (refine gl_ 20 (some 28) Try.func20 #[.slice Ao60 t447.length co60, .int .i64 0, .int .i64 (wrap64 ((t447.length : Int) - 1))] ?_; (with_reducible refine (impl_FeedsOn.calls k _ _ t447 0 (wrap64 ((t447.length : Int) - 1)) false _ ?side1 ?side2 A52.out).mono ?_); (case side1 => exact b14_9); (case side2 => exact (Kd.N_reads' HO449.out).2.1); rintro e w62 ⟨rfl, hb⟩; refine ⟨_, rfl, ?_⟩; replace HO449 := Aside0.mk (Kd.N_below (cN_ HO449.out) hb); replace HB := Aside0.mk (below_step cB0_ hb); (try clear hb); (try clear hb2); (try clear hk); (try clear hi)) | (go_at_call 14; (with_reducible refine (impl_PlanFault.calls k _ _ t447 t454 _ ?side1 ?side2 A58.out).mono ?_); (case side1 => exact b14_9); (case side2 => exact (Kd.N_reads' HO449.out).2.1); rintro e w63 ⟨rfl, hb⟩; replace HO449 := Aside0.mk (Kd.N_below (cN_ HO449.out) hb); replace HB := Aside0.mk (below_step cB0_ hb); (try clear hb); (try clear hb2); (try clear hk); (try clear hi)))
  go_ret
  exact ⟨ce_, cB0_⟩
 rw [if_pos c6] at H
 have c6b0 : (t452 == 0) = true := beq_iff_eq.mpr c6
 have c6b1 : (t452 != 0) = false := bne_eq_false_iff_eq.mpr c6
 clear c6
 have H' := Aside0.mk H
 clear H
 go_enter Try.func7, Try.ntmps7
 go_wp2_with (first | (refine gl_ 23 (some 13) Try.func23 #[.slice A0 l0.length c0] ?_; (with_reducible refine (laws_lwBig.calls _ _ l0 false _ ?side1 ?side2 A2.out).mono ?_); (case side1 => exact cC_ HR0.out); (case side2 => exact HC0.out); rintro e w' ⟨rfl, ⟨nd, rfl⟩⟩; refine ⟨_, rfl, ?_⟩) | (refine gl_ 24 (some 16) Try.func24 #[.slice A0 l0.length c0] ?_; (with_reducible refine (spec_DrawFeedsOn.calls k _ _ l0 t447 t450 t451 _ ?side1 ?side2 A4.out).mono ?_); (case side1 => exact cC_ HR0.out); (case side2 => exact HC0.out); rintro e w7 ⟨v448, rfl, ho0, hb⟩; refine ⟨_, rfl, ?_⟩; have HO449 := Aside0.mk (Kd.N_lower (Kd.N_mono (ok' := fun k_ => True) ho0 (fun k_ hk_ => trivial)) (below_size cB0_)); replace HB := Aside0.mk (below_step cB0_ hb); (try clear hb); (try clear hb2); (try clear hk); (try clear hi); (try clear ho0); obtain ⟨Ao8, co8, eo8⟩ := Kd.N_slice HO449.out; subst eo8) | (refine gl_ 12 (some 23) Try.func12 #[.slice Ao8 t447.length co8] ?_; (with_reducible refine (spec_PlanFault.calls k _ _ t447 t452 _ ?side1 ?side2 A5.out).mono ?_); (case side1 => exact b14_9); (case side2 => exact (Kd.N_reads' HO449.out).2.1); rintro e w9 ⟨rfl, hb⟩; refine ⟨_, rfl, ?_⟩; replace HO449 := Aside0.mk (Kd.N_below (cN_ HO449.out) hb); replace HB := Aside0.mk (below_step cB0_ hb); (try clear hb); (try clear hb2); (try clear hk); (try clear hi)))
 go_loopg [7] k (fun kq v7 w' => ∃ (x7_1 : Int), v7 = .int .i64 x7_1 ∧ Aside0 (laws_FnFeeds.l0 kq t447 (t447.length : Int) x7_1 = some r) ∧ Aside0 (kq ≤ k) ∧ Aside0 (Kd.N k58 58 w' w.heap.size (fun _ => True) (.slice Ao8 t447.length co8) t447) ∧ Aside0 (Below w.heap.size w w'))
 case atStart => exact ⟨(0), cs_, H', ⟨Nat.le_refl _⟩, ⟨cN_ HO449.out⟩, ⟨cB0_⟩⟩
 case round =>
  clear H'
  try clear c1
  try clear c2
  try clear p2
  try clear c3
  try clear c6
  try clear c6b0
  try clear c6b1
  try clear p6
  try clear c7
  obtain ⟨x7_1, rfl, HA, HK1, HO_3, HB⟩ := hrel
  cases gk with
  | zero => exact absurd HA.out (by simp [laws_FnFeeds.l0])
  | succ k1 =>
   have H := HA.out
   clear HA
   simp only [laws_FnFeeds.l0] at H
   by_cases c10 : x7_1 < (t447.length : Int)
   rotate_left
   ·rw [if_neg c10] at H
    have c10b0 : decide (x7_1 < (t447.length : Int)) = false := decide_eq_false c10
    clear c10
    obtain ⟨t455, A42, H⟩ := bnd_ H
    try dsimp only at H
    by_cases c43 : t455 = 0
    ·rw [if_pos c43] at H
     have c43b0 : (t455 == 0) = true := beq_iff_eq.mpr c43
     have c43b1 : (t455 != 0) = false := bne_eq_false_iff_eq.mpr c43
     clear c43
     obtain ⟨⟨t456, t457⟩, A44, H⟩ := bnd_ H
     try dsimp only at H
     obtain ⟨⟨t460, t461⟩, A45, H⟩ := bnd_ H
     try dsimp only at H
     obtain rfl := Option.some.inj H
     go_wp2_with (first | (refine gl_ 14 (some 89) Try.func14 #[.slice Ao8 t447.length co8] ?_; (with_reducible refine (impl_PlanFault.calls k1 _ _ t447 t455 _ ?side1 ?side2 A42.out).mono ?_); (case side1 => exact b14_2); (case side2 => exact (Kd.N_reads' HO_3.out).2.1); rintro e w46 ⟨rfl, hb⟩; refine ⟨_, rfl, ?_⟩; replace HO_3 := Aside0.mk (Kd.N_below b14_3 hb); replace HB := Aside0.mk (below_step cB0_ hb); (try clear hb); (try clear hb2); (try clear hk); (try clear hi)) | (go_at_call 26; (with_reducible refine (impl_NodesOf.calls k1 _ _ t447 1 t456 t457 _ ?side1 ?side2 A44.out).mono ?_); (case side1 => exact b14_2); (case side2 => exact (Kd.N_reads' HO_3.out).2.1); rintro e w47 ⟨v458, rfl, ho0, hb⟩; replace HO_3 := Aside0.mk (Kd.N_elder' b14_3 (Kd.R_base ho0) hb); have HO459 := Aside0.mk (Kd.R_lower ho0 (below_size cB0_)); replace HB := Aside0.mk (below_step cB0_ hb); (try clear hb); (try clear hb2); (try clear hk); (try clear hi); (try clear ho0); obtain ⟨Ao48, co48, eo48⟩ := Kd.R_slice HO459.out; subst eo48) | (go_at_call 27; (with_reducible refine (spec_NodesOf.calls k1 _ _ t447 1 t460 t461 _ ?side1 ?side2 A45.out).mono ?_); (case side1 => exact b14_2); (case side2 => exact (Kd.N_reads' HO_3.out).2.1); rintro e w49 ⟨v462, rfl, ho0, hb⟩; replace HO_3 := Aside0.mk (Kd.N_elder' b14_3 (Kd.R_base ho0) hb); have HO463 := Aside0.mk (Kd.R_lower (Kd.R_new' ho0 (Kd.R_lt (cR_ HO459.out))) (below_size cB0_)); replace HO459 := Aside0.mk (Kd.R_elder' (cR_ HO459.out) (Kd.R_base ho0) hb); replace HB := Aside0.mk (below_step cB0_ hb); (try clear hb); (try clear hb2); (try clear hk); (try clear hi); (try clear ho0); obtain ⟨Ao50, co50, eo50⟩ := Kd.R_slice HO463.out; subst eo50))
     go_ret
     exact ⟨ce_, cB0_⟩
    rw [if_neg c43] at H
    have c43b0 : (t455 == 0) = false := beq_eq_false_iff_ne.mpr c43
    have c43b1 : (t455 != 0) = true := bne_iff_ne.mpr c43
    obtain rfl := Option.some.inj H
    go_wp2_with (first | (refine gl_ 14 (some 89) Try.func14 #[.slice Ao8 t447.length co8] ?_; (with_reducible refine (impl_PlanFault.calls k1 _ _ t447 t455 _ ?side1 ?side2 A42.out).mono ?_); (case side1 => exact b14_2); (case side2 => exact (Kd.N_reads' HO_3.out).2.1); rintro e w51 ⟨rfl, hb⟩; refine ⟨_, rfl, ?_⟩; replace HO_3 := Aside0.mk (Kd.N_below b14_3 hb); replace HB := Aside0.mk (below_step cB0_ hb); (try clear hb); (try clear hb2); (try clear hk); (try clear hi)))
    go_ret
    exact ⟨ce_, cB0_⟩
   rw [if_pos c10] at H
   have c10b0 : decide (x7_1 < (t447.length : Int)) = true := decide_eq_true c10
   clear c10
   obtain ⟨⟨t464, t465⟩, A11, H⟩ := bnd_ H
   try dsimp only at H
   have H' := Aside0.mk H
   clear H
   go_wp2_with (first | (refine gl_ 25 (some 42) Try.func25 #[.slice Ao8 t447.length co8, .int .i64 x7_1] ?_; (with_reducible refine (impl_ReadersOf.calls k1 _ _ t447 x7_1 t464 t465 _ ?side1 ?side2 A11.out).mono ?_); (case side1 => exact b14_2); (case side2 => exact (Kd.N_reads' HO_3.out).2.1); rintro e w12 ⟨v466, rfl, ho0, hb⟩; refine ⟨_, rfl, ?_⟩; replace HO_3 := Aside0.mk (Kd.N_elder' b14_3 (Kd.R_base ho0) hb); have HO467 := Aside0.mk (Kd.R_lower ho0 (below_size cB0_)); replace HB := Aside0.mk (below_step cB0_ hb); (try clear hb); (try clear hb2); (try clear hk); (try clear hi); (try clear ho0)) | ((with_reducible refine gate_dst (N := 8) rfl ?_); (try (refine gate_guard (by rfl) ?_; dsimp only)); refine box_event ?hg (N := 8) ?hd (cs := #[.int .i64 0, .slice none 0 0]) (t := 42) ?hr ?_; (case hd => rfl); (case hg => rfl); (case hr => first | (go_simp; done) | (go_simp; rfl)); intro gb468 hg w13 hbox hb; replace HO_3 := Aside0.mk (Kd.N_below (Kd.N_elderB b14_3 gb468 (Nat.le_of_eq hg.symm)) hb); replace HO467 := Aside0.mk (Kd.R_below (cR_ HO467.out) hb); have BK468 := Aside0.mk (hbox); have GW468 := Aside0.mk ((by rw [hg]; exact (below_size cB0_) : w.heap.size ≤ gb468)); have GE468 := Aside0.mk ((by rw [hg]; exact (below_size cB0_) : w.heap.size ≤ gb468)); replace HB := Aside0.mk (below_step cB0_ hb); clear hb hbox hg; obtain ⟨hcz14_0, hcz14_1, hfz14_0, hfz14_1⟩ := cells2 BK468.out; obtain ⟨Ao15, co15, eo15⟩ := Kd.R_slice HO467.out; subst eo15))
   go_loopg [9] k1 (fun kq v9 w' => ∃ (x9_2 : Int), v9 = .int .i64 x9_2 ∧ Aside0 (laws_FnFeeds.l1 kq t447 (t447.length : Int) x7_1 x9_2 t464 t465 = some r) ∧ Aside0 (kq ≤ k1) ∧ Aside0 (Kd.N k58 58 w' w.heap.size (fun k_ => some k_ ≠ ((.slice Ao15 t465.length co15) : Value).ownBlock ∧ k_ ≠ gb468) (.slice Ao8 t447.length co8) t447) ∧ Aside0 (Kd.R (Kd.int .i64) 2 w' w.heap.size (fun _ => True) (.slice Ao15 t465.length co15) t465) ∧ Aside0 (w'.heap[gb468]? = some (.cells #[.int .i64 t464, (.slice Ao15 t465.length co15)] 42 (0, 0))) ∧ Aside0 (Below w.heap.size w w'))
   case atStart => exact ⟨(0), cs_, H', ⟨Nat.le_refl _⟩, ⟨by refine cN_ ?_; exact Kd.N_mono (Kd.N_far (p := ⟨gb468, 1, none⟩) (Kd.N_far (p := ⟨gb468, 0, none⟩) (Kd.N_mono HO_3.out (fun k_ hk => (⟨hk, hk.2⟩ : _ ∧ k_ ≠ gb468))) (fun _ hk => hk.2) (.int .i64 t464)) (fun _ hk => hk.2) (.slice Ao15 t465.length co15)) (fun _ hk => ⟨hk.1.1.2, hk.1.2⟩)⟩, ⟨by refine cR_ ?_; exact Kd.R_mono (Kd.R_far (p := ⟨gb468, 1, none⟩) (Kd.R_far (p := ⟨gb468, 0, none⟩) (Kd.R_types HO467.out BK468.out (by decide)) (fun _ hk => hk.2) (.int .i64 t464)) (fun _ hk => hk.2) (.slice Ao15 t465.length co15)) (fun _ hk => trivial)⟩, ⟨by refine cO_ ?_; refine blk_put (cs := #[.int .i64 t464, .slice none 0 0]) ?_ 1 _ rfl; refine cO_ ?_; refine blk_put (cs := #[.int .i64 0, .slice none 0 0]) ?_ 0 _ rfl; refine cO_ ?_; exact BK468.out⟩, ⟨cB1_ GE468.out⟩⟩
   case round =>
    clear H'
    try clear c1
    try clear c2
    try clear p2
    try clear c3
    try clear c6
    try clear c6b0
    try clear c6b1
    try clear p6
    try clear c7
    try clear c10
    try clear c10b0
    try clear c12
    try clear hcz14_0
    try clear hcz14_1
    try clear hfz14_0
    try clear hfz14_1
    try clear p2
    try clear p6
    obtain ⟨x9_2, rfl, HA, HK2, HO_3, HO_469001, BK468, HB⟩ := hrel
    cases gk with
    | zero => exact absurd HA.out (by simp [laws_FnFeeds.l1])
    | succ k2 =>
     have H := HA.out
     clear HA
     simp only [laws_FnFeeds.l1] at H
     by_cases c16 : x9_2 < (t465.length : Int)
     ·rw [if_pos c16] at H
      have c16b0 : decide (x9_2 < (t465.length : Int)) = true := decide_eq_true c16
      clear c16
      by_cases c17 : 0 ≤ x9_2
      rotate_left
      ·rw [if_neg c17] at H
       exact absurd H (by simp)
      rw [if_pos c17] at H
      have c17b0 : decide (0 ≤ x9_2) = true := decide_eq_true c17
      clear c17
      obtain ⟨t470, A18, H⟩ := bnd_ H
      try dsimp only at H
      by_cases c19 : t470 = true
      ·subst c19
       rw [if_pos rfl] at H
       have H' := Aside0.mk H
       clear H
       obtain ⟨hcz20_0, hcz20_1, hfz20_0, hfz20_1⟩ := cells2 BK468.out
       have p469 : 0 ≤ (x9_2 : Int) := of_decide_eq_true ca_
       have q469 : x9_2 < (t465.length : Int) := of_decide_eq_true ca_
       obtain ⟨ad469, e469, hx469_0⟩ := Kd.at_int (Kd.R_reads' HO_469001.out).2.2 x9_2 p469 q469
       cases e469
       replace p469 := eq_true p469
       replace q469 := eq_true q469
       go_wp2_with (first | (refine gl_ 20 (some 57) Try.func20 #[.slice Ao8 t447.length co8, .int .i64 x7_1, .int .i64 (rd t465 x9_2)] ?_; (with_reducible refine (impl_FeedsOn.calls k2 _ _ t447 x7_1 (rd t465 x9_2) true _ ?side1 ?side2 A18.out).mono ?_); (case side1 => exact b14_2); (case side2 => exact (Kd.N_reads' HO_3.out).2.1); rintro e w21 ⟨rfl, hb⟩; refine ⟨_, rfl, ?_⟩; replace HO_3 := Aside0.mk (Kd.N_below b14_3 hb); replace HO_469001 := Aside0.mk (Kd.R_below b14_7 hb); replace BK468 := Aside0.mk (blk_below (g := gb468) (o := .cells #[.int .i64 t464, .slice (some ad469) t465.length co15] 42 (0, 0)) b14_5 hb); replace HB := Aside0.mk (below_step b14_4 hb); (try clear hb); (try clear hb2); (try clear hk); (try clear hi)))
       go_roundg k2
       case measure => have := HK1.out; have := HK2.out; omega
       case rel => exact ⟨(wrap64 (x9_2 + 1)), cs_, H', ⟨by have := HK1.out; have := HK2.out; omega⟩, ⟨cN_ HO_3.out⟩, ⟨cR_ HO_469001.out⟩, ⟨cO_ BK468.out⟩, ⟨cB1_ GE468.out⟩⟩
      replace c19 := Bool.eq_false_iff.mpr c19
      subst c19
      rw [if_neg (show ¬ (false = true) by decide)] at H
      obtain rfl := Option.some.inj H
      obtain ⟨hcz22_0, hcz22_1, hfz22_0, hfz22_1⟩ := cells2 BK468.out
      have p469 : 0 ≤ (x9_2 : Int) := of_decide_eq_true ca_
      have q469 : x9_2 < (t465.length : Int) := of_decide_eq_true ca_
      obtain ⟨ad469, e469, hx469_0⟩ := Kd.at_int (Kd.R_reads' HO_469001.out).2.2 x9_2 p469 q469
      cases e469
      replace p469 := eq_true p469
      replace q469 := eq_true q469
      go_wp2_with (first | (refine gl_ 20 (some 57) Try.func20 #[.slice Ao8 t447.length co8, .int .i64 x7_1, .int .i64 (rd t465 x9_2)] ?_; (with_reducible refine (impl_FeedsOn.calls k2 _ _ t447 x7_1 (rd t465 x9_2) false _ ?side1 ?side2 A18.out).mono ?_); (case side1 => exact b14_2); (case side2 => exact (Kd.N_reads' HO_3.out).2.1); rintro e w23 ⟨rfl, hb⟩; refine ⟨_, rfl, ?_⟩; replace HO_3 := Aside0.mk (Kd.N_below b14_3 hb); replace HO_469001 := Aside0.mk (Kd.R_below b14_7 hb); replace BK468 := Aside0.mk (blk_below (g := gb468) (o := .cells #[.int .i64 t464, .slice (some ad469) t465.length co15] 42 (0, 0)) b14_5 hb); replace HB := Aside0.mk (below_step b14_4 hb); (try clear hb); (try clear hb2); (try clear hk); (try clear hi)))
      go_ret
      exact ⟨ce_, cB1_ GE468.out⟩
     rw [if_neg c16] at H
     have c16b0 : decide (x9_2 < (t465.length : Int)) = false := decide_eq_false c16
     clear c16
     have H' := Aside0.mk H
     clear H
     obtain ⟨hcz24_0, hcz24_1, hfz24_0, hfz24_1⟩ := cells2 BK468.out
     go_wp2
     go_loopg [10] k2 (fun kq v10 w' => ∃ (x10_3 : Int), v10 = .int .i64 x10_3 ∧ Aside0 (laws_FnFeeds.l2 kq t447 (t447.length : Int) x7_1 x10_3 = some r) ∧ Aside0 (kq ≤ k2) ∧ Aside0 (Kd.N k58 58 w' w.heap.size (fun k_ => some k_ ≠ ((.slice Ao15 t465.length co15) : Value).ownBlock ∧ k_ ≠ gb468) (.slice Ao8 t447.length co8) t447) ∧ Aside0 (Kd.R (Kd.int .i64) 2 w' w.heap.size (fun _ => True) (.slice Ao15 t465.length co15) t465) ∧ Aside0 (w'.heap[gb468]? = some (.cells #[.int .i64 t464, (.slice Ao15 t465.length co15)] 42 (0, 0))) ∧ Aside0 (Below w.heap.size w w'))
     case atStart => exact ⟨(0), cs_, H', ⟨Nat.le_refl _⟩, ⟨cN_ HO_3.out⟩, ⟨cR_ HO_469001.out⟩, ⟨cO_ BK468.out⟩, ⟨cB1_ GE468.out⟩⟩
     case round =>
      clear H'
      try clear c1
      try clear c2
      try clear p2
      try clear c3
      try clear p4
      try clear q4
      try clear hx4
      try clear c6
      try clear c6b0
      try clear c6b1
      try clear p6
      try clear c7
      try clear c10
      try clear c10b0
      try clear c12
      try clear c16
      try clear c16b0
      try clear c17
      try clear c17b0
      try clear c19
      try clear c20
      try clear c23
      try clear c24
      try clear hcz14_0
      try clear hcz14_1
      try clear hcz20_0
      try clear hcz20_1
      try clear hcz22_0
      try clear hcz22_1
      try clear hcz24_0
      try clear hcz24_1
      try clear hfz14_0
      try clear hfz14_1
      try clear hfz20_0
      try clear hfz20_1
      try clear hfz22_0
      try clear hfz22_1
      try clear hfz24_0
      try clear hfz24_1
      try clear hx469_0
      try clear p2
      try clear p469
      try clear p6
      try clear q469
      obtain ⟨x10_3, rfl, HA, HK3, HO_3, HO_469001, BK468, HB⟩ := hrel
      cases gk with
      | zero => exact absurd HA.out (by simp [laws_FnFeeds.l2])
      | succ k3 =>
       have H := HA.out
       clear HA
       simp only [laws_FnFeeds.l2] at H
       by_cases c25 : x10_3 < (t447.length : Int)
       rotate_left
       ·rw [if_neg c25] at H
        have c25b0 : decide (x10_3 < (t447.length : Int)) = false := decide_eq_false c25
        clear c25
        have H' := Aside0.mk H
        clear H
        go_wp2
        go_roundg k3
        case measure => have := HK1.out; have := HK2.out; have := HK3.out; omega
        case rel => exact ⟨(wrap64 (x7_1 + 1)), cs_, H', ⟨by have := HK1.out; have := HK2.out; have := HK3.out; omega⟩, ⟨by refine cN_ ?_; exact Kd.N_mono HO_3.out (fun _ hk => trivial)⟩, ⟨cB1_ GE468.out⟩⟩
       rw [if_pos c25] at H
       have c25b0 : decide (x10_3 < (t447.length : Int)) = true := decide_eq_true c25
       clear c25
       obtain ⟨t471, A26, H⟩ := bnd_ H
       try dsimp only at H
       by_cases c27 : t471 = true
       rotate_left
       ·replace c27 := Bool.eq_false_iff.mpr c27
        subst c27
        rw [if_neg (show ¬ (false = true) by decide)] at H
        have H' := Aside0.mk H
        clear H
        go_wp2_with (first | (refine gl_ 20 (some 67) Try.func20 #[.slice Ao8 t447.length co8, .int .i64 x7_1, .int .i64 x10_3] ?_; (with_reducible refine (impl_FeedsOn.calls k3 _ _ t447 x7_1 x10_3 false _ ?side1 ?side2 A26.out).mono ?_); (case side1 => exact b14_2); (case side2 => exact (Kd.N_reads' HO_3.out).2.1); rintro e w41 ⟨rfl, hb⟩; refine ⟨_, rfl, ?_⟩; replace HO_3 := Aside0.mk (Kd.N_below b14_3 hb); replace HO_469001 := Aside0.mk (Kd.R_below b14_7 hb); replace BK468 := Aside0.mk (blk_below (g := gb468) (o := .cells #[.int .i64 t464, .slice Ao15 t465.length co15] 42 (0, 0)) b14_5 hb); replace HB := Aside0.mk (below_step b14_4 hb); (try clear hb); (try clear hb2); (try clear hk); (try clear hi)))
        go_roundg k3
        case measure => have := HK1.out; have := HK2.out; have := HK3.out; omega
        case rel => exact ⟨(wrap64 (x10_3 + 1)), cs_, H', ⟨by have := HK1.out; have := HK2.out; have := HK3.out; omega⟩, ⟨cN_ HO_3.out⟩, ⟨cR_ HO_469001.out⟩, ⟨cO_ BK468.out⟩, ⟨cB1_ GE468.out⟩⟩
       subst c27
       rw [if_pos rfl] at H
       by_cases c28 : x7_1 ≥ x10_3
       ·rw [if_pos c28] at H
        have c28b0 : decide (x10_3 ≤ x7_1) = true := decide_eq_true c28
        clear c28
        obtain rfl := Option.some.inj H
        go_wp2_with (first | (refine gl_ 20 (some 67) Try.func20 #[.slice Ao8 t447.length co8, .int .i64 x7_1, .int .i64 x10_3] ?_; (with_reducible refine (impl_FeedsOn.calls k3 _ _ t447 x7_1 x10_3 true _ ?side1 ?side2 A26.out).mono ?_); (case side1 => exact b14_2); (case side2 => exact (Kd.N_reads' HO_3.out).2.1); rintro e w29 ⟨rfl, hb⟩; refine ⟨_, rfl, ?_⟩; replace HO_3 := Aside0.mk (Kd.N_below b14_3 hb); replace HO_469001 := Aside0.mk (Kd.R_below b14_7 hb); replace BK468 := Aside0.mk (blk_below (g := gb468) (o := .cells #[.int .i64 t464, .slice Ao15 t465.length co15] 42 (0, 0)) b14_5 hb); replace HB := Aside0.mk (below_step b14_4 hb); (try clear hb); (try clear hb2); (try clear hk); (try clear hi)))
        go_ret
        exact ⟨ce_, cB1_ GE468.out⟩
       rw [if_neg c28] at H
       have c28b0 : decide (x10_3 ≤ x7_1) = false := decide_eq_false c28
       clear c28
       have H' := Aside0.mk H
       clear H
       go_wp2_with (first | (refine gl_ 20 (some 67) Try.func20 #[.slice Ao8 t447.length co8, .int .i64 x7_1, .int .i64 x10_3] ?_; (with_reducible refine (impl_FeedsOn.calls k3 _ _ t447 x7_1 x10_3 true _ ?side1 ?side2 A26.out).mono ?_); (case side1 => exact b14_2); (case side2 => exact (Kd.N_reads' HO_3.out).2.1); rintro e w30 ⟨rfl, hb⟩; refine ⟨_, rfl, ?_⟩; replace HO_3 := Aside0.mk (Kd.N_below b14_3 hb); replace HO_469001 := Aside0.mk (Kd.R_below b14_7 hb); replace BK468 := Aside0.mk (blk_below (g := gb468) (o := .cells #[.int .i64 t464, .slice Ao15 t465.length co15] 42 (0, 0)) b14_5 hb); replace HB := Aside0.mk (below_step b14_4 hb); (try clear hb); (try clear hb2); (try clear hk); (try clear hi)))
       go_loopg [11] k3 (fun kq v11 w' => ∃ (x11_4 : Int), v11 = .int .i64 x11_4 ∧ Aside0 (laws_FnFeeds.l3 kq t447 (t447.length : Int) x7_1 x10_3 x11_4 = some r) ∧ Aside0 (kq ≤ k3) ∧ Aside0 (Kd.N k58 58 w' w.heap.size (fun k_ => some k_ ≠ ((.slice Ao15 t465.length co15) : Value).ownBlock ∧ k_ ≠ gb468) (.slice Ao8 t447.length co8) t447) ∧ Aside0 (Kd.R (Kd.int .i64) 2 w' w.heap.size (fun _ => True) (.slice Ao15 t465.length co15) t465) ∧ Aside0 (w'.heap[gb468]? = some (.cells #[.int .i64 t464, (.slice Ao15 t465.length co15)] 42 (0, 0))) ∧ Aside0 (Below w.heap.size w w'))
       case atStart => exact ⟨(0), cs_, H', ⟨Nat.le_refl _⟩, ⟨cN_ HO_3.out⟩, ⟨cR_ HO_469001.out⟩, ⟨cO_ BK468.out⟩, ⟨cB1_ GE468.out⟩⟩
       case round =>
        clear H'
        try clear c1
        try clear c2
        try clear p2
        try clear c3
        try clear p4
        try clear q4
        try clear hx4
        try clear c6
        try clear c6b0
        try clear c6b1
        try clear p6
        try clear c7
        try clear c10
        try clear c10b0
        try clear c12
        try clear c16
        try clear c16b0
        try clear c17
        try clear c17b0
        try clear c19
        try clear c20
        try clear c23
        try clear c24
        try clear c25
        try clear c25b0
        try clear c27
        try clear c28
        try clear c28b0
        try clear hcz14_0
        try clear hcz14_1
        try clear hcz20_0
        try clear hcz20_1
        try clear hcz22_0
        try clear hcz22_1
        try clear hcz24_0
        try clear hcz24_1
        try clear hfz14_0
        try clear hfz14_1
        try clear hfz20_0
        try clear hfz20_1
        try clear hfz22_0
        try clear hfz22_1
        try clear hfz24_0
        try clear hfz24_1
        try clear hx469_0
        try clear p2
        try clear p4
        try clear p469
        try clear p6
        try clear q4
        try clear q469
        obtain ⟨x11_4, rfl, HA, HK4, HO_3, HO_469001, BK468, HB⟩ := hrel
        cases gk with
        | zero => exact absurd HA.out (by simp [laws_FnFeeds.l3])
        | succ k4 =>
         have H := HA.out
         clear HA
         simp only [laws_FnFeeds.l3] at H
         by_cases c31 : x11_4 < (t447.length : Int)
         rotate_left
         ·rw [if_neg c31] at H
          have c31b0 : decide (x11_4 < (t447.length : Int)) = false := decide_eq_false c31
          clear c31
          have H' := Aside0.mk H
          clear H
          go_wp2
          go_roundg k4
          case measure => have := HK1.out; have := HK2.out; have := HK3.out; have := HK4.out; omega
          case rel => exact ⟨(wrap64 (x10_3 + 1)), cs_, H', ⟨q14_0⟩, ⟨cN_ HO_3.out⟩, ⟨cR_ HO_469001.out⟩, ⟨cO_ BK468.out⟩, ⟨cB1_ GE468.out⟩⟩
         rw [if_pos c31] at H
         have c31b0 : decide (x11_4 < (t447.length : Int)) = true := decide_eq_true c31
         clear c31
         obtain ⟨t472, A32, H⟩ := bnd_ H
         try dsimp only at H
         by_cases c33 : t472 = true
         ·subst c33
          rw [if_pos rfl] at H
          obtain ⟨t473, A34, H⟩ := bnd_ H
          try dsimp only at H
          by_cases c35 : t473 = true
          ·subst c35
           rw [if_pos rfl] at H
           have H' := Aside0.mk H
           clear H
           go_wp2_with (first | (refine gl_ 20 (some 80) Try.func20 #[.slice Ao8 t447.length co8, .int .i64 x10_3, .int .i64 x11_4] ?_; (with_reducible refine (impl_FeedsOn.calls k4 _ _ t447 x10_3 x11_4 true _ ?side1 ?side2 A32.out).mono ?_); (case side1 => exact b14_2); (case side2 => exact (Kd.N_reads' HO_3.out).2.1); rintro e w36 ⟨rfl, hb⟩; refine ⟨_, rfl, ?_⟩; replace HO_3 := Aside0.mk (Kd.N_below b14_3 hb); replace HO_469001 := Aside0.mk (Kd.R_below b14_7 hb); replace BK468 := Aside0.mk (blk_below (g := gb468) (o := .cells #[.int .i64 t464, .slice Ao15 t465.length co15] 42 (0, 0)) b14_5 hb); replace HB := Aside0.mk (below_step b14_4 hb); (try clear hb); (try clear hb2); (try clear hk); (try clear hi)) | (go_at_call 20; (with_reducible refine (impl_FeedsOn.calls k4 _ _ t447 x7_1 x11_4 true _ ?side1 ?side2 A34.out).mono ?_); (case side1 => exact b14_2); (case side2 => exact (Kd.N_reads' HO_3.out).2.1); rintro e w37 ⟨rfl, hb⟩; replace HO_3 := Aside0.mk (Kd.N_below b14_3 hb); replace HO_469001 := Aside0.mk (Kd.R_below b14_7 hb); replace BK468 := Aside0.mk (blk_below (g := gb468) (o := .cells #[.int .i64 t464, .slice Ao15 t465.length co15] 42 (0, 0)) b14_5 hb); replace HB := Aside0.mk (below_step b14_4 hb); (try clear hb); (try clear hb2); (try clear hk); (try clear hi)))
           go_roundg k4
           case measure => have := HK1.out; have := HK2.out; have := HK3.out; have := HK4.out; omega
           case rel => exact ⟨(wrap64 (x11_4 + 1)), cs_, H', ⟨q14_0⟩, ⟨cN_ HO_3.out⟩, ⟨cR_ HO_469001.out⟩, ⟨cO_ BK468.out⟩, ⟨cB1_ GE468.out⟩⟩
          replace c35 := Bool.eq_false_iff.mpr c35
          subst c35
          rw [if_neg (show ¬ (false = true) by decide)] at H
          obtain rfl := Option.some.inj H
          go_wp2_with (first | (refine gl_ 20 (some 80) Try.func20 #[.slice Ao8 t447.length co8, .int .i64 x10_3, .int .i64 x11_4] ?_; (with_reducible refine (impl_FeedsOn.calls k4 _ _ t447 x10_3 x11_4 true _ ?side1 ?side2 A32.out).mono ?_); (case side1 => exact b14_2); (case side2 => exact (Kd.N_reads' HO_3.out).2.1); rintro e w38 ⟨rfl, hb⟩; refine ⟨_, rfl, ?_⟩; replace HO_3 := Aside0.mk (Kd.N_below b14_3 hb); replace HO_469001 := Aside0.mk (Kd.R_below b14_7 hb); replace BK468 := Aside0.mk (blk_below (g := gb468) (o := .cells #[.int .i64 t464, .slice Ao15 t465.length co15] 42 (0, 0)) b14_5 hb); replace HB := Aside0.mk (below_step b14_4 hb); (try clear hb); (try clear hb2); (try clear hk); (try clear hi)) | (go_at_call 20; (with_reducible refine (impl_FeedsOn.calls k4 _ _ t447 x7_1 x11_4 false _ ?side1 ?side2 A34.out).mono ?_); (case side1 => exact b14_2); (case side2 => exact (Kd.N_reads' HO_3.out).2.1); rintro e w39 ⟨rfl, hb⟩; replace HO_3 := Aside0.mk (Kd.N_below b14_3 hb); replace HO_469001 := Aside0.mk (Kd.R_below b14_7 hb); replace BK468 := Aside0.mk (blk_below (g := gb468) (o := .cells #[.int .i64 t464, .slice Ao15 t465.length co15] 42 (0, 0)) b14_5 hb); replace HB := Aside0.mk (below_step b14_4 hb); (try clear hb); (try clear hb2); (try clear hk); (try clear hi)))
          go_ret
          exact ⟨ce_, cB1_ GE468.out⟩
         replace c33 := Bool.eq_false_iff.mpr c33
         subst c33
         rw [if_neg (show ¬ (false = true) by decide)] at H
         have H' := Aside0.mk H
         clear H
         go_wp2_with (first | (refine gl_ 20 (some 80) Try.func20 #[.slice Ao8 t447.length co8, .int .i64 x10_3, .int .i64 x11_4] ?_; (with_reducible refine (impl_FeedsOn.calls k4 _ _ t447 x10_3 x11_4 false _ ?side1 ?side2 A32.out).mono ?_); (case side1 => exact b14_2); (case side2 => exact (Kd.N_reads' HO_3.out).2.1); rintro e w40 ⟨rfl, hb⟩; refine ⟨_, rfl, ?_⟩; replace HO_3 := Aside0.mk (Kd.N_below b14_3 hb); replace HO_469001 := Aside0.mk (Kd.R_below b14_7 hb); replace BK468 := Aside0.mk (blk_below (g := gb468) (o := .cells #[.int .i64 t464, .slice Ao15 t465.length co15] 42 (0, 0)) b14_5 hb); replace HB := Aside0.mk (below_step b14_4 hb); (try clear hb); (try clear hb2); (try clear hk); (try clear hi)))
         go_roundg k4
         case measure => have := HK1.out; have := HK2.out; have := HK3.out; have := HK4.out; omega
         case rel => exact ⟨(wrap64 (x11_4 + 1)), cs_, H', ⟨q14_0⟩, ⟨cN_ HO_3.out⟩, ⟨cR_ HO_469001.out⟩, ⟨cO_ BK468.out⟩, ⟨cB1_ GE468.out⟩⟩

/-- THE ONE PURE STATEMENT of laws_FnFeeds: yours. -/
def laws_FnFeeds.Pure : Prop := ∀ (l0 : List Int), l0.length ≤ maxLen → l0.length * 1 ≤ 140737488351232 → (∀ x ∈ l0, (Lit.int .u8 x).wf = true) → ∃ k, laws_FnFeeds.f k l0 = some true
theorem laws_FnFeeds.walk (P : laws_FnFeeds.Pure) (a0 : Option Addr) (len0 cap0 : Nat) (z0 : List Int) (w : World) (w0 : (a0 = none ∧ len0 = 0 ∧ cap0 = 0 ∧ z0 = []) ∨ ∃ x, a0 = some x ∧ len0 ≤ cap0 ∧ cap0 ≤ maxLen ∧ z0.length = cap0 ∧ (∀ i, i < z0.length → w.cell? (x.add i) = some (.int .u8 (z0.getD i 0))) ∧ ∀ n ∈ z0, (Lit.int .u8 n).wf = true) (y0 : len0 * 1 ≤ 140737488351232) :
  Calls Try.prog 7 #[.slice a0 len0 cap0] w fun e w' => e = .returned (.bool true) ∧ Below w.heap.size w w' := by
 obtain ⟨l0, rfl, hr0, hm0, hw0, hc0⟩ := ReadsInt.ofRowC w0
 obtain ⟨k, h⟩ := P l0 hm0 y0 hw0
 refine (laws_FnFeeds.calls k _ _ l0 true w (Kd.C_of_reads (d := (0 : Int)) (h1 := fun _ => rfl) hr0) hc0 h).mono ?_
 rintro e w' ⟨rfl, hd⟩
 exact ⟨rfl, hd⟩

end Go.Proofs.Yteibdjkfkcckkaa.PFnFeeds
