-- Written by fprint, a program of this session, out of Lean's own print of the translation. Lean checks it.
import Derived.Test.YteibdjkfkcckkaaDoorShort
import Derived.Test.YteibdjkfkcckkaaDoorPFnExactFormatPlanx0
namespace Go.Proofs.YteibdjkfkcckkaaDoor.PFnExactFormatPlan
open Go.RowKit Go.Proofs.YteibdjkfkcckkaaDoorW.PrintWords Go.Proofs.YteibdjkfkcckkaaDoorW.PrintLast Go.Proofs.YteibdjkfkcckkaaDoorW.PrintMore
attribute [local go_sem] max2_int min2_int max_two min_two max_three min_three max_four min_four   -- for this text's walks alone
set_option linter.unusedVariables false
set_option linter.unusedSimpArgs false

theorem b3_0 {p : Prop} (h : p := by repeat (first | (with_reducible first | exact HB.out | apply below_alloc | apply pw_below_drewN | apply below_drew1) | exact HB.out)) : p := h
theorem b3_1 {p : Prop} (h : p := by first | (with_reducible assumption) | assumption) : p := h
theorem b3_2 {p : Prop} (h : p := by repeat (first | (with_reducible first | exact HB.out | apply below_alloc | apply pw_below_drewN | apply below_drew1 | refine below_set ?_ GE110.out) | exact HB.out)) : p := h
/-! ### spec_l3Width: function 28 -/
def spec_l3Width.f : Nat → List (S35) → Int → Option (Int)
 | 0, _, _ => none
 | k + 1, l0, a1 => if 0 ≤ a1 then (if a1 < (l0.length : Int) then (if ((rd_T35 l0 a1).f0) = 1 then (some ((rd_T35 l0 a1).f3)) else (if ((rd_T35 l0 a1).f0) = 3 then (some (((rd_T35 l0 a1).f6).length : Int)) else (if ((rd_T35 l0 a1).f0) = 6 then ((spec_l3Width.f k l0 ((rd_T35 l0 a1).f1)).bind fun t111 => ((spec_l3Width.f k l0 ((rd_T35 l0 a1).f2)).bind fun t112 => (some (wrap64 ((wrap64 (t111 + t112)) - ((rd_T35 l0 a1).f3)))))) else (if ((rd_T35 l0 a1).f0) = 7 then (some (wrap64 (((rd_T35 l0 a1).f3) + 1))) else (if ((rd_T35 l0 a1).f0) = 8 then (some (wrap64 (((rd_T35 l0 a1).f3) + 1))) else (if ((rd_T35 l0 a1).f0) = 9 then (some (wrap64 (((rd_T35 l0 a1).f3) + 1))) else (if ((rd_T35 l0 a1).f0) = 10 then (some (wrap64 (((rd_T35 l0 a1).f3) + 1))) else ((spec_l3Width.f k l0 ((rd_T35 l0 a1).f1)).bind fun t113 => (some t113))))))))) else (none)) else (none)
theorem spec_l3Width.mono_l : ∀ k, (∀ y0 y1, LeO (spec_l3Width.f k y0 y1) (spec_l3Width.f (k + 1) y0 y1))
 | 0 => fun _ _ r h => by simp [spec_l3Width.f] at h
 | k + 1 => by
  have ih0 := spec_l3Width.mono_l k
  ·intro y0 y1
   unfold spec_l3Width.f
   repeat' first
   | (with_reducible exact ih0 _ _)
   | (with_reducible exact LeO.refl _)
   | (with_reducible exact LeO.none _)
   | (with_reducible refine LeO.ite ?_ ?_)
   | (with_reducible refine LeO.bind ?_ (fun _ => ?_))
   | exact ih0 _ _
   | exact LeO.none _
   | refine LeO.ite ?_ ?_
   | refine LeO.bind ?_ (fun _ => ?_)
theorem spec_l3Width.mono : ∀ a0 a1 k, LeO (spec_l3Width.f k a0 a1) (spec_l3Width.f (k + 1) a0 a1) := by
 intro a0 a1 k
 have ih0 := spec_l3Width.mono_l k
 exact ih0 a0 a1
def spec_l3Width.T8 : Bool × List (List Nat × List Nat) := (true, [([], []), ([], []), ([1], [1]), ([0, 2], [0, 2]), ([], []), ([], []), ([5], [5]), ([4, 6, 3], [4, 6]), ([3, 7], [3, 7]), ([], []), ([9], [9]), ([8, 10], [8, 10]), ([11, 7, 0, 1, 2, 3, 4, 5, 6, 7, 8, 9, 10, 11], [11])])
def spec_l3Width.B8 : List Nat := [0, 0, 2, 7, 0, 0, 32, 127, 255, 0, 512, 2047, 4095]
theorem spec_l3Width.tab8 : rtab .any (opsOf Tryd.f28 8) = spec_l3Width.T8 := by kernel_rfl
theorem spec_l3Width.bits8 : waitsOk spec_l3Width.T8.2 spec_l3Width.B8 = true := by kernel_rfl
set_option maxHeartbeats 8000000 in
set_option maxRecDepth 100000 in
theorem spec_l3Width.calls (k : Nat) : ∀ (A0 : Option Addr) (c0 : Nat) (l0 : List (S35)) (a1 : Int) (r : Int) (w : World) (hr0 : Kd.C k35 w A0 l0.length l0) (hc0 : l0.length ≤ c0) (h : spec_l3Width.f k l0 a1 = some r),
  Calls Tryd.prog 28 #[.slice A0 l0.length c0, .int .i64 a1] w fun e w' => e = .returned (.int .i64 r) ∧ Below w.heap.size w w' := by
 induction k using Nat.strongRecOn with
 | _ k ih =>
 intro A0 c0 l0 a1 r w hr0 hc0 h
 cases k with
 | zero => exact absurd h (by simp [spec_l3Width.f])
 | succ k =>
 simp only [spec_l3Width.f] at h
 have hu35 := Tryd.underlying35
 have HR0 := Aside0.mk hr0
 have HC0 := Aside0.mk hc0
 clear hr0 hc0
 have HB := Aside0.mk (Below.refl w.heap.size w)
 have H : (if 0 ≤ a1 then (if a1 < (l0.length : Int) then (if ((rd_T35 l0 a1).f0) = 1 then (some ((rd_T35 l0 a1).f3)) else (if ((rd_T35 l0 a1).f0) = 3 then (some (((rd_T35 l0 a1).f6).length : Int)) else (if ((rd_T35 l0 a1).f0) = 6 then ((spec_l3Width.f k l0 ((rd_T35 l0 a1).f1)).bind fun t111 => ((spec_l3Width.f k l0 ((rd_T35 l0 a1).f2)).bind fun t112 => (some (wrap64 ((wrap64 (t111 + t112)) - ((rd_T35 l0 a1).f3)))))) else (if ((rd_T35 l0 a1).f0) = 7 then (some (wrap64 (((rd_T35 l0 a1).f3) + 1))) else (if ((rd_T35 l0 a1).f0) = 8 then (some (wrap64 (((rd_T35 l0 a1).f3) + 1))) else (if ((rd_T35 l0 a1).f0) = 9 then (some (wrap64 (((rd_T35 l0 a1).f3) + 1))) else (if ((rd_T35 l0 a1).f0) = 10 then (some (wrap64 (((rd_T35 l0 a1).f3) + 1))) else ((spec_l3Width.f k l0 ((rd_T35 l0 a1).f1)).bind fun t113 => (some t113))))))))) else (none)) else (none)) = some r := h
 clear h
 by_cases c3 : 0 ≤ a1
 ·rw [if_pos c3] at H
  have c3b0 : decide (0 ≤ a1) = true := decide_eq_true c3
  clear c3
  by_cases c4 : a1 < (l0.length : Int)
  ·rw [if_pos c4] at H
   have c4b0 : decide (a1 < (l0.length : Int)) = true := decide_eq_true c4
   clear c4
   by_cases c5 : ((rd_T35 l0 a1).f0) = 1
   ·rw [if_pos c5] at H
    have c5b0 : (((rd_T35 l0 a1).f0) == 1) = true := beq_iff_eq.mpr c5
    have c5b1 : (((rd_T35 l0 a1).f0) != 1) = false := bne_eq_false_iff_eq.mpr c5
    clear c5
    obtain rfl := Option.some.inj H
    have p109 : 0 ≤ (a1 : Int) := of_decide_eq_true b3_1
    have q109 : a1 < (l0.length : Int) := of_decide_eq_true b3_1
    obtain ⟨ad109, A109_6, c109_6, e109, hx109_0, hx109_1, hx109_2, hx109_3, hx109_4, hx109_5, hx109_6, hl109_6, hi109_6⟩ := at_T35 HR0.out a1 p109 q109
    cases e109
    have HR109_6 := Aside0.mk hi109_6
    have HC109_6 := Aside0.mk hl109_6
    clear hi109_6 hl109_6
    replace p109 := eq_true p109
    replace q109 := eq_true q109
    go_enter Tryd.func28, Tryd.ntmps28
    go_wp2_with (first | ((with_reducible refine gate_dst (N := 5) rfl ?_); refine box_event ?hg (N := 5) ?hd (cs := #[.int .i64 0, .int .i64 0, .int .i64 0, .int .i64 0, .int .i64 0, .int .i64 0, .slice none 0 0]) (t := 35) ?hr ?_; (case hd => rfl); (case hg => rfl); (case hr => first | (go_simp; done) | (go_simp; rfl)); intro gb110 hg w6 hbox hb; have n0_ := Aside0.mk (below_step b3_0 hb); have n1_ := Aside0.mk (hbox); have n2_ := Aside0.mk ((by rw [hg]; exact (below_size b3_0) : w.heap.size ≤ gb110)); have n3_ := Aside0.mk ((by rw [hg]; exact (below_size b3_0) : w.heap.size ≤ gb110)); clear HB; have HB := n0_; have BK110 := n1_; have GW110 := n2_; have GE110 := n3_; clear n0_ n1_ n2_ n3_; clear hb hbox hg; obtain ⟨hcz7_0, hcz7_1, hcz7_2, hcz7_3, hcz7_4, hcz7_5, hcz7_6, hfz7_0, hfz7_1, hfz7_2, hfz7_3, hfz7_4, hfz7_5, hfz7_6⟩ := cells7 BK110.out))
    go_ret
    exact ⟨by first | rfl | (simp [errW_none, errW_some] <;> rfl) | (simp [*, errW_none, errW_some] <;> rfl), by repeat (first | (with_reducible first | exact HB.out | apply below_alloc | apply pw_below_drewN | apply below_drew1 | refine below_set ?_ GE110.out) | exact HB.out)⟩
   ·rw [if_neg c5] at H
    have c5b0 : (((rd_T35 l0 a1).f0) == 1) = false := beq_eq_false_iff_ne.mpr c5
    have c5b1 : (((rd_T35 l0 a1).f0) != 1) = true := bne_iff_ne.mpr c5
    by_cases c8 : ((rd_T35 l0 a1).f0) = 3
    ·rw [if_pos c8] at H
     have c8b0 : (((rd_T35 l0 a1).f0) == 3) = true := beq_iff_eq.mpr c8
     have c8b1 : (((rd_T35 l0 a1).f0) != 3) = false := bne_eq_false_iff_eq.mpr c8
     clear c8
     obtain rfl := Option.some.inj H
     have p109 : 0 ≤ (a1 : Int) := of_decide_eq_true b3_1
     have q109 : a1 < (l0.length : Int) := of_decide_eq_true b3_1
     obtain ⟨ad109, A109_6, c109_6, e109, hx109_0, hx109_1, hx109_2, hx109_3, hx109_4, hx109_5, hx109_6, hl109_6, hi109_6⟩ := at_T35 HR0.out a1 p109 q109
     cases e109
     have HR109_6 := Aside0.mk hi109_6
     have HC109_6 := Aside0.mk hl109_6
     clear hi109_6 hl109_6
     replace p109 := eq_true p109
     replace q109 := eq_true q109
     go_enter Tryd.func28, Tryd.ntmps28
     go_wp2_with (first | ((with_reducible refine gate_dst (N := 5) rfl ?_); refine box_event ?hg (N := 5) ?hd (cs := #[.int .i64 0, .int .i64 0, .int .i64 0, .int .i64 0, .int .i64 0, .int .i64 0, .slice none 0 0]) (t := 35) ?hr ?_; (case hd => rfl); (case hg => rfl); (case hr => first | (go_simp; done) | (go_simp; rfl)); intro gb110 hg w9 hbox hb; have n0_ := Aside0.mk (below_step b3_0 hb); have n1_ := Aside0.mk (hbox); have n2_ := Aside0.mk ((by rw [hg]; exact (below_size b3_0) : w.heap.size ≤ gb110)); have n3_ := Aside0.mk ((by rw [hg]; exact (below_size b3_0) : w.heap.size ≤ gb110)); clear HB; have HB := n0_; have BK110 := n1_; have GW110 := n2_; have GE110 := n3_; clear n0_ n1_ n2_ n3_; clear hb hbox hg; obtain ⟨hcz10_0, hcz10_1, hcz10_2, hcz10_3, hcz10_4, hcz10_5, hcz10_6, hfz10_0, hfz10_1, hfz10_2, hfz10_3, hfz10_4, hfz10_5, hfz10_6⟩ := cells7 BK110.out))
     go_ret
     exact ⟨by first | rfl | (simp [errW_none, errW_some] <;> rfl) | (simp [*, errW_none, errW_some] <;> rfl), by repeat (first | (with_reducible first | exact HB.out | apply below_alloc | apply pw_below_drewN | apply below_drew1 | refine below_set ?_ GE110.out) | exact HB.out)⟩
    ·rw [if_neg c8] at H
     have c8b0 : (((rd_T35 l0 a1).f0) == 3) = false := beq_eq_false_iff_ne.mpr c8
     have c8b1 : (((rd_T35 l0 a1).f0) != 3) = true := bne_iff_ne.mpr c8
     by_cases c11 : ((rd_T35 l0 a1).f0) = 6
     ·rw [if_pos c11] at H
      have c11b0 : (((rd_T35 l0 a1).f0) == 6) = true := beq_iff_eq.mpr c11
      have c11b1 : (((rd_T35 l0 a1).f0) != 6) = false := bne_eq_false_iff_eq.mpr c11
      clear c11
      replace H := Option.bind_eq_some_iff.mp H
      obtain ⟨t111, A120, H⟩ := H
      replace H : ((spec_l3Width.f k l0 ((rd_T35 l0 a1).f2)).bind fun t112 => (some (wrap64 ((wrap64 (t111 + t112)) - ((rd_T35 l0 a1).f3))))) = some r := H
      have A12 := Aside0.mk A120
      clear A120
      replace H := Option.bind_eq_some_iff.mp H
      obtain ⟨t112, A130, H⟩ := H
      replace H : (some (wrap64 ((wrap64 (t111 + t112)) - ((rd_T35 l0 a1).f3)))) = some r := H
      have A13 := Aside0.mk A130
      clear A130
      obtain rfl := Option.some.inj H
      have p109 : 0 ≤ (a1 : Int) := of_decide_eq_true b3_1
      have q109 : a1 < (l0.length : Int) := of_decide_eq_true b3_1
      obtain ⟨ad109, A109_6, c109_6, e109, hx109_0, hx109_1, hx109_2, hx109_3, hx109_4, hx109_5, hx109_6, hl109_6, hi109_6⟩ := at_T35 HR0.out a1 p109 q109
      cases e109
      have HR109_6 := Aside0.mk hi109_6
      have HC109_6 := Aside0.mk hl109_6
      clear hi109_6 hl109_6
      replace p109 := eq_true p109
      replace q109 := eq_true q109
      go_enter Tryd.func28, Tryd.ntmps28
      try go_wp2_with (first | ((with_reducible refine gate_dst (N := 5) rfl ?_); refine box_event ?hg (N := 5) ?hd (cs := #[.int .i64 0, .int .i64 0, .int .i64 0, .int .i64 0, .int .i64 0, .int .i64 0, .slice none 0 0]) (t := 35) ?hr ?_; (case hd => rfl); (case hg => rfl); (case hr => first | (go_simp; done) | (go_simp; rfl)); intro gb110 hg w14 hbox hb; have n0_ := Aside0.mk (below_step b3_0 hb); have n1_ := Aside0.mk (hbox); have n2_ := Aside0.mk ((by rw [hg]; exact (below_size b3_0) : w.heap.size ≤ gb110)); have n3_ := Aside0.mk ((by rw [hg]; exact (below_size b3_0) : w.heap.size ≤ gb110)); clear HB; have HB := n0_; have BK110 := n1_; have GW110 := n2_; have GE110 := n3_; clear n0_ n1_ n2_ n3_; clear hb hbox hg; obtain ⟨hcz15_0, hcz15_1, hcz15_2, hcz15_3, hcz15_4, hcz15_5, hcz15_6, hfz15_0, hfz15_1, hfz15_2, hfz15_3, hfz15_4, hfz15_5, hfz15_6⟩ := cells7 BK110.out))
      have n0_ : Aside0 ((((((((w14.setCell ⟨gb110, 0, none⟩ (.int .i64 ((rd_T35 l0 a1).f0))).setCell ⟨gb110, 1, none⟩ (.int .i64 ((rd_T35 l0 a1).f1))).setCell ⟨gb110, 2, none⟩ (.int .i64 ((rd_T35 l0 a1).f2))).setCell ⟨gb110, 3, none⟩ (.int .i64 ((rd_T35 l0 a1).f3))).setCell ⟨gb110, 4, none⟩ (.int .i64 ((rd_T35 l0 a1).f4))).setCell ⟨gb110, 5, none⟩ (.int .i64 ((rd_T35 l0 a1).f5))).setCell ⟨gb110, 6, none⟩ (.slice A109_6 ((rd_T35 l0 a1).f6).length c109_6)).heap[gb110]? = some (.cells #[.int .i64 ((rd_T35 l0 a1).f0), .int .i64 ((rd_T35 l0 a1).f1), .int .i64 ((rd_T35 l0 a1).f2), .int .i64 ((rd_T35 l0 a1).f3), .int .i64 ((rd_T35 l0 a1).f4), .int .i64 ((rd_T35 l0 a1).f5), .slice A109_6 ((rd_T35 l0 a1).f6).length c109_6] 35 (0, 0))) := ⟨by (with_reducible repeat (first | refine blk_drewN ?_ _ | refine blk_drew ?_ | refine blk_alloc ?_ _)); refine blk_put (cs := #[.int .i64 ((rd_T35 l0 a1).f0), .int .i64 ((rd_T35 l0 a1).f1), .int .i64 ((rd_T35 l0 a1).f2), .int .i64 ((rd_T35 l0 a1).f3), .int .i64 ((rd_T35 l0 a1).f4), .int .i64 ((rd_T35 l0 a1).f5), .slice none 0 0]) ?_ 6 _ rfl; (with_reducible repeat (first | refine blk_drewN ?_ _ | refine blk_drew ?_ | refine blk_alloc ?_ _)); refine blk_put (cs := #[.int .i64 ((rd_T35 l0 a1).f0), .int .i64 ((rd_T35 l0 a1).f1), .int .i64 ((rd_T35 l0 a1).f2), .int .i64 ((rd_T35 l0 a1).f3), .int .i64 ((rd_T35 l0 a1).f4), .int .i64 0, .slice none 0 0]) ?_ 5 _ rfl; (with_reducible repeat (first | refine blk_drewN ?_ _ | refine blk_drew ?_ | refine blk_alloc ?_ _)); refine blk_put (cs := #[.int .i64 ((rd_T35 l0 a1).f0), .int .i64 ((rd_T35 l0 a1).f1), .int .i64 ((rd_T35 l0 a1).f2), .int .i64 ((rd_T35 l0 a1).f3), .int .i64 0, .int .i64 0, .slice none 0 0]) ?_ 4 _ rfl; (with_reducible repeat (first | refine blk_drewN ?_ _ | refine blk_drew ?_ | refine blk_alloc ?_ _)); refine blk_put (cs := #[.int .i64 ((rd_T35 l0 a1).f0), .int .i64 ((rd_T35 l0 a1).f1), .int .i64 ((rd_T35 l0 a1).f2), .int .i64 0, .int .i64 0, .int .i64 0, .slice none 0 0]) ?_ 3 _ rfl; (with_reducible repeat (first | refine blk_drewN ?_ _ | refine blk_drew ?_ | refine blk_alloc ?_ _)); refine blk_put (cs := #[.int .i64 ((rd_T35 l0 a1).f0), .int .i64 ((rd_T35 l0 a1).f1), .int .i64 0, .int .i64 0, .int .i64 0, .int .i64 0, .slice none 0 0]) ?_ 2 _ rfl; (with_reducible repeat (first | refine blk_drewN ?_ _ | refine blk_drew ?_ | refine blk_alloc ?_ _)); refine blk_put (cs := #[.int .i64 ((rd_T35 l0 a1).f0), .int .i64 0, .int .i64 0, .int .i64 0, .int .i64 0, .int .i64 0, .slice none 0 0]) ?_ 1 _ rfl; (with_reducible repeat (first | refine blk_drewN ?_ _ | refine blk_drew ?_ | refine blk_alloc ?_ _)); refine blk_put (cs := #[.int .i64 0, .int .i64 0, .int .i64 0, .int .i64 0, .int .i64 0, .int .i64 0, .slice none 0 0]) ?_ 0 _ rfl; (with_reducible repeat (first | refine blk_drewN ?_ _ | refine blk_drew ?_ | refine blk_alloc ?_ _)); exact BK110.out⟩
      have n1_ : Aside0 (Below w.heap.size w (((((((w14.setCell ⟨gb110, 0, none⟩ (.int .i64 ((rd_T35 l0 a1).f0))).setCell ⟨gb110, 1, none⟩ (.int .i64 ((rd_T35 l0 a1).f1))).setCell ⟨gb110, 2, none⟩ (.int .i64 ((rd_T35 l0 a1).f2))).setCell ⟨gb110, 3, none⟩ (.int .i64 ((rd_T35 l0 a1).f3))).setCell ⟨gb110, 4, none⟩ (.int .i64 ((rd_T35 l0 a1).f4))).setCell ⟨gb110, 5, none⟩ (.int .i64 ((rd_T35 l0 a1).f5))).setCell ⟨gb110, 6, none⟩ (.slice A109_6 ((rd_T35 l0 a1).f6).length c109_6))) := ⟨by repeat (first | (with_reducible first | exact HB.out | apply below_alloc | apply pw_below_drewN | apply below_drew1 | refine below_set ?_ GE110.out) | exact HB.out)⟩
      (try clear BK110)
      (try clear HB)
      generalize (((((((w14.setCell ⟨gb110, 0, none⟩ (.int .i64 ((rd_T35 l0 a1).f0))).setCell ⟨gb110, 1, none⟩ (.int .i64 ((rd_T35 l0 a1).f1))).setCell ⟨gb110, 2, none⟩ (.int .i64 ((rd_T35 l0 a1).f2))).setCell ⟨gb110, 3, none⟩ (.int .i64 ((rd_T35 l0 a1).f3))).setCell ⟨gb110, 4, none⟩ (.int .i64 ((rd_T35 l0 a1).f4))).setCell ⟨gb110, 5, none⟩ (.int .i64 ((rd_T35 l0 a1).f5))).setCell ⟨gb110, 6, none⟩ (.slice A109_6 ((rd_T35 l0 a1).f6).length c109_6)) = w16 at n0_ n1_ ⊢
      have BK110 := n0_
      have HB := n1_
      clear n0_ n1_
      have n0_ := Aside0.mk (blk_drew BK110.out)
      have n1_ := Aside0.mk (below_drew1 HB.out)
      clear BK110
      clear HB
      have BK110 := n0_
      have HB := n1_
      clear n0_ n1_
      refine start_ (n := 13) (S := fun w' => w'.cell? ⟨gb110, 0, none⟩ = some (.int .i64 ((rd_T35 l0 a1).f0)) ∧ w'.cell? ⟨gb110, 1, none⟩ = some (.int .i64 ((rd_T35 l0 a1).f1)) ∧ w'.cell? ⟨gb110, 2, none⟩ = some (.int .i64 ((rd_T35 l0 a1).f2)) ∧ w'.cell? ⟨gb110, 3, none⟩ = some (.int .i64 ((rd_T35 l0 a1).f3)) ∧ w'.cell? ⟨gb110, 4, none⟩ = some (.int .i64 ((rd_T35 l0 a1).f4)) ∧ w'.cell? ⟨gb110, 5, none⟩ = some (.int .i64 ((rd_T35 l0 a1).f5)) ∧ w'.cell? ⟨gb110, 6, none⟩ = some (.slice A109_6 ((rd_T35 l0 a1).f6).length c109_6)) (ds := []) (bl 13 0) (by kernel_rfl) rfl rfl ⟨(blk_cell BK110.out 0).trans rfl, (blk_cell BK110.out 1).trans rfl, (blk_cell BK110.out 2).trans rfl, (blk_cell BK110.out 3).trans rfl, (blk_cell BK110.out 4).trans rfl, (blk_cell BK110.out 5).trans rfl, (blk_cell BK110.out 6).trans rfl⟩ (fun hHeld => ?_); refine with_tabW spec_l3Width.tab8 spec_l3Width.bits8 (fun HT_ HW_ => ?_)
      generalize w16.drew = w17 at BK110 HB hHeld ⊢
      refine pu_ 0 (some 23) (bl 13 1) HT_.out rfl ?_
      refine pu_ 1 (some 24) (bl 13 3) HT_.out rfl ?_
      refine pu_ 4 (some 27) (bl 13 19) HT_.out rfl ?_
      refine pu_ 5 (some 28) (bl 13 51) HT_.out rfl ?_
      refine pu_ 9 (some 32) (bl 13 563) HT_.out rfl ?_
      refine tw_ 2 (some 25) (bl 13 567) HT_.out HW_.out rfl hHeld (fun w' s_ => by obtain ⟨s0, s1, s2, s3, s4, s5, s6⟩ := s_; go_simp; with_reducible rfl) ?_
      refine tw_ 6 (some 29) (bl 13 631) HT_.out HW_.out rfl hHeld (fun w' s_ => by obtain ⟨s0, s1, s2, s3, s4, s5, s6⟩ := s_; go_simp; with_reducible rfl) ?_
      refine tw_ 10 (some 33) (bl 13 1655) HT_.out HW_.out rfl hHeld (fun w' s_ => by obtain ⟨s0, s1, s2, s3, s4, s5, s6⟩ := s_; go_simp; with_reducible rfl) ?_
      refine on_ 3 (some 26) (bl 13 1663) HT_.out rfl (fun K hK => ?_)
      refine goes_ Tryd.func28 (by kernel_rfl) rfl #[.slice (some ad109) l0.length c0, .int .i64 ((rd_T35 l0 a1).f1)] (by rfl) rfl rfl (by (try simp only [List.map_toArray, List.map_cons, List.map_nil]); first | done | rfl | (simp only [List.length_drop, List.length_take]; rfl)) ?_
      with_reducible refine (ih k (by omega) _ _ l0 ((rd_T35 l0 a1).f1) t111 _ ?side1 ?side2 A12.out).mono ?_
      (case side1 => exact (by repeat (first | exact (Kd.C_below HR0.out HB.out) | (with_reducible refine Kd.C_alloc ?_ _) | (with_reducible refine Kd.C_drewN ?_ _) | (with_reducible refine Kd.C_drew ?_))))
      (case side2 => exact HC0.out)
      rintro e w18 ⟨rfl, hb⟩
      refine ⟨_, rfl, ?_⟩
      have n0_ := Aside0.mk (blk_below (g := gb110) (o := .cells #[.int .i64 ((rd_T35 l0 a1).f0), .int .i64 ((rd_T35 l0 a1).f1), .int .i64 ((rd_T35 l0 a1).f2), .int .i64 ((rd_T35 l0 a1).f3), .int .i64 ((rd_T35 l0 a1).f4), .int .i64 ((rd_T35 l0 a1).f5), .slice A109_6 ((rd_T35 l0 a1).f6).length c109_6] 35 (0, 0)) (by (with_reducible repeat (first | refine blk_drewN ?_ _ | refine blk_drew ?_ | refine blk_alloc ?_ _)); exact BK110.out) hb)
      have n1_ := Aside0.mk (below_step b3_2 hb)
      clear BK110
      clear HB
      have BK110 := n0_
      have HB := n1_
      clear n0_ n1_
      (try clear hb)
      (try clear hb2)
      (try clear hk)
      (try clear hi)
      refine hK.out _ _ ⟨(blk_cell BK110.out 0).trans rfl, (blk_cell BK110.out 1).trans rfl, (blk_cell BK110.out 2).trans rfl, (blk_cell BK110.out 3).trans rfl, (blk_cell BK110.out 4).trans rfl, (blk_cell BK110.out 5).trans rfl, (blk_cell BK110.out 6).trans rfl⟩ (fun hHeld => ?_)
      clear hK K
      refine norm_ (a' := ?_) ?_ ?_
      rotate_left
      ·show Act.put _ (some 26) _ = _
       simp only [Act.put, List.setIfInBounds_toArray, List.set_cons_zero, List.set_cons_succ, i64_w, i32_w]
       rfl
      refine on_ 7 (some 30) (bl 13 1791) HT_.out rfl (fun K hK => ?_)
      refine goes_ Tryd.func28 (by kernel_rfl) rfl #[.slice (some ad109) l0.length c0, .int .i64 ((rd_T35 l0 a1).f2)] (by rfl) rfl rfl (by (try simp only [List.map_toArray, List.map_cons, List.map_nil]); first | done | rfl | (simp only [List.length_drop, List.length_take]; rfl)) ?_
      with_reducible refine (ih k (by omega) _ _ l0 ((rd_T35 l0 a1).f2) t112 _ ?side1 ?side2 A13.out).mono ?_
      (case side1 => exact (by repeat (first | exact (Kd.C_below HR0.out HB.out) | (with_reducible refine Kd.C_alloc ?_ _) | (with_reducible refine Kd.C_drewN ?_ _) | (with_reducible refine Kd.C_drew ?_))))
      (case side2 => exact HC0.out)
      rintro e w19 ⟨rfl, hb⟩
      refine ⟨_, rfl, ?_⟩
      have n0_ := Aside0.mk (blk_below (g := gb110) (o := .cells #[.int .i64 ((rd_T35 l0 a1).f0), .int .i64 ((rd_T35 l0 a1).f1), .int .i64 ((rd_T35 l0 a1).f2), .int .i64 ((rd_T35 l0 a1).f3), .int .i64 ((rd_T35 l0 a1).f4), .int .i64 ((rd_T35 l0 a1).f5), .slice A109_6 ((rd_T35 l0 a1).f6).length c109_6] 35 (0, 0)) (by (with_reducible repeat (first | refine blk_drewN ?_ _ | refine blk_drew ?_ | refine blk_alloc ?_ _)); exact BK110.out) hb)
      have n1_ := Aside0.mk (below_step b3_2 hb)
      clear BK110
      clear HB
      have BK110 := n0_
      have HB := n1_
      clear n0_ n1_
      (try clear hb)
      (try clear hb2)
      (try clear hk)
      (try clear hi)
      refine hK.out _ _ ⟨(blk_cell BK110.out 0).trans rfl, (blk_cell BK110.out 1).trans rfl, (blk_cell BK110.out 2).trans rfl, (blk_cell BK110.out 3).trans rfl, (blk_cell BK110.out 4).trans rfl, (blk_cell BK110.out 5).trans rfl, (blk_cell BK110.out 6).trans rfl⟩ (fun hHeld => ?_)
      clear hK K
      refine norm_ (a' := ?_) ?_ ?_
      rotate_left
      ·show Act.put _ (some 30) _ = _
       simp only [Act.put, List.setIfInBounds_toArray, List.set_cons_zero, List.set_cons_succ, i64_w, i32_w]
       rfl
      refine pu_ 8 (some 31) (bl 13 2047) HT_.out rfl ?_
      refine pu_ 11 (some 34) (bl 13 4095) HT_.out rfl ?_
      refine pu_ 12 (some 4) (bl 13 8191) HT_.out rfl ?_
      refine done_ (done_of HT_.out (by kernel_rfl)) ?_
      try go_wp2
      go_ret
      exact ⟨by first | rfl | (simp [errW_none, errW_some] <;> rfl) | (simp [*, errW_none, errW_some] <;> rfl), by repeat (first | (with_reducible first | exact HB.out | apply below_alloc | apply pw_below_drewN | apply below_drew1 | refine below_set ?_ GE110.out) | exact HB.out)⟩
     ·rw [if_neg c11] at H
      have c11b0 : (((rd_T35 l0 a1).f0) == 6) = false := beq_eq_false_iff_ne.mpr c11
      have c11b1 : (((rd_T35 l0 a1).f0) != 6) = true := bne_iff_ne.mpr c11
      by_cases c20 : ((rd_T35 l0 a1).f0) = 7
      ·rw [if_pos c20] at H
       have c20b0 : (((rd_T35 l0 a1).f0) == 7) = true := beq_iff_eq.mpr c20
       have c20b1 : (((rd_T35 l0 a1).f0) != 7) = false := bne_eq_false_iff_eq.mpr c20
       clear c20
       obtain rfl := Option.some.inj H
       have p109 : 0 ≤ (a1 : Int) := of_decide_eq_true b3_1
       have q109 : a1 < (l0.length : Int) := of_decide_eq_true b3_1
       obtain ⟨ad109, A109_6, c109_6, e109, hx109_0, hx109_1, hx109_2, hx109_3, hx109_4, hx109_5, hx109_6, hl109_6, hi109_6⟩ := at_T35 HR0.out a1 p109 q109
       cases e109
       have HR109_6 := Aside0.mk hi109_6
       have HC109_6 := Aside0.mk hl109_6
       clear hi109_6 hl109_6
       replace p109 := eq_true p109
       replace q109 := eq_true q109
       go_enter Tryd.func28, Tryd.ntmps28
       go_wp2_with (first | ((with_reducible refine gate_dst (N := 5) rfl ?_); refine box_event ?hg (N := 5) ?hd (cs := #[.int .i64 0, .int .i64 0, .int .i64 0, .int .i64 0, .int .i64 0, .int .i64 0, .slice none 0 0]) (t := 35) ?hr ?_; (case hd => rfl); (case hg => rfl); (case hr => first | (go_simp; done) | (go_simp; rfl)); intro gb110 hg w21 hbox hb; have n0_ := Aside0.mk (below_step b3_0 hb); have n1_ := Aside0.mk (hbox); have n2_ := Aside0.mk ((by rw [hg]; exact (below_size b3_0) : w.heap.size ≤ gb110)); have n3_ := Aside0.mk ((by rw [hg]; exact (below_size b3_0) : w.heap.size ≤ gb110)); clear HB; have HB := n0_; have BK110 := n1_; have GW110 := n2_; have GE110 := n3_; clear n0_ n1_ n2_ n3_; clear hb hbox hg; obtain ⟨hcz22_0, hcz22_1, hcz22_2, hcz22_3, hcz22_4, hcz22_5, hcz22_6, hfz22_0, hfz22_1, hfz22_2, hfz22_3, hfz22_4, hfz22_5, hfz22_6⟩ := cells7 BK110.out))
       go_ret
       exact ⟨by first | rfl | (simp [errW_none, errW_some] <;> rfl) | (simp [*, errW_none, errW_some] <;> rfl), by repeat (first | (with_reducible first | exact HB.out | apply below_alloc | apply pw_below_drewN | apply below_drew1 | refine below_set ?_ GE110.out) | exact HB.out)⟩
      ·rw [if_neg c20] at H
       have c20b0 : (((rd_T35 l0 a1).f0) == 7) = false := beq_eq_false_iff_ne.mpr c20
       have c20b1 : (((rd_T35 l0 a1).f0) != 7) = true := bne_iff_ne.mpr c20
       by_cases c23 : ((rd_T35 l0 a1).f0) = 8
       ·rw [if_pos c23] at H
        have c23b0 : (((rd_T35 l0 a1).f0) == 8) = true := beq_iff_eq.mpr c23
        have c23b1 : (((rd_T35 l0 a1).f0) != 8) = false := bne_eq_false_iff_eq.mpr c23
        clear c23
        obtain rfl := Option.some.inj H
        have p109 : 0 ≤ (a1 : Int) := of_decide_eq_true b3_1
        have q109 : a1 < (l0.length : Int) := of_decide_eq_true b3_1
        obtain ⟨ad109, A109_6, c109_6, e109, hx109_0, hx109_1, hx109_2, hx109_3, hx109_4, hx109_5, hx109_6, hl109_6, hi109_6⟩ := at_T35 HR0.out a1 p109 q109
        cases e109
        have HR109_6 := Aside0.mk hi109_6
        have HC109_6 := Aside0.mk hl109_6
        clear hi109_6 hl109_6
        replace p109 := eq_true p109
        replace q109 := eq_true q109
        go_enter Tryd.func28, Tryd.ntmps28
        go_wp2_with (first | ((with_reducible refine gate_dst (N := 5) rfl ?_); refine box_event ?hg (N := 5) ?hd (cs := #[.int .i64 0, .int .i64 0, .int .i64 0, .int .i64 0, .int .i64 0, .int .i64 0, .slice none 0 0]) (t := 35) ?hr ?_; (case hd => rfl); (case hg => rfl); (case hr => first | (go_simp; done) | (go_simp; rfl)); intro gb110 hg w24 hbox hb; have n0_ := Aside0.mk (below_step b3_0 hb); have n1_ := Aside0.mk (hbox); have n2_ := Aside0.mk ((by rw [hg]; exact (below_size b3_0) : w.heap.size ≤ gb110)); have n3_ := Aside0.mk ((by rw [hg]; exact (below_size b3_0) : w.heap.size ≤ gb110)); clear HB; have HB := n0_; have BK110 := n1_; have GW110 := n2_; have GE110 := n3_; clear n0_ n1_ n2_ n3_; clear hb hbox hg; obtain ⟨hcz25_0, hcz25_1, hcz25_2, hcz25_3, hcz25_4, hcz25_5, hcz25_6, hfz25_0, hfz25_1, hfz25_2, hfz25_3, hfz25_4, hfz25_5, hfz25_6⟩ := cells7 BK110.out))
        go_ret
        exact ⟨by first | rfl | (simp [errW_none, errW_some] <;> rfl) | (simp [*, errW_none, errW_some] <;> rfl), by repeat (first | (with_reducible first | exact HB.out | apply below_alloc | apply pw_below_drewN | apply below_drew1 | refine below_set ?_ GE110.out) | exact HB.out)⟩
       ·rw [if_neg c23] at H
        have c23b0 : (((rd_T35 l0 a1).f0) == 8) = false := beq_eq_false_iff_ne.mpr c23
        have c23b1 : (((rd_T35 l0 a1).f0) != 8) = true := bne_iff_ne.mpr c23
        by_cases c26 : ((rd_T35 l0 a1).f0) = 9
        ·rw [if_pos c26] at H
         have c26b0 : (((rd_T35 l0 a1).f0) == 9) = true := beq_iff_eq.mpr c26
         have c26b1 : (((rd_T35 l0 a1).f0) != 9) = false := bne_eq_false_iff_eq.mpr c26
         clear c26
         obtain rfl := Option.some.inj H
         have p109 : 0 ≤ (a1 : Int) := of_decide_eq_true b3_1
         have q109 : a1 < (l0.length : Int) := of_decide_eq_true b3_1
         obtain ⟨ad109, A109_6, c109_6, e109, hx109_0, hx109_1, hx109_2, hx109_3, hx109_4, hx109_5, hx109_6, hl109_6, hi109_6⟩ := at_T35 HR0.out a1 p109 q109
         cases e109
         have HR109_6 := Aside0.mk hi109_6
         have HC109_6 := Aside0.mk hl109_6
         clear hi109_6 hl109_6
         replace p109 := eq_true p109
         replace q109 := eq_true q109
         go_enter Tryd.func28, Tryd.ntmps28
         go_wp2_with (first | ((with_reducible refine gate_dst (N := 5) rfl ?_); refine box_event ?hg (N := 5) ?hd (cs := #[.int .i64 0, .int .i64 0, .int .i64 0, .int .i64 0, .int .i64 0, .int .i64 0, .slice none 0 0]) (t := 35) ?hr ?_; (case hd => rfl); (case hg => rfl); (case hr => first | (go_simp; done) | (go_simp; rfl)); intro gb110 hg w27 hbox hb; have n0_ := Aside0.mk (below_step b3_0 hb); have n1_ := Aside0.mk (hbox); have n2_ := Aside0.mk ((by rw [hg]; exact (below_size b3_0) : w.heap.size ≤ gb110)); have n3_ := Aside0.mk ((by rw [hg]; exact (below_size b3_0) : w.heap.size ≤ gb110)); clear HB; have HB := n0_; have BK110 := n1_; have GW110 := n2_; have GE110 := n3_; clear n0_ n1_ n2_ n3_; clear hb hbox hg; obtain ⟨hcz28_0, hcz28_1, hcz28_2, hcz28_3, hcz28_4, hcz28_5, hcz28_6, hfz28_0, hfz28_1, hfz28_2, hfz28_3, hfz28_4, hfz28_5, hfz28_6⟩ := cells7 BK110.out))
         go_ret
         exact ⟨by first | rfl | (simp [errW_none, errW_some] <;> rfl) | (simp [*, errW_none, errW_some] <;> rfl), by repeat (first | (with_reducible first | exact HB.out | apply below_alloc | apply pw_below_drewN | apply below_drew1 | refine below_set ?_ GE110.out) | exact HB.out)⟩
        ·rw [if_neg c26] at H
         have c26b0 : (((rd_T35 l0 a1).f0) == 9) = false := beq_eq_false_iff_ne.mpr c26
         have c26b1 : (((rd_T35 l0 a1).f0) != 9) = true := bne_iff_ne.mpr c26
         by_cases c29 : ((rd_T35 l0 a1).f0) = 10
         ·rw [if_pos c29] at H
          have c29b0 : (((rd_T35 l0 a1).f0) == 10) = true := beq_iff_eq.mpr c29
          have c29b1 : (((rd_T35 l0 a1).f0) != 10) = false := bne_eq_false_iff_eq.mpr c29
          clear c29
          obtain rfl := Option.some.inj H
          have p109 : 0 ≤ (a1 : Int) := of_decide_eq_true b3_1
          have q109 : a1 < (l0.length : Int) := of_decide_eq_true b3_1
          obtain ⟨ad109, A109_6, c109_6, e109, hx109_0, hx109_1, hx109_2, hx109_3, hx109_4, hx109_5, hx109_6, hl109_6, hi109_6⟩ := at_T35 HR0.out a1 p109 q109
          cases e109
          have HR109_6 := Aside0.mk hi109_6
          have HC109_6 := Aside0.mk hl109_6
          clear hi109_6 hl109_6
          replace p109 := eq_true p109
          replace q109 := eq_true q109
          go_enter Tryd.func28, Tryd.ntmps28
          go_wp2_with (first | ((with_reducible refine gate_dst (N := 5) rfl ?_); refine box_event ?hg (N := 5) ?hd (cs := #[.int .i64 0, .int .i64 0, .int .i64 0, .int .i64 0, .int .i64 0, .int .i64 0, .slice none 0 0]) (t := 35) ?hr ?_; (case hd => rfl); (case hg => rfl); (case hr => first | (go_simp; done) | (go_simp; rfl)); intro gb110 hg w30 hbox hb; have n0_ := Aside0.mk (below_step b3_0 hb); have n1_ := Aside0.mk (hbox); have n2_ := Aside0.mk ((by rw [hg]; exact (below_size b3_0) : w.heap.size ≤ gb110)); have n3_ := Aside0.mk ((by rw [hg]; exact (below_size b3_0) : w.heap.size ≤ gb110)); clear HB; have HB := n0_; have BK110 := n1_; have GW110 := n2_; have GE110 := n3_; clear n0_ n1_ n2_ n3_; clear hb hbox hg; obtain ⟨hcz31_0, hcz31_1, hcz31_2, hcz31_3, hcz31_4, hcz31_5, hcz31_6, hfz31_0, hfz31_1, hfz31_2, hfz31_3, hfz31_4, hfz31_5, hfz31_6⟩ := cells7 BK110.out))
          go_ret
          exact ⟨by first | rfl | (simp [errW_none, errW_some] <;> rfl) | (simp [*, errW_none, errW_some] <;> rfl), by repeat (first | (with_reducible first | exact HB.out | apply below_alloc | apply pw_below_drewN | apply below_drew1 | refine below_set ?_ GE110.out) | exact HB.out)⟩
         ·rw [if_neg c29] at H
          have c29b0 : (((rd_T35 l0 a1).f0) == 10) = false := beq_eq_false_iff_ne.mpr c29
          have c29b1 : (((rd_T35 l0 a1).f0) != 10) = true := bne_iff_ne.mpr c29
          replace H := Option.bind_eq_some_iff.mp H
          obtain ⟨t113, A320, H⟩ := H
          replace H : (some t113) = some r := H
          have A32 := Aside0.mk A320
          clear A320
          obtain rfl := Option.some.inj H
          have p109 : 0 ≤ (a1 : Int) := of_decide_eq_true b3_1
          have q109 : a1 < (l0.length : Int) := of_decide_eq_true b3_1
          obtain ⟨ad109, A109_6, c109_6, e109, hx109_0, hx109_1, hx109_2, hx109_3, hx109_4, hx109_5, hx109_6, hl109_6, hi109_6⟩ := at_T35 HR0.out a1 p109 q109
          cases e109
          have HR109_6 := Aside0.mk hi109_6
          have HC109_6 := Aside0.mk hl109_6
          clear hi109_6 hl109_6
          replace p109 := eq_true p109
          replace q109 := eq_true q109
          go_enter Tryd.func28, Tryd.ntmps28
          go_wp2_with (first | ((with_reducible refine gate_dst (N := 5) rfl ?_); refine box_event ?hg (N := 5) ?hd (cs := #[.int .i64 0, .int .i64 0, .int .i64 0, .int .i64 0, .int .i64 0, .int .i64 0, .slice none 0 0]) (t := 35) ?hr ?_; (case hd => rfl); (case hg => rfl); (case hr => first | (go_simp; done) | (go_simp; rfl)); intro gb110 hg w33 hbox hb; have n0_ := Aside0.mk (below_step b3_0 hb); have n1_ := Aside0.mk (hbox); have n2_ := Aside0.mk ((by rw [hg]; exact (below_size b3_0) : w.heap.size ≤ gb110)); have n3_ := Aside0.mk ((by rw [hg]; exact (below_size b3_0) : w.heap.size ≤ gb110)); clear HB; have HB := n0_; have BK110 := n1_; have GW110 := n2_; have GE110 := n3_; clear n0_ n1_ n2_ n3_; clear hb hbox hg; obtain ⟨hcz34_0, hcz34_1, hcz34_2, hcz34_3, hcz34_4, hcz34_5, hcz34_6, hfz34_0, hfz34_1, hfz34_2, hfz34_3, hfz34_4, hfz34_5, hfz34_6⟩ := cells7 BK110.out) | ((with_reducible refine gate_callee (f := 28) rfl ?_); refine goesL_ (some 46) rfl rfl Tryd.func28 (by kernel_rfl) rfl #[.slice (some ad109) l0.length c0, .int .i64 ((rd_T35 l0 a1).f1)] rfl (by (try simp only [List.map_toArray, List.map_cons, List.map_nil]); first | done | rfl | (simp only [List.length_drop, List.length_take]; rfl)) ?_; (with_reducible refine (ih k (by omega) _ _ l0 ((rd_T35 l0 a1).f1) t113 _ ?side1 ?side2 A32.out).mono ?_); (case side1 => exact (by exact Kd.C_below HR0.out b3_2)); (case side2 => exact HC0.out); rintro e w35 ⟨rfl, hb⟩; refine ⟨_, rfl, ?_⟩; have n0_ := Aside0.mk (blk_below (g := gb110) (o := .cells #[.int .i64 ((rd_T35 l0 a1).f0), .int .i64 ((rd_T35 l0 a1).f1), .int .i64 ((rd_T35 l0 a1).f2), .int .i64 ((rd_T35 l0 a1).f3), .int .i64 ((rd_T35 l0 a1).f4), .int .i64 ((rd_T35 l0 a1).f5), .slice A109_6 ((rd_T35 l0 a1).f6).length c109_6] 35 (0, 0)) (by (with_reducible repeat (first | refine blk_drewN ?_ _ | refine blk_drew ?_ | refine blk_alloc ?_ _)); refine blk_put (cs := #[.int .i64 ((rd_T35 l0 a1).f0), .int .i64 ((rd_T35 l0 a1).f1), .int .i64 ((rd_T35 l0 a1).f2), .int .i64 ((rd_T35 l0 a1).f3), .int .i64 ((rd_T35 l0 a1).f4), .int .i64 ((rd_T35 l0 a1).f5), .slice none 0 0]) ?_ 6 _ rfl; (with_reducible repeat (first | refine blk_drewN ?_ _ | refine blk_drew ?_ | refine blk_alloc ?_ _)); refine blk_put (cs := #[.int .i64 ((rd_T35 l0 a1).f0), .int .i64 ((rd_T35 l0 a1).f1), .int .i64 ((rd_T35 l0 a1).f2), .int .i64 ((rd_T35 l0 a1).f3), .int .i64 ((rd_T35 l0 a1).f4), .int .i64 0, .slice none 0 0]) ?_ 5 _ rfl; (with_reducible repeat (first | refine blk_drewN ?_ _ | refine blk_drew ?_ | refine blk_alloc ?_ _)); refine blk_put (cs := #[.int .i64 ((rd_T35 l0 a1).f0), .int .i64 ((rd_T35 l0 a1).f1), .int .i64 ((rd_T35 l0 a1).f2), .int .i64 ((rd_T35 l0 a1).f3), .int .i64 0, .int .i64 0, .slice none 0 0]) ?_ 4 _ rfl; (with_reducible repeat (first | refine blk_drewN ?_ _ | refine blk_drew ?_ | refine blk_alloc ?_ _)); refine blk_put (cs := #[.int .i64 ((rd_T35 l0 a1).f0), .int .i64 ((rd_T35 l0 a1).f1), .int .i64 ((rd_T35 l0 a1).f2), .int .i64 0, .int .i64 0, .int .i64 0, .slice none 0 0]) ?_ 3 _ rfl; (with_reducible repeat (first | refine blk_drewN ?_ _ | refine blk_drew ?_ | refine blk_alloc ?_ _)); refine blk_put (cs := #[.int .i64 ((rd_T35 l0 a1).f0), .int .i64 ((rd_T35 l0 a1).f1), .int .i64 0, .int .i64 0, .int .i64 0, .int .i64 0, .slice none 0 0]) ?_ 2 _ rfl; (with_reducible repeat (first | refine blk_drewN ?_ _ | refine blk_drew ?_ | refine blk_alloc ?_ _)); refine blk_put (cs := #[.int .i64 ((rd_T35 l0 a1).f0), .int .i64 0, .int .i64 0, .int .i64 0, .int .i64 0, .int .i64 0, .slice none 0 0]) ?_ 1 _ rfl; (with_reducible repeat (first | refine blk_drewN ?_ _ | refine blk_drew ?_ | refine blk_alloc ?_ _)); refine blk_put (cs := #[.int .i64 0, .int .i64 0, .int .i64 0, .int .i64 0, .int .i64 0, .int .i64 0, .slice none 0 0]) ?_ 0 _ rfl; (with_reducible repeat (first | refine blk_drewN ?_ _ | refine blk_drew ?_ | refine blk_alloc ?_ _)); exact BK110.out) hb); have n1_ := Aside0.mk (below_step b3_2 hb); clear BK110; clear HB; have BK110 := n0_; have HB := n1_; clear n0_ n1_; (try clear hb); (try clear hb2); (try clear hk); (try clear hi)))
          go_ret
          exact ⟨by first | rfl | (simp [errW_none, errW_some] <;> rfl) | (simp [*, errW_none, errW_some] <;> rfl), by repeat (first | (with_reducible first | exact HB.out | apply below_alloc | apply pw_below_drewN | apply below_drew1 | refine below_set ?_ GE110.out) | exact HB.out)⟩
  ·rw [if_neg c4] at H
   exact absurd H (by simp)
 ·rw [if_neg c3] at H
  exact absurd H (by simp)

/-! ### spec_l1Min: function 29 -/
def spec_l1Min.f (a0 : Int) (a1 : Int) : Option (Int) := if a0 < a1 then (some a0) else (some a1)
set_option maxHeartbeats 8000000 in
set_option maxRecDepth 100000 in
theorem spec_l1Min.calls (a0 : Int) (a1 : Int) (r : Int) (w : World) (h : spec_l1Min.f a0 a1 = some r) :
  Calls Tryd.prog 29 #[.int .i64 a0, .int .i64 a1] w fun e w' => e = .returned (.int .i64 r) ∧ Drawn0 w w' := by
 have H : (if a0 < a1 then (some a0) else (some a1)) = some r := h
 clear h
 by_cases c3 : a0 < a1
 ·rw [if_pos c3] at H
  have c3b0 : decide (a0 < a1) = true := decide_eq_true c3
  clear c3
  obtain rfl := Option.some.inj H
  go_enter Tryd.func29, Tryd.ntmps29
  go_wp2
  go_ret
  exact ⟨by first | rfl | (simp; done) | (simp [*]; done), by repeat (first | exact Drawn0.refl _ | apply Drawn0.step)⟩
 ·rw [if_neg c3] at H
  have c3b0 : decide (a0 < a1) = false := decide_eq_false c3
  clear c3
  obtain rfl := Option.some.inj H
  go_enter Tryd.func29, Tryd.ntmps29
  go_wp2
  go_ret
  exact ⟨by first | rfl | (simp; done) | (simp [*]; done), by repeat (first | exact Drawn0.refl _ | apply Drawn0.step)⟩

end Go.Proofs.YteibdjkfkcckkaaDoor.PFnExactFormatPlan
