-- Written by fprint, a program of this session, out of Lean's own print of the translation. Lean checks it.
import Derived.Test.YteibdjkfkcckkaaDoorShort
import Derived.Test.YteibdjkfkcckkaaDoorPFnExactFormatPlanx0
import Derived.Test.YteibdjkfkcckkaaDoorPFnExactFormatPlanx1
import Derived.Test.YteibdjkfkcckkaaDoorPFnExactFormatPlanx7
import Derived.Test.YteibdjkfkcckkaaDoorPFnExactFormatPlanx13
namespace Go.Proofs.YteibdjkfkcckkaaDoor.PFnExactFormatPlan
open Go.RowKit Go.Proofs.YteibdjkfkcckkaaDoorW.PrintWords Go.Proofs.YteibdjkfkcckkaaDoorW.PrintLast Go.Proofs.YteibdjkfkcckkaaDoorW.PrintMore
attribute [local go_sem] max2_int min2_int max_two min_two max_three min_three max_four min_four   -- for this text's walks alone
set_option linter.unusedVariables false
set_option linter.unusedSimpArgs false

theorem b14_0 {p : Prop} (h : p := by repeat (first | (with_reducible first | exact HB.out | apply below_alloc | apply pw_below_drewN | apply below_drew1) | exact HB.out)) : p := h
theorem b14_1 {p : Prop} (h : p := by (try simp only [List.map_toArray, List.map_cons, List.map_nil]); first | done | rfl | (simp only [List.length_drop, List.length_take]; rfl)) : p := h
theorem b14_2 {p : Prop} (h : p := by (with_reducible repeat (first | apply Kd.S_alloc | apply Kd.S_drewN | apply Kd.S_drew)); exact HO348.out) : p := h
theorem b14_3 {p : Prop} (h : p := by repeat (first | exact (Kd.C_below HR0.out HB.out) | (with_reducible refine Kd.C_alloc ?_ _) | (with_reducible refine Kd.C_drewN ?_ _) | (with_reducible refine Kd.C_drew ?_))) : p := h
theorem b14_4 {p : Prop} (h : p := by (with_reducible repeat (first | apply Kd.S_alloc | apply Kd.S_drewN | apply Kd.S_drew)); exact HO352.out) : p := h
theorem b14_5 {p : Prop} (h : p := by repeat (first | exact (Kd.S_reads' HO352.out).2.2 | (with_reducible refine Kd.C_alloc ?_ _) | (with_reducible refine Kd.C_drewN ?_ _) | (with_reducible refine Kd.C_drew ?_))) : p := h
theorem b14_6 {p : Prop} (h : p := by repeat (first | exact HR0.out | (with_reducible refine Kd.C_alloc ?_ _) | (with_reducible refine Kd.C_drewN ?_ _) | (with_reducible refine Kd.C_drew ?_))) : p := h
/-! ### laws_eqNodeS: function 8 -/
def laws_eqNodeS.l0 : Nat → List (S35) → List (S35) → Int → Option (Bool)
 | 0, _, _, _ => none
 | k + 1, x0, x1, x5 => if x5 < (x0.length : Int) then (if 0 ≤ x5 then (if x5 < (x1.length : Int) then ((laws_eqNode.f k ((rd_T35 x0 x5).f0) ((rd_T35 x0 x5).f1) ((rd_T35 x0 x5).f2) ((rd_T35 x0 x5).f3) ((rd_T35 x0 x5).f4) ((rd_T35 x0 x5).f5) ((rd_T35 x0 x5).f6) ((rd_T35 x1 x5).f0) ((rd_T35 x1 x5).f1) ((rd_T35 x1 x5).f2) ((rd_T35 x1 x5).f3) ((rd_T35 x1 x5).f4) ((rd_T35 x1 x5).f5) ((rd_T35 x1 x5).f6)).bind fun t344 => (if t344 = true then (laws_eqNodeS.l0 k x0 x1 (wrap64 (x5 + 1))) else (some false))) else (none)) else (none)) else (some true)
def laws_eqNodeS.f (k : Nat) (l0 : List (S35)) (l1 : List (S35)) : Option (Bool) := if (l0.length : Int) = (l1.length : Int) then (laws_eqNodeS.l0 k l0 l1 0) else (some false)
theorem laws_eqNodeS.mono_l : ∀ k, (∀ y0 y1 y2, LeO (laws_eqNodeS.l0 k y0 y1 y2) (laws_eqNodeS.l0 (k + 1) y0 y1 y2))
 | 0 => fun _ _ _ r h => by simp [laws_eqNodeS.l0] at h
 | k + 1 => by
  have ih0 := laws_eqNodeS.mono_l k
  ·intro y0 y1 y2
   unfold laws_eqNodeS.l0
   repeat' first
   | (with_reducible exact ih0 _ _ _)
   | (with_reducible exact laws_eqNode.mono _ _ _ _ _ _ _ _ _ _ _ _ _ _ _)
   | (with_reducible exact LeO.refl _)
   | (with_reducible exact LeO.none _)
   | (with_reducible refine LeO.ite ?_ ?_)
   | (with_reducible refine LeO.bind ?_ (fun _ => ?_))
   | exact ih0 _ _ _
   | exact laws_eqNode.mono _ _ _ _ _ _ _ _ _ _ _ _ _ _ _
   | exact LeO.none _
   | refine LeO.ite ?_ ?_
   | refine LeO.bind ?_ (fun _ => ?_)
theorem laws_eqNodeS.mono : ∀ a0 a1 k, LeO (laws_eqNodeS.f k a0 a1) (laws_eqNodeS.f (k + 1) a0 a1) := by
 intro a0 a1 k
 have ih0 := laws_eqNodeS.mono_l k
 unfold laws_eqNodeS.f
 repeat' first
   | (with_reducible exact ih0 _ _ _)
   | (with_reducible exact laws_eqNode.mono _ _ _ _ _ _ _ _ _ _ _ _ _ _ _)
   | (with_reducible exact LeO.refl _)
   | (with_reducible exact LeO.none _)
   | (with_reducible refine LeO.ite ?_ ?_)
   | (with_reducible refine LeO.bind ?_ (fun _ => ?_))
   | exact ih0 _ _ _
   | exact laws_eqNode.mono _ _ _ _ _ _ _ _ _ _ _ _ _ _ _
   | exact LeO.none _
   | refine LeO.ite ?_ ?_
   | refine LeO.bind ?_ (fun _ => ?_)
def laws_eqNodeS.T6 : Bool × List (List Nat × List Nat) := (true, [([], []), ([], []), ([0, 1], [0, 1]), ([2], [2]), ([], []), ([], []), ([4, 5], [4, 5]), ([6], [6]), ([3, 7], [3, 7]), ([8], [8])])
def laws_eqNodeS.B6 : List Nat := [0, 0, 3, 7, 0, 0, 48, 112, 255, 511]
theorem laws_eqNodeS.tab6 : rtab .any (opsOf Tryd.f8 6) = laws_eqNodeS.T6 := by kernel_rfl
theorem laws_eqNodeS.bits6 : waitsOk laws_eqNodeS.T6.2 laws_eqNodeS.B6 = true := by kernel_rfl
set_option maxHeartbeats 8000000 in
set_option maxRecDepth 100000 in
theorem laws_eqNodeS.calls (k : Nat) (A0 : Option Addr) (c0 : Nat) (l0 : List (S35)) (A1 : Option Addr) (c1 : Nat) (l1 : List (S35)) (r : Bool) (w : World) (hr0 : Kd.C k35 w A0 l0.length l0) (hc0 : l0.length ≤ c0) (hr1 : Kd.C k35 w A1 l1.length l1) (hc1 : l1.length ≤ c1) (h : laws_eqNodeS.f k l0 l1 = some r) :
  Calls Tryd.prog 8 #[.slice A0 l0.length c0, .slice A1 l1.length c1] w fun e w' => e = .returned (.bool r) ∧ Below w.heap.size w w' := by
 have hu35 := Tryd.underlying35
 have HR0 := Aside0.mk hr0
 have HC0 := Aside0.mk hc0
 clear hr0 hc0
 have HR1 := Aside0.mk hr1
 have HC1 := Aside0.mk hc1
 clear hr1 hc1
 have HB := Aside0.mk (Below.refl w.heap.size w)
 have H : (if (l0.length : Int) = (l1.length : Int) then (laws_eqNodeS.l0 k l0 l1 0) else (some false)) = some r := h
 clear h
 by_cases c3 : (l0.length : Int) = (l1.length : Int)
 ·rw [if_pos c3] at H
  have c3b0 : ((l0.length : Int) == (l1.length : Int)) = true := beq_iff_eq.mpr c3
  have c3b1 : ((l0.length : Int) != (l1.length : Int)) = false := bne_eq_false_iff_eq.mpr c3
  have c3b2 : (l0.length == l1.length) = true := by first | simpa using c3 | (simp at c3 ⊢; omega)
  clear c3
  have H' := Aside0.mk H
  clear H
  go_enter Tryd.func8, Tryd.ntmps8
  go_wp2
  go_loopg [5] k (fun kq v5 w' => ∃ (x5_1 : Int), v5 = .int .i64 x5_1 ∧ Aside0 (laws_eqNodeS.l0 kq l0 l1 x5_1 = some r) ∧ Aside0 (kq ≤ k) ∧ Aside0 (Below w.heap.size w w'))
  case atStart => exact ⟨(0), (by first | rfl | (simp; done) | (simp [*]; done)), H', ⟨Nat.le_refl _⟩, ⟨by repeat (first | (with_reducible first | exact HB.out | apply below_alloc | apply pw_below_drewN | apply below_drew1) | exact HB.out)⟩⟩
  case round =>
   clear H'
   try clear c1
   try clear p2
   try clear c3
   try clear c3b0
   try clear c3b1
   try clear c3b2
   obtain ⟨x5_1, rfl, HA, HK1, HB⟩ := hrel
   cases gk with
   | zero => exact absurd HA.out (by simp [laws_eqNodeS.l0])
   | succ k1 =>
    have H := HA.out
    clear HA
    simp only [laws_eqNodeS.l0] at H
    by_cases c4 : x5_1 < (l0.length : Int)
    ·rw [if_pos c4] at H
     have c4b0 : decide (x5_1 < (l0.length : Int)) = true := decide_eq_true c4
     clear c4
     by_cases c5 : 0 ≤ x5_1
     ·rw [if_pos c5] at H
      have c5b0 : decide (0 ≤ x5_1) = true := decide_eq_true c5
      clear c5
      by_cases c6 : x5_1 < (l1.length : Int)
      ·rw [if_pos c6] at H
       have c6b0 : decide (x5_1 < (l1.length : Int)) = true := decide_eq_true c6
       clear c6
       replace H := Option.bind_eq_some_iff.mp H
       obtain ⟨t344, A70, H⟩ := H
       replace H : (if t344 = true then (laws_eqNodeS.l0 k1 l0 l1 (wrap64 (x5_1 + 1))) else (some false)) = some r := H
       have A7 := Aside0.mk A70
       clear A70
       by_cases c8 : t344 = true
       ·subst c8
        have H1 : (laws_eqNodeS.l0 k1 l0 l1 (wrap64 (x5_1 + 1))) = some r := by rw [if_pos rfl] at H; exact H
        clear H
        have H := H1
        clear H1
        have H' := Aside0.mk H
        clear H
        try go_wp2
        have n0_ := Aside0.mk (below_drew1 HB.out)
        clear HB
        have HB := n0_
        clear n0_
        have p342 : 0 ≤ (x5_1 : Int) := of_decide_eq_true (by first | (with_reducible assumption) | assumption)
        have q342 : x5_1 < (l0.length : Int) := of_decide_eq_true (by first | (with_reducible assumption) | assumption)
        obtain ⟨ad342, A342_6, c342_6, e342, hx342_0, hx342_1, hx342_2, hx342_3, hx342_4, hx342_5, hx342_6, hl342_6, hi342_6⟩ := at_T35 HR0.out x5_1 p342 q342
        have hw342_6 := hx342_6
        have hw342_5 := hx342_5
        have hw342_4 := hx342_4
        have hw342_3 := hx342_3
        have hw342_2 := hx342_2
        have hw342_1 := hx342_1
        have hw342_0 := hx342_0
        cases e342
        replace hx342_0 := (HB.out.cell (World.block_lt_of_cell? w _ hx342_0)).trans hx342_0
        replace hx342_1 := (HB.out.cell (World.block_lt_of_cell? w _ hx342_1)).trans hx342_1
        replace hx342_2 := (HB.out.cell (World.block_lt_of_cell? w _ hx342_2)).trans hx342_2
        replace hx342_3 := (HB.out.cell (World.block_lt_of_cell? w _ hx342_3)).trans hx342_3
        replace hx342_4 := (HB.out.cell (World.block_lt_of_cell? w _ hx342_4)).trans hx342_4
        replace hx342_5 := (HB.out.cell (World.block_lt_of_cell? w _ hx342_5)).trans hx342_5
        replace hx342_6 := (HB.out.cell (World.block_lt_of_cell? w _ hx342_6)).trans hx342_6
        have HR342_6 := Aside0.mk hi342_6
        have HC342_6 := Aside0.mk hl342_6
        clear hi342_6 hl342_6
        replace p342 := eq_true p342
        replace q342 := eq_true q342
        have p343 : 0 ≤ (x5_1 : Int) := of_decide_eq_true (by first | (with_reducible assumption) | assumption)
        have q343 : x5_1 < (l1.length : Int) := of_decide_eq_true (by first | (with_reducible assumption) | assumption)
        obtain ⟨ad343, A343_6, c343_6, e343, hx343_0, hx343_1, hx343_2, hx343_3, hx343_4, hx343_5, hx343_6, hl343_6, hi343_6⟩ := at_T35 HR1.out x5_1 p343 q343
        have hw343_6 := hx343_6
        have hw343_5 := hx343_5
        have hw343_4 := hx343_4
        have hw343_3 := hx343_3
        have hw343_2 := hx343_2
        have hw343_1 := hx343_1
        have hw343_0 := hx343_0
        cases e343
        replace hx343_0 := (HB.out.cell (World.block_lt_of_cell? w _ hx343_0)).trans hx343_0
        replace hx343_1 := (HB.out.cell (World.block_lt_of_cell? w _ hx343_1)).trans hx343_1
        replace hx343_2 := (HB.out.cell (World.block_lt_of_cell? w _ hx343_2)).trans hx343_2
        replace hx343_3 := (HB.out.cell (World.block_lt_of_cell? w _ hx343_3)).trans hx343_3
        replace hx343_4 := (HB.out.cell (World.block_lt_of_cell? w _ hx343_4)).trans hx343_4
        replace hx343_5 := (HB.out.cell (World.block_lt_of_cell? w _ hx343_5)).trans hx343_5
        replace hx343_6 := (HB.out.cell (World.block_lt_of_cell? w _ hx343_6)).trans hx343_6
        have HR343_6 := Aside0.mk hi343_6
        have HC343_6 := Aside0.mk hl343_6
        clear hi343_6 hl343_6
        replace p343 := eq_true p343
        replace q343 := eq_true q343
        refine start_ (n := 10) (S := fun w' => w'.cell? (ad342.add ((x5_1).toNat * 7)) = some (.int .i64 ((rd_T35 l0 x5_1).f0)) ∧ w'.cell? ⟨(ad342.add ((x5_1).toNat * 7)).block, (ad342.add ((x5_1).toNat * 7)).off + 1, none⟩ = some (.int .i64 ((rd_T35 l0 x5_1).f1)) ∧ w'.cell? ⟨(ad342.add ((x5_1).toNat * 7)).block, (ad342.add ((x5_1).toNat * 7)).off + 2, none⟩ = some (.int .i64 ((rd_T35 l0 x5_1).f2)) ∧ w'.cell? ⟨(ad342.add ((x5_1).toNat * 7)).block, (ad342.add ((x5_1).toNat * 7)).off + 3, none⟩ = some (.int .i64 ((rd_T35 l0 x5_1).f3)) ∧ w'.cell? ⟨(ad342.add ((x5_1).toNat * 7)).block, (ad342.add ((x5_1).toNat * 7)).off + 4, none⟩ = some (.int .i64 ((rd_T35 l0 x5_1).f4)) ∧ w'.cell? ⟨(ad342.add ((x5_1).toNat * 7)).block, (ad342.add ((x5_1).toNat * 7)).off + 5, none⟩ = some (.int .i64 ((rd_T35 l0 x5_1).f5)) ∧ w'.cell? ⟨(ad342.add ((x5_1).toNat * 7)).block, (ad342.add ((x5_1).toNat * 7)).off + 6, none⟩ = some (.slice A342_6 ((rd_T35 l0 x5_1).f6).length c342_6) ∧ w'.cell? (ad343.add ((x5_1).toNat * 7)) = some (.int .i64 ((rd_T35 l1 x5_1).f0)) ∧ w'.cell? ⟨(ad343.add ((x5_1).toNat * 7)).block, (ad343.add ((x5_1).toNat * 7)).off + 1, none⟩ = some (.int .i64 ((rd_T35 l1 x5_1).f1)) ∧ w'.cell? ⟨(ad343.add ((x5_1).toNat * 7)).block, (ad343.add ((x5_1).toNat * 7)).off + 2, none⟩ = some (.int .i64 ((rd_T35 l1 x5_1).f2)) ∧ w'.cell? ⟨(ad343.add ((x5_1).toNat * 7)).block, (ad343.add ((x5_1).toNat * 7)).off + 3, none⟩ = some (.int .i64 ((rd_T35 l1 x5_1).f3)) ∧ w'.cell? ⟨(ad343.add ((x5_1).toNat * 7)).block, (ad343.add ((x5_1).toNat * 7)).off + 4, none⟩ = some (.int .i64 ((rd_T35 l1 x5_1).f4)) ∧ w'.cell? ⟨(ad343.add ((x5_1).toNat * 7)).block, (ad343.add ((x5_1).toNat * 7)).off + 5, none⟩ = some (.int .i64 ((rd_T35 l1 x5_1).f5)) ∧ w'.cell? ⟨(ad343.add ((x5_1).toNat * 7)).block, (ad343.add ((x5_1).toNat * 7)).off + 6, none⟩ = some (.slice A343_6 ((rd_T35 l1 x5_1).f6).length c343_6)) (ds := []) (bl 10 0) (by kernel_rfl) rfl rfl ⟨((HB.out.cell (World.block_lt_of_cell? w _ hw342_0)).trans hw342_0), ((HB.out.cell (World.block_lt_of_cell? w _ hw342_1)).trans hw342_1), ((HB.out.cell (World.block_lt_of_cell? w _ hw342_2)).trans hw342_2), ((HB.out.cell (World.block_lt_of_cell? w _ hw342_3)).trans hw342_3), ((HB.out.cell (World.block_lt_of_cell? w _ hw342_4)).trans hw342_4), ((HB.out.cell (World.block_lt_of_cell? w _ hw342_5)).trans hw342_5), ((HB.out.cell (World.block_lt_of_cell? w _ hw342_6)).trans hw342_6), ((HB.out.cell (World.block_lt_of_cell? w _ hw343_0)).trans hw343_0), ((HB.out.cell (World.block_lt_of_cell? w _ hw343_1)).trans hw343_1), ((HB.out.cell (World.block_lt_of_cell? w _ hw343_2)).trans hw343_2), ((HB.out.cell (World.block_lt_of_cell? w _ hw343_3)).trans hw343_3), ((HB.out.cell (World.block_lt_of_cell? w _ hw343_4)).trans hw343_4), ((HB.out.cell (World.block_lt_of_cell? w _ hw343_5)).trans hw343_5), ((HB.out.cell (World.block_lt_of_cell? w _ hw343_6)).trans hw343_6)⟩ (fun hHeld => ?_); refine with_tabW laws_eqNodeS.tab6 laws_eqNodeS.bits6 (fun HT_ HW_ => ?_)
        generalize wr.drew = w9 at HB HR342_6 HR343_6 hx342_0 hx342_1 hx342_2 hx342_3 hx342_4 hx342_5 hx342_6 hx343_0 hx343_1 hx343_2 hx343_3 hx343_4 hx343_5 hx343_6 hHeld ⊢
        refine pu_ 0 (some 17) (bl 10 1) HT_.out rfl ?_
        refine pu_ 1 (some 18) (bl 10 3) HT_.out rfl ?_
        refine pu_ 2 (some 19) (bl 10 7) HT_.out rfl ?_
        refine pu_ 4 (some 21) (bl 10 23) HT_.out rfl ?_
        refine pu_ 5 (some 22) (bl 10 55) HT_.out rfl ?_
        refine pu_ 6 (some 23) (bl 10 119) HT_.out rfl ?_
        refine tw_ 3 (some 20) (bl 10 127) HT_.out HW_.out rfl hHeld (fun w' s_ => by obtain ⟨s0, s1, s2, s3, s4, s5, s6, s7, s8, s9, s10, s11, s12, s13⟩ := s_; go_simp; with_reducible rfl) ?_
        refine tw_ 7 (some 24) (bl 10 255) HT_.out HW_.out rfl hHeld (fun w' s_ => by obtain ⟨s0, s1, s2, s3, s4, s5, s6, s7, s8, s9, s10, s11, s12, s13⟩ := s_; go_simp; with_reducible rfl) ?_
        refine on_ 8 (some 25) (bl 10 511) HT_.out rfl (fun K hK => ?_)
        refine goes_ Tryd.func15 (by kernel_rfl) rfl #[.agg #[.int .i64 ((rd_T35 l0 x5_1).f0), .int .i64 ((rd_T35 l0 x5_1).f1), .int .i64 ((rd_T35 l0 x5_1).f2), .int .i64 ((rd_T35 l0 x5_1).f3), .int .i64 ((rd_T35 l0 x5_1).f4), .int .i64 ((rd_T35 l0 x5_1).f5), .slice A342_6 ((rd_T35 l0 x5_1).f6).length c342_6], .agg #[.int .i64 ((rd_T35 l1 x5_1).f0), .int .i64 ((rd_T35 l1 x5_1).f1), .int .i64 ((rd_T35 l1 x5_1).f2), .int .i64 ((rd_T35 l1 x5_1).f3), .int .i64 ((rd_T35 l1 x5_1).f4), .int .i64 ((rd_T35 l1 x5_1).f5), .slice A343_6 ((rd_T35 l1 x5_1).f6).length c343_6]] (by rfl) rfl rfl b14_1 ?_
        with_reducible refine (laws_eqNode.calls k1 ((rd_T35 l0 x5_1).f0) ((rd_T35 l0 x5_1).f1) ((rd_T35 l0 x5_1).f2) ((rd_T35 l0 x5_1).f3) ((rd_T35 l0 x5_1).f4) ((rd_T35 l0 x5_1).f5) _ _ ((rd_T35 l0 x5_1).f6) ((rd_T35 l1 x5_1).f0) ((rd_T35 l1 x5_1).f1) ((rd_T35 l1 x5_1).f2) ((rd_T35 l1 x5_1).f3) ((rd_T35 l1 x5_1).f4) ((rd_T35 l1 x5_1).f5) _ _ ((rd_T35 l1 x5_1).f6) true _ ?side1 ?side2 ?side3 ?side4 A7.out).mono ?_
        (case side1 => exact (by repeat (first | exact (Kd.C_below HR342_6.out HB.out) | (with_reducible refine Kd.C_alloc ?_ _) | (with_reducible refine Kd.C_drewN ?_ _) | (with_reducible refine Kd.C_drew ?_))))
        (case side2 => exact HC342_6.out)
        (case side3 => exact (by repeat (first | exact (Kd.C_below HR343_6.out HB.out) | (with_reducible refine Kd.C_alloc ?_ _) | (with_reducible refine Kd.C_drewN ?_ _) | (with_reducible refine Kd.C_drew ?_))))
        (case side4 => exact HC343_6.out)
        rintro e w10 ⟨rfl, hb⟩
        refine ⟨_, rfl, ?_⟩
        have n0_ := Aside0.mk (below_step b14_0 hb)
        clear HB
        have HB := n0_
        clear n0_
        (try clear hb)
        (try clear hb2)
        (try clear hk)
        (try clear hi)
        refine hK.out _ _ ⟨((HB.out.cell (World.block_lt_of_cell? w _ hw342_0)).trans hw342_0), ((HB.out.cell (World.block_lt_of_cell? w _ hw342_1)).trans hw342_1), ((HB.out.cell (World.block_lt_of_cell? w _ hw342_2)).trans hw342_2), ((HB.out.cell (World.block_lt_of_cell? w _ hw342_3)).trans hw342_3), ((HB.out.cell (World.block_lt_of_cell? w _ hw342_4)).trans hw342_4), ((HB.out.cell (World.block_lt_of_cell? w _ hw342_5)).trans hw342_5), ((HB.out.cell (World.block_lt_of_cell? w _ hw342_6)).trans hw342_6), ((HB.out.cell (World.block_lt_of_cell? w _ hw343_0)).trans hw343_0), ((HB.out.cell (World.block_lt_of_cell? w _ hw343_1)).trans hw343_1), ((HB.out.cell (World.block_lt_of_cell? w _ hw343_2)).trans hw343_2), ((HB.out.cell (World.block_lt_of_cell? w _ hw343_3)).trans hw343_3), ((HB.out.cell (World.block_lt_of_cell? w _ hw343_4)).trans hw343_4), ((HB.out.cell (World.block_lt_of_cell? w _ hw343_5)).trans hw343_5), ((HB.out.cell (World.block_lt_of_cell? w _ hw343_6)).trans hw343_6)⟩ (fun hHeld => ?_)
        clear hK K
        refine norm_ (a' := ?_) ?_ ?_
        rotate_left
        ·show Act.put _ (some 25) _ = _
         simp only [Act.put, List.setIfInBounds_toArray, List.set_cons_zero, List.set_cons_succ, i64_w, i32_w]
         rfl
        refine pu_ 9 (some 26) (bl 10 1023) HT_.out rfl ?_
        refine done_ (done_of HT_.out (by kernel_rfl)) ?_
        try go_wp2
        go_roundg k1
        case measure => have := HK1.out; omega
        case rel => exact ⟨(wrap64 (x5_1 + 1)), (by first | rfl | (simp; done) | (simp [*]; done)), H', ⟨by have := HK1.out; omega⟩, ⟨by repeat (first | (with_reducible first | exact HB.out | apply below_alloc | apply pw_below_drewN | apply below_drew1) | exact HB.out)⟩⟩
       ·replace c8 := Bool.eq_false_iff.mpr c8
        subst c8
        have H1 : (some false) = some r := by rw [if_neg (show ¬ (false = true) by decide)] at H; exact H
        clear H
        have H := H1
        clear H1
        obtain rfl := Option.some.inj H
        try go_wp2
        have n0_ := Aside0.mk (below_drew1 HB.out)
        clear HB
        have HB := n0_
        clear n0_
        have p342 : 0 ≤ (x5_1 : Int) := of_decide_eq_true (by first | (with_reducible assumption) | assumption)
        have q342 : x5_1 < (l0.length : Int) := of_decide_eq_true (by first | (with_reducible assumption) | assumption)
        obtain ⟨ad342, A342_6, c342_6, e342, hx342_0, hx342_1, hx342_2, hx342_3, hx342_4, hx342_5, hx342_6, hl342_6, hi342_6⟩ := at_T35 HR0.out x5_1 p342 q342
        have hw342_6 := hx342_6
        have hw342_5 := hx342_5
        have hw342_4 := hx342_4
        have hw342_3 := hx342_3
        have hw342_2 := hx342_2
        have hw342_1 := hx342_1
        have hw342_0 := hx342_0
        cases e342
        replace hx342_0 := (HB.out.cell (World.block_lt_of_cell? w _ hx342_0)).trans hx342_0
        replace hx342_1 := (HB.out.cell (World.block_lt_of_cell? w _ hx342_1)).trans hx342_1
        replace hx342_2 := (HB.out.cell (World.block_lt_of_cell? w _ hx342_2)).trans hx342_2
        replace hx342_3 := (HB.out.cell (World.block_lt_of_cell? w _ hx342_3)).trans hx342_3
        replace hx342_4 := (HB.out.cell (World.block_lt_of_cell? w _ hx342_4)).trans hx342_4
        replace hx342_5 := (HB.out.cell (World.block_lt_of_cell? w _ hx342_5)).trans hx342_5
        replace hx342_6 := (HB.out.cell (World.block_lt_of_cell? w _ hx342_6)).trans hx342_6
        have HR342_6 := Aside0.mk hi342_6
        have HC342_6 := Aside0.mk hl342_6
        clear hi342_6 hl342_6
        replace p342 := eq_true p342
        replace q342 := eq_true q342
        have p343 : 0 ≤ (x5_1 : Int) := of_decide_eq_true (by first | (with_reducible assumption) | assumption)
        have q343 : x5_1 < (l1.length : Int) := of_decide_eq_true (by first | (with_reducible assumption) | assumption)
        obtain ⟨ad343, A343_6, c343_6, e343, hx343_0, hx343_1, hx343_2, hx343_3, hx343_4, hx343_5, hx343_6, hl343_6, hi343_6⟩ := at_T35 HR1.out x5_1 p343 q343
        have hw343_6 := hx343_6
        have hw343_5 := hx343_5
        have hw343_4 := hx343_4
        have hw343_3 := hx343_3
        have hw343_2 := hx343_2
        have hw343_1 := hx343_1
        have hw343_0 := hx343_0
        cases e343
        replace hx343_0 := (HB.out.cell (World.block_lt_of_cell? w _ hx343_0)).trans hx343_0
        replace hx343_1 := (HB.out.cell (World.block_lt_of_cell? w _ hx343_1)).trans hx343_1
        replace hx343_2 := (HB.out.cell (World.block_lt_of_cell? w _ hx343_2)).trans hx343_2
        replace hx343_3 := (HB.out.cell (World.block_lt_of_cell? w _ hx343_3)).trans hx343_3
        replace hx343_4 := (HB.out.cell (World.block_lt_of_cell? w _ hx343_4)).trans hx343_4
        replace hx343_5 := (HB.out.cell (World.block_lt_of_cell? w _ hx343_5)).trans hx343_5
        replace hx343_6 := (HB.out.cell (World.block_lt_of_cell? w _ hx343_6)).trans hx343_6
        have HR343_6 := Aside0.mk hi343_6
        have HC343_6 := Aside0.mk hl343_6
        clear hi343_6 hl343_6
        replace p343 := eq_true p343
        replace q343 := eq_true q343
        refine start_ (n := 10) (S := fun w' => w'.cell? (ad342.add ((x5_1).toNat * 7)) = some (.int .i64 ((rd_T35 l0 x5_1).f0)) ∧ w'.cell? ⟨(ad342.add ((x5_1).toNat * 7)).block, (ad342.add ((x5_1).toNat * 7)).off + 1, none⟩ = some (.int .i64 ((rd_T35 l0 x5_1).f1)) ∧ w'.cell? ⟨(ad342.add ((x5_1).toNat * 7)).block, (ad342.add ((x5_1).toNat * 7)).off + 2, none⟩ = some (.int .i64 ((rd_T35 l0 x5_1).f2)) ∧ w'.cell? ⟨(ad342.add ((x5_1).toNat * 7)).block, (ad342.add ((x5_1).toNat * 7)).off + 3, none⟩ = some (.int .i64 ((rd_T35 l0 x5_1).f3)) ∧ w'.cell? ⟨(ad342.add ((x5_1).toNat * 7)).block, (ad342.add ((x5_1).toNat * 7)).off + 4, none⟩ = some (.int .i64 ((rd_T35 l0 x5_1).f4)) ∧ w'.cell? ⟨(ad342.add ((x5_1).toNat * 7)).block, (ad342.add ((x5_1).toNat * 7)).off + 5, none⟩ = some (.int .i64 ((rd_T35 l0 x5_1).f5)) ∧ w'.cell? ⟨(ad342.add ((x5_1).toNat * 7)).block, (ad342.add ((x5_1).toNat * 7)).off + 6, none⟩ = some (.slice A342_6 ((rd_T35 l0 x5_1).f6).length c342_6) ∧ w'.cell? (ad343.add ((x5_1).toNat * 7)) = some (.int .i64 ((rd_T35 l1 x5_1).f0)) ∧ w'.cell? ⟨(ad343.add ((x5_1).toNat * 7)).block, (ad343.add ((x5_1).toNat * 7)).off + 1, none⟩ = some (.int .i64 ((rd_T35 l1 x5_1).f1)) ∧ w'.cell? ⟨(ad343.add ((x5_1).toNat * 7)).block, (ad343.add ((x5_1).toNat * 7)).off + 2, none⟩ = some (.int .i64 ((rd_T35 l1 x5_1).f2)) ∧ w'.cell? ⟨(ad343.add ((x5_1).toNat * 7)).block, (ad343.add ((x5_1).toNat * 7)).off + 3, none⟩ = some (.int .i64 ((rd_T35 l1 x5_1).f3)) ∧ w'.cell? ⟨(ad343.add ((x5_1).toNat * 7)).block, (ad343.add ((x5_1).toNat * 7)).off + 4, none⟩ = some (.int .i64 ((rd_T35 l1 x5_1).f4)) ∧ w'.cell? ⟨(ad343.add ((x5_1).toNat * 7)).block, (ad343.add ((x5_1).toNat * 7)).off + 5, none⟩ = some (.int .i64 ((rd_T35 l1 x5_1).f5)) ∧ w'.cell? ⟨(ad343.add ((x5_1).toNat * 7)).block, (ad343.add ((x5_1).toNat * 7)).off + 6, none⟩ = some (.slice A343_6 ((rd_T35 l1 x5_1).f6).length c343_6)) (ds := []) (bl 10 0) (by kernel_rfl) rfl rfl ⟨((HB.out.cell (World.block_lt_of_cell? w _ hw342_0)).trans hw342_0), ((HB.out.cell (World.block_lt_of_cell? w _ hw342_1)).trans hw342_1), ((HB.out.cell (World.block_lt_of_cell? w _ hw342_2)).trans hw342_2), ((HB.out.cell (World.block_lt_of_cell? w _ hw342_3)).trans hw342_3), ((HB.out.cell (World.block_lt_of_cell? w _ hw342_4)).trans hw342_4), ((HB.out.cell (World.block_lt_of_cell? w _ hw342_5)).trans hw342_5), ((HB.out.cell (World.block_lt_of_cell? w _ hw342_6)).trans hw342_6), ((HB.out.cell (World.block_lt_of_cell? w _ hw343_0)).trans hw343_0), ((HB.out.cell (World.block_lt_of_cell? w _ hw343_1)).trans hw343_1), ((HB.out.cell (World.block_lt_of_cell? w _ hw343_2)).trans hw343_2), ((HB.out.cell (World.block_lt_of_cell? w _ hw343_3)).trans hw343_3), ((HB.out.cell (World.block_lt_of_cell? w _ hw343_4)).trans hw343_4), ((HB.out.cell (World.block_lt_of_cell? w _ hw343_5)).trans hw343_5), ((HB.out.cell (World.block_lt_of_cell? w _ hw343_6)).trans hw343_6)⟩ (fun hHeld => ?_); refine with_tabW laws_eqNodeS.tab6 laws_eqNodeS.bits6 (fun HT_ HW_ => ?_)
        generalize wr.drew = w11 at HB HR342_6 HR343_6 hx342_0 hx342_1 hx342_2 hx342_3 hx342_4 hx342_5 hx342_6 hx343_0 hx343_1 hx343_2 hx343_3 hx343_4 hx343_5 hx343_6 hHeld ⊢
        refine pu_ 0 (some 17) (bl 10 1) HT_.out rfl ?_
        refine pu_ 1 (some 18) (bl 10 3) HT_.out rfl ?_
        refine pu_ 2 (some 19) (bl 10 7) HT_.out rfl ?_
        refine pu_ 4 (some 21) (bl 10 23) HT_.out rfl ?_
        refine pu_ 5 (some 22) (bl 10 55) HT_.out rfl ?_
        refine pu_ 6 (some 23) (bl 10 119) HT_.out rfl ?_
        refine tw_ 3 (some 20) (bl 10 127) HT_.out HW_.out rfl hHeld (fun w' s_ => by obtain ⟨s0, s1, s2, s3, s4, s5, s6, s7, s8, s9, s10, s11, s12, s13⟩ := s_; go_simp; with_reducible rfl) ?_
        refine tw_ 7 (some 24) (bl 10 255) HT_.out HW_.out rfl hHeld (fun w' s_ => by obtain ⟨s0, s1, s2, s3, s4, s5, s6, s7, s8, s9, s10, s11, s12, s13⟩ := s_; go_simp; with_reducible rfl) ?_
        refine on_ 8 (some 25) (bl 10 511) HT_.out rfl (fun K hK => ?_)
        refine goes_ Tryd.func15 (by kernel_rfl) rfl #[.agg #[.int .i64 ((rd_T35 l0 x5_1).f0), .int .i64 ((rd_T35 l0 x5_1).f1), .int .i64 ((rd_T35 l0 x5_1).f2), .int .i64 ((rd_T35 l0 x5_1).f3), .int .i64 ((rd_T35 l0 x5_1).f4), .int .i64 ((rd_T35 l0 x5_1).f5), .slice A342_6 ((rd_T35 l0 x5_1).f6).length c342_6], .agg #[.int .i64 ((rd_T35 l1 x5_1).f0), .int .i64 ((rd_T35 l1 x5_1).f1), .int .i64 ((rd_T35 l1 x5_1).f2), .int .i64 ((rd_T35 l1 x5_1).f3), .int .i64 ((rd_T35 l1 x5_1).f4), .int .i64 ((rd_T35 l1 x5_1).f5), .slice A343_6 ((rd_T35 l1 x5_1).f6).length c343_6]] (by rfl) rfl rfl b14_1 ?_
        with_reducible refine (laws_eqNode.calls k1 ((rd_T35 l0 x5_1).f0) ((rd_T35 l0 x5_1).f1) ((rd_T35 l0 x5_1).f2) ((rd_T35 l0 x5_1).f3) ((rd_T35 l0 x5_1).f4) ((rd_T35 l0 x5_1).f5) _ _ ((rd_T35 l0 x5_1).f6) ((rd_T35 l1 x5_1).f0) ((rd_T35 l1 x5_1).f1) ((rd_T35 l1 x5_1).f2) ((rd_T35 l1 x5_1).f3) ((rd_T35 l1 x5_1).f4) ((rd_T35 l1 x5_1).f5) _ _ ((rd_T35 l1 x5_1).f6) false _ ?side1 ?side2 ?side3 ?side4 A7.out).mono ?_
        (case side1 => exact (by repeat (first | exact (Kd.C_below HR342_6.out HB.out) | (with_reducible refine Kd.C_alloc ?_ _) | (with_reducible refine Kd.C_drewN ?_ _) | (with_reducible refine Kd.C_drew ?_))))
        (case side2 => exact HC342_6.out)
        (case side3 => exact (by repeat (first | exact (Kd.C_below HR343_6.out HB.out) | (with_reducible refine Kd.C_alloc ?_ _) | (with_reducible refine Kd.C_drewN ?_ _) | (with_reducible refine Kd.C_drew ?_))))
        (case side4 => exact HC343_6.out)
        rintro e w12 ⟨rfl, hb⟩
        refine ⟨_, rfl, ?_⟩
        have n0_ := Aside0.mk (below_step b14_0 hb)
        clear HB
        have HB := n0_
        clear n0_
        (try clear hb)
        (try clear hb2)
        (try clear hk)
        (try clear hi)
        refine hK.out _ _ ⟨((HB.out.cell (World.block_lt_of_cell? w _ hw342_0)).trans hw342_0), ((HB.out.cell (World.block_lt_of_cell? w _ hw342_1)).trans hw342_1), ((HB.out.cell (World.block_lt_of_cell? w _ hw342_2)).trans hw342_2), ((HB.out.cell (World.block_lt_of_cell? w _ hw342_3)).trans hw342_3), ((HB.out.cell (World.block_lt_of_cell? w _ hw342_4)).trans hw342_4), ((HB.out.cell (World.block_lt_of_cell? w _ hw342_5)).trans hw342_5), ((HB.out.cell (World.block_lt_of_cell? w _ hw342_6)).trans hw342_6), ((HB.out.cell (World.block_lt_of_cell? w _ hw343_0)).trans hw343_0), ((HB.out.cell (World.block_lt_of_cell? w _ hw343_1)).trans hw343_1), ((HB.out.cell (World.block_lt_of_cell? w _ hw343_2)).trans hw343_2), ((HB.out.cell (World.block_lt_of_cell? w _ hw343_3)).trans hw343_3), ((HB.out.cell (World.block_lt_of_cell? w _ hw343_4)).trans hw343_4), ((HB.out.cell (World.block_lt_of_cell? w _ hw343_5)).trans hw343_5), ((HB.out.cell (World.block_lt_of_cell? w _ hw343_6)).trans hw343_6)⟩ (fun hHeld => ?_)
        clear hK K
        refine norm_ (a' := ?_) ?_ ?_
        rotate_left
        ·show Act.put _ (some 25) _ = _
         simp only [Act.put, List.setIfInBounds_toArray, List.set_cons_zero, List.set_cons_succ, i64_w, i32_w]
         rfl
        refine pu_ 9 (some 26) (bl 10 1023) HT_.out rfl ?_
        refine done_ (done_of HT_.out (by kernel_rfl)) ?_
        try go_wp2
        go_ret
        exact ⟨by first | rfl | (simp [errW_none, errW_some] <;> rfl) | (simp [*, errW_none, errW_some] <;> rfl), by repeat (first | (with_reducible first | exact HB.out | apply below_alloc | apply pw_below_drewN | apply below_drew1) | exact HB.out)⟩
      ·rw [if_neg c6] at H
       exact absurd H (by simp)
     ·rw [if_neg c5] at H
      exact absurd H (by simp)
    ·rw [if_neg c4] at H
     have c4b0 : decide (x5_1 < (l0.length : Int)) = false := decide_eq_false c4
     clear c4
     obtain rfl := Option.some.inj H
     go_wp2
     go_ret
     exact ⟨by first | rfl | (simp [errW_none, errW_some] <;> rfl) | (simp [*, errW_none, errW_some] <;> rfl), by repeat (first | (with_reducible first | exact HB.out | apply below_alloc | apply pw_below_drewN | apply below_drew1) | exact HB.out)⟩
 ·rw [if_neg c3] at H
  have c3b0 : ((l0.length : Int) == (l1.length : Int)) = false := beq_eq_false_iff_ne.mpr c3
  have c3b1 : ((l0.length : Int) != (l1.length : Int)) = true := bne_iff_ne.mpr c3
  have c3b2 : (l0.length == l1.length) = false := by first | simpa using c3 | (simp at c3 ⊢; omega)
  obtain rfl := Option.some.inj H
  go_enter Tryd.func8, Tryd.ntmps8
  go_wp2
  go_ret
  exact ⟨by first | rfl | (simp [errW_none, errW_some] <;> rfl) | (simp [*, errW_none, errW_some] <;> rfl), by repeat (first | (with_reducible first | exact HB.out | apply below_alloc | apply pw_below_drewN | apply below_drew1) | exact HB.out)⟩

/-! ### laws_FnExactFormatPlan: function 3 -/
def laws_FnExactFormatPlan.f (k : Nat) (l0 : List (S32)) : Option (Bool) := (laws_szNodeS.f k l0 1048576).bind fun t345 => (if t345 < 0 then (some true) else ((laws_toNodeS.f k l0).bind fun t346 => ((spec_FormatPlan.f k t346).bind fun t349 => ((laws_toNodeS.f k l0).bind fun t350 => ((impl_FormatPlan.f k t350).bind fun t353 => (if t353.toList = t349.toList then ((laws_toNodeS.f k l0).bind fun t354 => ((laws_eqNodeS.f k t350 t354).bind fun t357 => (if t357 = true then (some true) else (some false)))) else (some false)))))))
theorem laws_FnExactFormatPlan.mono : ∀ a0 k, LeO (laws_FnExactFormatPlan.f k a0) (laws_FnExactFormatPlan.f (k + 1) a0) := by
 intro a0 k
 unfold laws_FnExactFormatPlan.f
 repeat' first
   | (with_reducible exact impl_FormatPlan.mono _ _)
   | (with_reducible exact laws_eqNodeS.mono _ _ _)
   | (with_reducible exact laws_szNodeS.mono _ _ _)
   | (with_reducible exact laws_toNodeS.mono _ _)
   | (with_reducible exact spec_FormatPlan.mono _ _)
   | (with_reducible exact LeO.refl _)
   | (with_reducible exact LeO.none _)
   | (with_reducible refine LeO.ite ?_ ?_)
   | (with_reducible refine LeO.bind ?_ (fun _ => ?_))
   | exact impl_FormatPlan.mono _ _
   | exact laws_eqNodeS.mono _ _ _
   | exact laws_szNodeS.mono _ _ _
   | exact laws_toNodeS.mono _ _
   | exact spec_FormatPlan.mono _ _
   | exact LeO.none _
   | refine LeO.ite ?_ ?_
   | refine LeO.bind ?_ (fun _ => ?_)
set_option maxHeartbeats 8000000 in
set_option maxRecDepth 100000 in
theorem laws_FnExactFormatPlan.calls (k : Nat) (A0 : Option Addr) (c0 : Nat) (l0 : List (S32)) (r : Bool) (w : World) (hr0 : Kd.C k32 w A0 l0.length l0) (hc0 : l0.length ≤ c0) (htab_ : Tab.Tab w) (h : laws_FnExactFormatPlan.f k l0 = some r) :
  Calls Tryd.prog 3 #[.slice A0 l0.length c0] w fun e w' => e = .returned (.bool r) ∧ Below w.heap.size w w' := by
 have HTB_ := Aside0.mk htab_
 clear htab_
 have HR0 := Aside0.mk hr0
 have HC0 := Aside0.mk hc0
 clear hr0 hc0
 have HB := Aside0.mk (Below.refl w.heap.size w)
 have H : ((laws_szNodeS.f k l0 1048576).bind fun t345 => (if t345 < 0 then (some true) else ((laws_toNodeS.f k l0).bind fun t346 => ((spec_FormatPlan.f k t346).bind fun t349 => ((laws_toNodeS.f k l0).bind fun t350 => ((impl_FormatPlan.f k t350).bind fun t353 => (if t353.toList = t349.toList then ((laws_toNodeS.f k l0).bind fun t354 => ((laws_eqNodeS.f k t350 t354).bind fun t357 => (if t357 = true then (some true) else (some false)))) else (some false)))))))) = some r := h
 clear h
 replace H := Option.bind_eq_some_iff.mp H
 obtain ⟨t345, A20, H⟩ := H
 replace H : (if t345 < 0 then (some true) else ((laws_toNodeS.f k l0).bind fun t346 => ((spec_FormatPlan.f k t346).bind fun t349 => ((laws_toNodeS.f k l0).bind fun t350 => ((impl_FormatPlan.f k t350).bind fun t353 => (if t353.toList = t349.toList then ((laws_toNodeS.f k l0).bind fun t354 => ((laws_eqNodeS.f k t350 t354).bind fun t357 => (if t357 = true then (some true) else (some false)))) else (some false))))))) = some r := H
 have A2 := Aside0.mk A20
 clear A20
 by_cases c3 : t345 < 0
 ·rw [if_pos c3] at H
  have c3b0 : decide (t345 < 0) = true := decide_eq_true c3
  clear c3
  obtain rfl := Option.some.inj H
  go_enter Tryd.func3, Tryd.ntmps3
  go_wp2_with (first | ((with_reducible refine gate_callee (f := 4) rfl ?_); refine goesL_ (some 9) rfl rfl Tryd.func4 (by kernel_rfl) rfl #[.slice A0 l0.length c0, .int .i64 1048576] rfl b14_1 ?_; (with_reducible refine (laws_szNodeS.calls k _ _ l0 1048576 t345 _ ?side1 ?side2 A2.out).mono ?_); (case side1 => exact b14_6); (case side2 => exact HC0.out); rintro e w4 ⟨rfl, hb⟩; refine ⟨_, rfl, ?_⟩; have n0_ := Aside0.mk (below_step b14_0 hb); clear HB; have HB := n0_; clear n0_; (try clear hb); (try clear hb2); (try clear hk); (try clear hi)))
  go_ret
  exact ⟨by first | rfl | (simp [errW_none, errW_some] <;> rfl) | (simp [*, errW_none, errW_some] <;> rfl), by repeat (first | (with_reducible first | exact HB.out | apply below_alloc | apply pw_below_drewN | apply below_drew1) | exact HB.out)⟩
 ·rw [if_neg c3] at H
  have c3b0 : decide (t345 < 0) = false := decide_eq_false c3
  clear c3
  replace H := Option.bind_eq_some_iff.mp H
  obtain ⟨t346, A50, H⟩ := H
  replace H : ((spec_FormatPlan.f k t346).bind fun t349 => ((laws_toNodeS.f k l0).bind fun t350 => ((impl_FormatPlan.f k t350).bind fun t353 => (if t353.toList = t349.toList then ((laws_toNodeS.f k l0).bind fun t354 => ((laws_eqNodeS.f k t350 t354).bind fun t357 => (if t357 = true then (some true) else (some false)))) else (some false))))) = some r := H
  have A5 := Aside0.mk A50
  clear A50
  replace H := Option.bind_eq_some_iff.mp H
  obtain ⟨t349, A60, H⟩ := H
  replace H : ((laws_toNodeS.f k l0).bind fun t350 => ((impl_FormatPlan.f k t350).bind fun t353 => (if t353.toList = t349.toList then ((laws_toNodeS.f k l0).bind fun t354 => ((laws_eqNodeS.f k t350 t354).bind fun t357 => (if t357 = true then (some true) else (some false)))) else (some false)))) = some r := H
  have A6 := Aside0.mk A60
  clear A60
  replace H := Option.bind_eq_some_iff.mp H
  obtain ⟨t350, A70, H⟩ := H
  replace H : ((impl_FormatPlan.f k t350).bind fun t353 => (if t353.toList = t349.toList then ((laws_toNodeS.f k l0).bind fun t354 => ((laws_eqNodeS.f k t350 t354).bind fun t357 => (if t357 = true then (some true) else (some false)))) else (some false))) = some r := H
  have A7 := Aside0.mk A70
  clear A70
  replace H := Option.bind_eq_some_iff.mp H
  obtain ⟨t353, A80, H⟩ := H
  replace H : (if t353.toList = t349.toList then ((laws_toNodeS.f k l0).bind fun t354 => ((laws_eqNodeS.f k t350 t354).bind fun t357 => (if t357 = true then (some true) else (some false)))) else (some false)) = some r := H
  have A8 := Aside0.mk A80
  clear A80
  by_cases c9 : t353.toList = t349.toList
  ·rw [if_pos c9] at H
   have c9b0 : (t353.toList == t349.toList) = true := beq_iff_eq.mpr c9
   have c9b1 : (t353.toList != t349.toList) = false := bne_eq_false_iff_eq.mpr c9
   clear c9
   replace H := Option.bind_eq_some_iff.mp H
   obtain ⟨t354, A100, H⟩ := H
   replace H : ((laws_eqNodeS.f k t350 t354).bind fun t357 => (if t357 = true then (some true) else (some false))) = some r := H
   have A10 := Aside0.mk A100
   clear A100
   replace H := Option.bind_eq_some_iff.mp H
   obtain ⟨t357, A110, H⟩ := H
   replace H : (if t357 = true then (some true) else (some false)) = some r := H
   have A11 := Aside0.mk A110
   clear A110
   by_cases c12 : t357 = true
   ·subst c12
    have H1 : (some true) = some r := by rw [if_pos rfl] at H; exact H
    clear H
    have H := H1
    clear H1
    obtain rfl := Option.some.inj H
    go_enter Tryd.func3, Tryd.ntmps3
    go_wp2_with (first | ((with_reducible refine gate_callee (f := 4) rfl ?_); refine goesL_ (some 9) rfl rfl Tryd.func4 (by kernel_rfl) rfl #[.slice A0 l0.length c0, .int .i64 1048576] rfl b14_1 ?_; (with_reducible refine (laws_szNodeS.calls k _ _ l0 1048576 t345 _ ?side1 ?side2 A2.out).mono ?_); (case side1 => exact b14_6); (case side2 => exact HC0.out); rintro e w13 ⟨rfl, hb⟩; refine ⟨_, rfl, ?_⟩; have n0_ := Aside0.mk (below_step b14_0 hb); clear HB; have HB := n0_; clear n0_; (try clear hb); (try clear hb2); (try clear hk); (try clear hi)) | ((with_reducible refine gate_callee (f := 6) rfl ?_); refine goesL_ (some 13) rfl rfl Tryd.func6 (by kernel_rfl) rfl #[.slice A0 l0.length c0] rfl b14_1 ?_; (with_reducible refine (laws_toNodeS.calls k _ _ l0 t346 _ ?side1 ?side2 A5.out).mono ?_); (case side1 => exact b14_3); (case side2 => exact HC0.out); rintro e w14 ⟨v347, rfl, ho0, hb⟩; refine ⟨_, rfl, ?_⟩; have n0_ := Aside0.mk (Kd.S_lower ho0 (below_size b14_0)); have n1_ := Aside0.mk (below_step b14_0 hb); clear HB; have HO348 := n0_; have HB := n1_; clear n0_ n1_; (try clear hb); (try clear hb2); (try clear hk); (try clear hi); (try clear ho0); obtain ⟨Ao15, co15, eo15⟩ := Kd.S_slice HO348.out; subst eo15) | ((with_reducible refine gate_callee (f := 5) rfl ?_); refine goesL_ (some 14) rfl rfl Tryd.func5 (by kernel_rfl) rfl #[.slice Ao15 t346.length co15] rfl b14_1 ?_; (with_reducible refine (spec_FormatPlan.calls k _ _ t346 t349 _ ?side1 ?side2 A6.out).mono ?_); (case side1 => exact (by repeat (first | exact (Kd.S_reads' HO348.out).2.2 | (with_reducible refine Kd.C_alloc ?_ _) | (with_reducible refine Kd.C_drewN ?_ _) | (with_reducible refine Kd.C_drew ?_)))); (case side2 => exact (Kd.S_reads' HO348.out).2.1); rintro e w16 ⟨rfl, hb⟩; refine ⟨_, rfl, ?_⟩; have n0_ := Aside0.mk (Kd.S_below b14_2 hb); have n1_ := Aside0.mk (below_step b14_0 hb); clear HO348; clear HB; have HO348 := n0_; have HB := n1_; clear n0_ n1_; (try clear hb); (try clear hb2); (try clear hk); (try clear hi)) | ((with_reducible refine gate_callee (f := 6) rfl ?_); refine goesL_ (some 16) rfl rfl Tryd.func6 (by kernel_rfl) rfl #[.slice A0 l0.length c0] rfl b14_1 ?_; (with_reducible refine (laws_toNodeS.calls k _ _ l0 t350 _ ?side1 ?side2 A7.out).mono ?_); (case side1 => exact b14_3); (case side2 => exact HC0.out); rintro e w17 ⟨v351, rfl, ho0, hb⟩; refine ⟨_, rfl, ?_⟩; have n0_ := Aside0.mk (Kd.S_elder' b14_2 (Kd.S_base ho0) hb); have n1_ := Aside0.mk (Kd.S_lower (Kd.S_new' ho0 (Kd.S_lt b14_2)) (below_size b14_0)); have n2_ := Aside0.mk (below_step b14_0 hb); clear HO348; clear HB; have HO348 := n0_; have HO352 := n1_; have HB := n2_; clear n0_ n1_ n2_; (try clear hb); (try clear hb2); (try clear hk); (try clear hi); (try clear ho0); obtain ⟨Ao18, co18, eo18⟩ := Kd.S_slice HO352.out; subst eo18) | ((with_reducible refine gate_callee (f := 7) rfl ?_); refine goesL_ (some 18) rfl rfl Tryd.func7 (by kernel_rfl) rfl #[.slice Ao18 t350.length co18] rfl b14_1 ?_; (with_reducible refine (impl_FormatPlan.calls k _ _ t350 t353 _ ?side1 ?side2 (Tab.tabB HTB_.out b14_0) A8.out).mono ?_); (case side1 => exact b14_5); (case side2 => exact (Kd.S_reads' HO352.out).2.1); rintro e w19 ⟨rfl, hb⟩; refine ⟨_, rfl, ?_⟩; have n0_ := Aside0.mk (Kd.S_below b14_2 hb); have n1_ := Aside0.mk (Kd.S_below b14_4 hb); have n2_ := Aside0.mk (below_step b14_0 hb); clear HO348; clear HO352; clear HB; have HO348 := n0_; have HO352 := n1_; have HB := n2_; clear n0_ n1_ n2_; (try clear hb); (try clear hb2); (try clear hk); (try clear hi)) | ((with_reducible refine gate_callee (f := 6) rfl ?_); refine goesL_ (some 24) rfl rfl Tryd.func6 (by kernel_rfl) rfl #[.slice A0 l0.length c0] rfl b14_1 ?_; (with_reducible refine (laws_toNodeS.calls k _ _ l0 t354 _ ?side1 ?side2 A10.out).mono ?_); (case side1 => exact b14_3); (case side2 => exact HC0.out); rintro e w20 ⟨v355, rfl, ho0, hb⟩; refine ⟨_, rfl, ?_⟩; have n0_ := Aside0.mk (Kd.S_elder' b14_2 (Kd.S_base ho0) hb); have n1_ := Aside0.mk (Kd.S_elder' b14_4 (Kd.S_base ho0) hb); have n2_ := Aside0.mk (Kd.S_lower (Kd.S_new' (Kd.S_new' ho0 (Kd.S_lt b14_2)) (Kd.S_lt b14_4)) (below_size b14_0)); have n3_ := Aside0.mk (below_step b14_0 hb); clear HO348; clear HO352; clear HB; have HO348 := n0_; have HO352 := n1_; have HO356 := n2_; have HB := n3_; clear n0_ n1_ n2_ n3_; (try clear hb); (try clear hb2); (try clear hk); (try clear hi); (try clear ho0); obtain ⟨Ao21, co21, eo21⟩ := Kd.S_slice HO356.out; subst eo21) | ((with_reducible refine gate_callee (f := 8) rfl ?_); refine goesL_ (some 25) rfl rfl Tryd.func8 (by kernel_rfl) rfl #[.slice Ao18 t350.length co18, .slice Ao21 t354.length co21] rfl b14_1 ?_; (with_reducible refine (laws_eqNodeS.calls k _ _ t350 _ _ t354 true _ ?side1 ?side2 ?side3 ?side4 A11.out).mono ?_); (case side1 => exact b14_5); (case side2 => exact (Kd.S_reads' HO352.out).2.1); (case side3 => exact (by repeat (first | exact (Kd.S_reads' HO356.out).2.2 | (with_reducible refine Kd.C_alloc ?_ _) | (with_reducible refine Kd.C_drewN ?_ _) | (with_reducible refine Kd.C_drew ?_)))); (case side4 => exact (Kd.S_reads' HO356.out).2.1); rintro e w22 ⟨rfl, hb⟩; refine ⟨_, rfl, ?_⟩; have n0_ := Aside0.mk (Kd.S_below b14_2 hb); have n1_ := Aside0.mk (Kd.S_below b14_4 hb); have n2_ := Aside0.mk (Kd.S_below (by (with_reducible repeat (first | apply Kd.S_alloc | apply Kd.S_drewN | apply Kd.S_drew)); exact HO356.out) hb); have n3_ := Aside0.mk (below_step b14_0 hb); clear HO348; clear HO352; clear HO356; clear HB; have HO348 := n0_; have HO352 := n1_; have HO356 := n2_; have HB := n3_; clear n0_ n1_ n2_ n3_; (try clear hb); (try clear hb2); (try clear hk); (try clear hi)))
    go_ret
    exact ⟨by first | rfl | (simp [errW_none, errW_some] <;> rfl) | (simp [*, errW_none, errW_some] <;> rfl), by repeat (first | (with_reducible first | exact HB.out | apply below_alloc | apply pw_below_drewN | apply below_drew1) | exact HB.out)⟩
   ·replace c12 := Bool.eq_false_iff.mpr c12
    subst c12
    have H1 : (some false) = some r := by rw [if_neg (show ¬ (false = true) by decide)] at H; exact H
    clear H
    have H := H1
    clear H1
    obtain rfl := Option.some.inj H
    go_enter Tryd.func3, Tryd.ntmps3
    go_wp2_with (first | ((with_reducible refine gate_callee (f := 4) rfl ?_); refine goesL_ (some 9) rfl rfl Tryd.func4 (by kernel_rfl) rfl #[.slice A0 l0.length c0, .int .i64 1048576] rfl b14_1 ?_; (with_reducible refine (laws_szNodeS.calls k _ _ l0 1048576 t345 _ ?side1 ?side2 A2.out).mono ?_); (case side1 => exact b14_6); (case side2 => exact HC0.out); rintro e w23 ⟨rfl, hb⟩; refine ⟨_, rfl, ?_⟩; have n0_ := Aside0.mk (below_step b14_0 hb); clear HB; have HB := n0_; clear n0_; (try clear hb); (try clear hb2); (try clear hk); (try clear hi)) | ((with_reducible refine gate_callee (f := 6) rfl ?_); refine goesL_ (some 13) rfl rfl Tryd.func6 (by kernel_rfl) rfl #[.slice A0 l0.length c0] rfl b14_1 ?_; (with_reducible refine (laws_toNodeS.calls k _ _ l0 t346 _ ?side1 ?side2 A5.out).mono ?_); (case side1 => exact b14_3); (case side2 => exact HC0.out); rintro e w24 ⟨v347, rfl, ho0, hb⟩; refine ⟨_, rfl, ?_⟩; have n0_ := Aside0.mk (Kd.S_lower ho0 (below_size b14_0)); have n1_ := Aside0.mk (below_step b14_0 hb); clear HB; have HO348 := n0_; have HB := n1_; clear n0_ n1_; (try clear hb); (try clear hb2); (try clear hk); (try clear hi); (try clear ho0); obtain ⟨Ao25, co25, eo25⟩ := Kd.S_slice HO348.out; subst eo25) | ((with_reducible refine gate_callee (f := 5) rfl ?_); refine goesL_ (some 14) rfl rfl Tryd.func5 (by kernel_rfl) rfl #[.slice Ao25 t346.length co25] rfl b14_1 ?_; (with_reducible refine (spec_FormatPlan.calls k _ _ t346 t349 _ ?side1 ?side2 A6.out).mono ?_); (case side1 => exact (by repeat (first | exact (Kd.S_reads' HO348.out).2.2 | (with_reducible refine Kd.C_alloc ?_ _) | (with_reducible refine Kd.C_drewN ?_ _) | (with_reducible refine Kd.C_drew ?_)))); (case side2 => exact (Kd.S_reads' HO348.out).2.1); rintro e w26 ⟨rfl, hb⟩; refine ⟨_, rfl, ?_⟩; have n0_ := Aside0.mk (Kd.S_below b14_2 hb); have n1_ := Aside0.mk (below_step b14_0 hb); clear HO348; clear HB; have HO348 := n0_; have HB := n1_; clear n0_ n1_; (try clear hb); (try clear hb2); (try clear hk); (try clear hi)) | ((with_reducible refine gate_callee (f := 6) rfl ?_); refine goesL_ (some 16) rfl rfl Tryd.func6 (by kernel_rfl) rfl #[.slice A0 l0.length c0] rfl b14_1 ?_; (with_reducible refine (laws_toNodeS.calls k _ _ l0 t350 _ ?side1 ?side2 A7.out).mono ?_); (case side1 => exact b14_3); (case side2 => exact HC0.out); rintro e w27 ⟨v351, rfl, ho0, hb⟩; refine ⟨_, rfl, ?_⟩; have n0_ := Aside0.mk (Kd.S_elder' b14_2 (Kd.S_base ho0) hb); have n1_ := Aside0.mk (Kd.S_lower (Kd.S_new' ho0 (Kd.S_lt b14_2)) (below_size b14_0)); have n2_ := Aside0.mk (below_step b14_0 hb); clear HO348; clear HB; have HO348 := n0_; have HO352 := n1_; have HB := n2_; clear n0_ n1_ n2_; (try clear hb); (try clear hb2); (try clear hk); (try clear hi); (try clear ho0); obtain ⟨Ao28, co28, eo28⟩ := Kd.S_slice HO352.out; subst eo28) | ((with_reducible refine gate_callee (f := 7) rfl ?_); refine goesL_ (some 18) rfl rfl Tryd.func7 (by kernel_rfl) rfl #[.slice Ao28 t350.length co28] rfl b14_1 ?_; (with_reducible refine (impl_FormatPlan.calls k _ _ t350 t353 _ ?side1 ?side2 (Tab.tabB HTB_.out b14_0) A8.out).mono ?_); (case side1 => exact b14_5); (case side2 => exact (Kd.S_reads' HO352.out).2.1); rintro e w29 ⟨rfl, hb⟩; refine ⟨_, rfl, ?_⟩; have n0_ := Aside0.mk (Kd.S_below b14_2 hb); have n1_ := Aside0.mk (Kd.S_below b14_4 hb); have n2_ := Aside0.mk (below_step b14_0 hb); clear HO348; clear HO352; clear HB; have HO348 := n0_; have HO352 := n1_; have HB := n2_; clear n0_ n1_ n2_; (try clear hb); (try clear hb2); (try clear hk); (try clear hi)) | ((with_reducible refine gate_callee (f := 6) rfl ?_); refine goesL_ (some 24) rfl rfl Tryd.func6 (by kernel_rfl) rfl #[.slice A0 l0.length c0] rfl b14_1 ?_; (with_reducible refine (laws_toNodeS.calls k _ _ l0 t354 _ ?side1 ?side2 A10.out).mono ?_); (case side1 => exact b14_3); (case side2 => exact HC0.out); rintro e w30 ⟨v355, rfl, ho0, hb⟩; refine ⟨_, rfl, ?_⟩; have n0_ := Aside0.mk (Kd.S_elder' b14_2 (Kd.S_base ho0) hb); have n1_ := Aside0.mk (Kd.S_elder' b14_4 (Kd.S_base ho0) hb); have n2_ := Aside0.mk (Kd.S_lower (Kd.S_new' (Kd.S_new' ho0 (Kd.S_lt b14_2)) (Kd.S_lt b14_4)) (below_size b14_0)); have n3_ := Aside0.mk (below_step b14_0 hb); clear HO348; clear HO352; clear HB; have HO348 := n0_; have HO352 := n1_; have HO356 := n2_; have HB := n3_; clear n0_ n1_ n2_ n3_; (try clear hb); (try clear hb2); (try clear hk); (try clear hi); (try clear ho0); obtain ⟨Ao31, co31, eo31⟩ := Kd.S_slice HO356.out; subst eo31) | ((with_reducible refine gate_callee (f := 8) rfl ?_); refine goesL_ (some 25) rfl rfl Tryd.func8 (by kernel_rfl) rfl #[.slice Ao28 t350.length co28, .slice Ao31 t354.length co31] rfl b14_1 ?_; (with_reducible refine (laws_eqNodeS.calls k _ _ t350 _ _ t354 false _ ?side1 ?side2 ?side3 ?side4 A11.out).mono ?_); (case side1 => exact b14_5); (case side2 => exact (Kd.S_reads' HO352.out).2.1); (case side3 => exact (by repeat (first | exact (Kd.S_reads' HO356.out).2.2 | (with_reducible refine Kd.C_alloc ?_ _) | (with_reducible refine Kd.C_drewN ?_ _) | (with_reducible refine Kd.C_drew ?_)))); (case side4 => exact (Kd.S_reads' HO356.out).2.1); rintro e w32 ⟨rfl, hb⟩; refine ⟨_, rfl, ?_⟩; have n0_ := Aside0.mk (Kd.S_below b14_2 hb); have n1_ := Aside0.mk (Kd.S_below b14_4 hb); have n2_ := Aside0.mk (Kd.S_below (by (with_reducible repeat (first | apply Kd.S_alloc | apply Kd.S_drewN | apply Kd.S_drew)); exact HO356.out) hb); have n3_ := Aside0.mk (below_step b14_0 hb); clear HO348; clear HO352; clear HO356; clear HB; have HO348 := n0_; have HO352 := n1_; have HO356 := n2_; have HB := n3_; clear n0_ n1_ n2_ n3_; (try clear hb); (try clear hb2); (try clear hk); (try clear hi)))
    go_ret
    exact ⟨by first | rfl | (simp [errW_none, errW_some] <;> rfl) | (simp [*, errW_none, errW_some] <;> rfl), by repeat (first | (with_reducible first | exact HB.out | apply below_alloc | apply pw_below_drewN | apply below_drew1) | exact HB.out)⟩
  ·rw [if_neg c9] at H
   have c9b0 : (t353.toList == t349.toList) = false := beq_eq_false_iff_ne.mpr c9
   have c9b1 : (t353.toList != t349.toList) = true := bne_iff_ne.mpr c9
   obtain rfl := Option.some.inj H
   go_enter Tryd.func3, Tryd.ntmps3
   go_wp2_with (first | ((with_reducible refine gate_callee (f := 4) rfl ?_); refine goesL_ (some 9) rfl rfl Tryd.func4 (by kernel_rfl) rfl #[.slice A0 l0.length c0, .int .i64 1048576] rfl b14_1 ?_; (with_reducible refine (laws_szNodeS.calls k _ _ l0 1048576 t345 _ ?side1 ?side2 A2.out).mono ?_); (case side1 => exact b14_6); (case side2 => exact HC0.out); rintro e w33 ⟨rfl, hb⟩; refine ⟨_, rfl, ?_⟩; have n0_ := Aside0.mk (below_step b14_0 hb); clear HB; have HB := n0_; clear n0_; (try clear hb); (try clear hb2); (try clear hk); (try clear hi)) | ((with_reducible refine gate_callee (f := 6) rfl ?_); refine goesL_ (some 13) rfl rfl Tryd.func6 (by kernel_rfl) rfl #[.slice A0 l0.length c0] rfl b14_1 ?_; (with_reducible refine (laws_toNodeS.calls k _ _ l0 t346 _ ?side1 ?side2 A5.out).mono ?_); (case side1 => exact b14_3); (case side2 => exact HC0.out); rintro e w34 ⟨v347, rfl, ho0, hb⟩; refine ⟨_, rfl, ?_⟩; have n0_ := Aside0.mk (Kd.S_lower ho0 (below_size b14_0)); have n1_ := Aside0.mk (below_step b14_0 hb); clear HB; have HO348 := n0_; have HB := n1_; clear n0_ n1_; (try clear hb); (try clear hb2); (try clear hk); (try clear hi); (try clear ho0); obtain ⟨Ao35, co35, eo35⟩ := Kd.S_slice HO348.out; subst eo35) | ((with_reducible refine gate_callee (f := 5) rfl ?_); refine goesL_ (some 14) rfl rfl Tryd.func5 (by kernel_rfl) rfl #[.slice Ao35 t346.length co35] rfl b14_1 ?_; (with_reducible refine (spec_FormatPlan.calls k _ _ t346 t349 _ ?side1 ?side2 A6.out).mono ?_); (case side1 => exact (by repeat (first | exact (Kd.S_reads' HO348.out).2.2 | (with_reducible refine Kd.C_alloc ?_ _) | (with_reducible refine Kd.C_drewN ?_ _) | (with_reducible refine Kd.C_drew ?_)))); (case side2 => exact (Kd.S_reads' HO348.out).2.1); rintro e w36 ⟨rfl, hb⟩; refine ⟨_, rfl, ?_⟩; have n0_ := Aside0.mk (Kd.S_below b14_2 hb); have n1_ := Aside0.mk (below_step b14_0 hb); clear HO348; clear HB; have HO348 := n0_; have HB := n1_; clear n0_ n1_; (try clear hb); (try clear hb2); (try clear hk); (try clear hi)) | ((with_reducible refine gate_callee (f := 6) rfl ?_); refine goesL_ (some 16) rfl rfl Tryd.func6 (by kernel_rfl) rfl #[.slice A0 l0.length c0] rfl b14_1 ?_; (with_reducible refine (laws_toNodeS.calls k _ _ l0 t350 _ ?side1 ?side2 A7.out).mono ?_); (case side1 => exact b14_3); (case side2 => exact HC0.out); rintro e w37 ⟨v351, rfl, ho0, hb⟩; refine ⟨_, rfl, ?_⟩; have n0_ := Aside0.mk (Kd.S_elder' b14_2 (Kd.S_base ho0) hb); have n1_ := Aside0.mk (Kd.S_lower (Kd.S_new' ho0 (Kd.S_lt b14_2)) (below_size b14_0)); have n2_ := Aside0.mk (below_step b14_0 hb); clear HO348; clear HB; have HO348 := n0_; have HO352 := n1_; have HB := n2_; clear n0_ n1_ n2_; (try clear hb); (try clear hb2); (try clear hk); (try clear hi); (try clear ho0); obtain ⟨Ao38, co38, eo38⟩ := Kd.S_slice HO352.out; subst eo38) | ((with_reducible refine gate_callee (f := 7) rfl ?_); refine goesL_ (some 18) rfl rfl Tryd.func7 (by kernel_rfl) rfl #[.slice Ao38 t350.length co38] rfl b14_1 ?_; (with_reducible refine (impl_FormatPlan.calls k _ _ t350 t353 _ ?side1 ?side2 (Tab.tabB HTB_.out b14_0) A8.out).mono ?_); (case side1 => exact b14_5); (case side2 => exact (Kd.S_reads' HO352.out).2.1); rintro e w39 ⟨rfl, hb⟩; refine ⟨_, rfl, ?_⟩; have n0_ := Aside0.mk (Kd.S_below b14_2 hb); have n1_ := Aside0.mk (Kd.S_below b14_4 hb); have n2_ := Aside0.mk (below_step b14_0 hb); clear HO348; clear HO352; clear HB; have HO348 := n0_; have HO352 := n1_; have HB := n2_; clear n0_ n1_ n2_; (try clear hb); (try clear hb2); (try clear hk); (try clear hi)))
   go_ret
   exact ⟨by first | rfl | (simp [errW_none, errW_some] <;> rfl) | (simp [*, errW_none, errW_some] <;> rfl), by repeat (first | (with_reducible first | exact HB.out | apply below_alloc | apply pw_below_drewN | apply below_drew1) | exact HB.out)⟩

/-- THE ONE PURE STATEMENT of laws_FnExactFormatPlan. -/
def laws_FnExactFormatPlan.Pure : Prop := ∀ (l0 : List (S32)), (fun l : List (S32) => l.length ≤ maxLen ∧ ∀ y ∈ l, (fun x : S32 => (fun x : Int => (Lit.int .i64 x).wf = true) x.f0 ∧ (fun x : Int => (Lit.int .i64 x).wf = true) x.f1 ∧ (fun x : Int => (Lit.int .i64 x).wf = true) x.f2 ∧ (fun x : Int => (Lit.int .i64 x).wf = true) x.f3 ∧ (fun x : Int => (Lit.int .i64 x).wf = true) x.f4 ∧ (fun x : Int => (Lit.int .i64 x).wf = true) x.f5 ∧ (fun l : List Int => l.length ≤ maxLen ∧ ∀ y ∈ l, (fun x : Int => (Lit.int .i64 x).wf = true) y) x.f6) y) l0 → l0.length * 72 ≤ 140737488351232 → ∃ k, laws_FnExactFormatPlan.f k l0 = some true

end Go.Proofs.YteibdjkfkcckkaaDoor.PFnExactFormatPlan
