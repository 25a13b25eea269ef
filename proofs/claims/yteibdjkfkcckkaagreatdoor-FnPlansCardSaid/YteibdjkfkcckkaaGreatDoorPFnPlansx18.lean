-- Written by fprint, a program of this session, out of Lean's own print of the translation. Lean checks it.
import Derived.Test.YteibdjkfkcckkaaGreatDoorDense
import Derived.Test.YteibdjkfkcckkaaGreatDoorShort
import Derived.Test.YteibdjkfkcckkaaGreatDoorPFnPlansx0
import Derived.Test.YteibdjkfkcckkaaGreatDoorPFnPlansx1
import Derived.Test.YteibdjkfkcckkaaGreatDoorPFnPlansx5
import Derived.Test.YteibdjkfkcckkaaGreatDoorPFnPlansx8
import Derived.Test.YteibdjkfkcckkaaGreatDoorPFnPlansx13
import Derived.Test.YteibdjkfkcckkaaGreatDoorPFnPlansx15
import Derived.Test.YteibdjkfkcckkaaGreatDoorPFnPlansx17
namespace Go.Proofs.YteibdjkfkcckkaaGreatDoor.PFnPlans
open Go.RowKit Go.Proofs.YteibdjkfkcckkaaGreatDoorW.PrintWords Go.Proofs.YteibdjkfkcckkaaGreatDoorW.PrintLast Go.Proofs.YteibdjkfkcckkaaGreatDoorW.PrintMore
attribute [local go_sem] max2_int min2_int max_two min_two max_three min_three max_four min_four
set_option linter.unusedVariables false
set_option maxHeartbeats 8000000
set_option maxRecDepth 100000
set_option linter.unusedSimpArgs false

theorem b18_2 {p : Prop} (h : p := by exact cB1_ GE526.out) : p := h
theorem b18_3 {p : Prop} (h : p := by exact cC_ ((Kd.N_reads' HO516.out).2.2)) : p := h
theorem b18_4 {p : Prop} (h : p := by exact cN_ HO516.out) : p := h
theorem b18_7 {p : Prop} (h : p := by exact cN_ HO_527002.out) : p := h
/-! ### laws_FnPlans: function 3 -/
mutual
def laws_FnPlans.j0 : Nat → List (S36) → Bool → Int → Int → List (S36) → Option (Bool)
 | 0, _, _, _, _, _ => none
 | k + 1, x3, x44, x527000, x527001, x527002 => if x44 = true then (some false) else (laws_FnPlans.l0 k x3 0 x527000 x527001 x527002)
def laws_FnPlans.l0 : Nat → List (S36) → Int → Int → Int → List (S36) → Option (Bool)
 | 0, _, _, _, _, _ => none
 | k + 1, x3, x6, x527000, x527001, x527002 => if x6 < (x3.length : Int) then ((impl_WidthOf.f k x527002 x6).bind fun bt528 => ((impl_WidthOf.f k x3 x6).bind fun bt530 => (if bt528.2 = bt530.2 then (if 0 ≤ x6 then (if x6 < (x527002.length : Int) then (if ((rd_T36 x527002 x6).f0) = ((rd_T36 x3 x6).f0) then (laws_FnPlans.l0 k x3 (wrap64 (x6 + 1)) x527000 x527001 x527002) else (some false)) else (none)) else (none)) else (some false)))) else (some true)
end
def laws_FnPlans.f (k : Nat) (l0 : List Int) : Option (Bool) := (laws_lwBig.f l0).bind fun t513 => (if t513 = true then (some true) else ((spec_DrawFormatPlan.f k l0).bind fun t514 => ((impl_FormatPlan.f k t514).bind fun t517 => (if t517.toList = ([] : List UInt8) then ((spec_PlanFault.f k t514).bind fun t518 => (if t518 = 0 then (some false) else ((impl_PlanFault.f k t514).bind fun t519 => ((spec_PlanFault.f k t514).bind fun t520 => (some (t519 == t520)))))) else ((impl_ParsePlan.f k t517).bind fun bt521 => (if bt521.1 = 0 then (if (bt521.2.2.length : Int) = (t514.length : Int) then ((impl_FormatPlan.f k bt521.2.2).bind fun t527 => (laws_FnPlans.j0 k t514 (t527.toList != t517.toList) bt521.1 bt521.2.1 bt521.2.2)) else (laws_FnPlans.j0 k t514 true bt521.1 bt521.2.1 bt521.2.2)) else (laws_FnPlans.j0 k t514 true bt521.1 bt521.2.1 bt521.2.2)))))))
theorem laws_FnPlans.mono_l : ∀ k, (∀ y0 y1 y2 y3 y4, LeO (laws_FnPlans.j0 k y0 y1 y2 y3 y4) (laws_FnPlans.j0 (k + 1) y0 y1 y2 y3 y4)) ∧ (∀ y0 y1 y2 y3 y4, LeO (laws_FnPlans.l0 k y0 y1 y2 y3 y4) (laws_FnPlans.l0 (k + 1) y0 y1 y2 y3 y4))
 | 0 => ⟨fun _ _ _ _ _ r h => by simp [laws_FnPlans.j0] at h, fun _ _ _ _ _ r h => by simp [laws_FnPlans.l0] at h⟩
 | k + 1 => by
  obtain ⟨ih0, ih1⟩ := laws_FnPlans.mono_l k
  refine ⟨?_, ?_⟩
  ·intro y0 y1 y2 y3 y4
   unfold laws_FnPlans.j0
   repeat' first
   | (with_reducible exact ih0 _ _ _ _ _)
   | (with_reducible exact ih1 _ _ _ _ _)
   | (with_reducible exact impl_FormatPlan.mono _ _)
   | (with_reducible exact impl_ParsePlan.mono _ _)
   | (with_reducible exact impl_PlanFault.mono _ _)
   | (with_reducible exact impl_WidthOf.mono _ _ _)
   | (with_reducible exact spec_DrawFormatPlan.mono _ _)
   | (with_reducible exact spec_PlanFault.mono _ _)
   | (with_reducible exact LeO.refl _)
   | (with_reducible exact LeO.none _)
   | (with_reducible refine LeO.ite ?_ ?_)
   | (with_reducible refine LeO.bind ?_ (fun _ => ?_))
   | refine LeO.ite ?_ ?_
   | refine LeO.bind ?_ (fun _ => ?_)
  ·intro y0 y1 y2 y3 y4
   unfold laws_FnPlans.l0
   repeat' first
   | (with_reducible exact ih0 _ _ _ _ _)
   | (with_reducible exact ih1 _ _ _ _ _)
   | (with_reducible exact impl_FormatPlan.mono _ _)
   | (with_reducible exact impl_ParsePlan.mono _ _)
   | (with_reducible exact impl_PlanFault.mono _ _)
   | (with_reducible exact impl_WidthOf.mono _ _ _)
   | (with_reducible exact spec_DrawFormatPlan.mono _ _)
   | (with_reducible exact spec_PlanFault.mono _ _)
   | (with_reducible exact LeO.refl _)
   | (with_reducible exact LeO.none _)
   | (with_reducible refine LeO.ite ?_ ?_)
   | (with_reducible refine LeO.bind ?_ (fun _ => ?_))
   | refine LeO.ite ?_ ?_
   | refine LeO.bind ?_ (fun _ => ?_)
theorem laws_FnPlans.mono : ∀ a0 k, LeO (laws_FnPlans.f k a0) (laws_FnPlans.f (k + 1) a0) := by
 intro a0 k
 obtain ⟨ih0, ih1⟩ := laws_FnPlans.mono_l k
 unfold laws_FnPlans.f
 repeat' first
   | (with_reducible exact ih0 _ _ _ _ _)
   | (with_reducible exact ih1 _ _ _ _ _)
   | (with_reducible exact impl_FormatPlan.mono _ _)
   | (with_reducible exact impl_ParsePlan.mono _ _)
   | (with_reducible exact impl_PlanFault.mono _ _)
   | (with_reducible exact impl_WidthOf.mono _ _ _)
   | (with_reducible exact spec_DrawFormatPlan.mono _ _)
   | (with_reducible exact spec_PlanFault.mono _ _)
   | (with_reducible exact LeO.refl _)
   | (with_reducible exact LeO.none _)
   | (with_reducible refine LeO.ite ?_ ?_)
   | (with_reducible refine LeO.bind ?_ (fun _ => ?_))
   | refine LeO.ite ?_ ?_
   | refine LeO.bind ?_ (fun _ => ?_)
def laws_FnPlans.T13 : Bool × List (List Nat × List Nat) := (true, [([], []), ([0], [0]), ([], []), ([1, 2], [1, 2]), ([3], [3]), ([], []), ([], []), ([5, 6, 3], [5, 6]), ([7], [7]), ([4, 8], [4, 8]), ([9, 7], [9]), ([10], [10]), ([11, 10], [10, 11]), ([10], [10]), ([12, 13, 10], [10, 12, 13]), ([14, 10], [10, 14]), ([15, 10], [10, 15]), ([10], [10]), ([10], [10]), ([17, 18, 10], [10, 17, 18]), ([19, 10], [10, 19]), ([20, 10], [10, 20]), ([16, 21, 10], [10, 16, 21]), ([10, 22], [10, 22])])
def laws_FnPlans.B13 : List Nat := [0, 1, 0, 7, 15, 0, 0, 111, 239, 511, 1023, 2047, 4095, 2047, 16383, 32767, 65535, 2047, 2047, 395263, 919551, 1968127, 4194303, 8388607]
theorem laws_FnPlans.tab13 : rtab .any (opsOf Tryz.f3 13) = laws_FnPlans.T13 := by kernel_rfl
theorem laws_FnPlans.bits13 : waitsOk laws_FnPlans.T13.2 laws_FnPlans.B13 = true := by kernel_rfl
theorem laws_FnPlans.calls (k : Nat) (A0 : Option Addr) (c0 : Nat) (l0 : List Int) (r : Bool) (w : World) (hr0 : Kd.C (Kd.int .u8) w A0 l0.length l0) (hc0 : l0.length ≤ c0) (htab_ : Tab.Tab w) (h : laws_FnPlans.f k l0 = some r) :
  Calls Tryz.prog 3 #[.slice A0 l0.length c0] w fun e w' => e = .returned (.bool r) ∧ Below w.heap.size w w' := by
 have HTB_ := Aside0.mk htab_
 clear htab_
 have hfd32_1 : ∀ (x0_ x1_ : Value) (w_ : World), Sem.run Tryz.prog (Instr.field 32 (.agg #[x0_, x1_]) 1) w_ = .ok x1_ w_ := fun _ _ _ => by kernel_rfl
 have hu29 := Tryz.underlying29
 have HR0 := Aside0.mk hr0
 have HC0 := Aside0.mk hc0
 clear hr0 hc0
 have HB := Aside0.mk (Below.refl w.heap.size w)
 have H : ((laws_lwBig.f l0).bind fun t513 => (if t513 = true then (some true) else ((spec_DrawFormatPlan.f k l0).bind fun t514 => ((impl_FormatPlan.f k t514).bind fun t517 => (if t517.toList = ([] : List UInt8) then ((spec_PlanFault.f k t514).bind fun t518 => (if t518 = 0 then (some false) else ((impl_PlanFault.f k t514).bind fun t519 => ((spec_PlanFault.f k t514).bind fun t520 => (some (t519 == t520)))))) else ((impl_ParsePlan.f k t517).bind fun bt521 => (if bt521.1 = 0 then (if (bt521.2.2.length : Int) = (t514.length : Int) then ((impl_FormatPlan.f k bt521.2.2).bind fun t527 => (laws_FnPlans.j0 k t514 (t527.toList != t517.toList) bt521.1 bt521.2.1 bt521.2.2)) else (laws_FnPlans.j0 k t514 true bt521.1 bt521.2.1 bt521.2.2)) else (laws_FnPlans.j0 k t514 true bt521.1 bt521.2.1 bt521.2.2)))))))) = some r := h
 clear h
 obtain ⟨t513, A2, H⟩ := bnd_ H
 try dsimp only at H
 by_cases c3 : t513 = true
 ·subst c3
  rw [if_pos rfl] at H
  obtain rfl := Option.some.inj H
  go_enter Tryz.func3, Tryz.ntmps3
  go_wp2_with (first | (refine gl_ 5 (some 8) Tryz.func5 #[.slice A0 l0.length c0] ?_; (with_reducible refine (laws_lwBig.calls _ _ l0 true _ ?side1 ?side2 A2.out).mono ?_); (case side1 => exact cC_ HR0.out); (case side2 => exact HC0.out); rintro e w' ⟨rfl, ⟨nd, rfl⟩⟩; refine ⟨_, rfl, ?_⟩))
  go_ret
  exact ⟨ce_, cB0_⟩
 replace c3 := Bool.eq_false_iff.mpr c3
 subst c3
 rw [if_neg (show ¬ (false = true) by decide)] at H
 obtain ⟨t514, A4, H⟩ := bnd_ H
 try dsimp only at H
 obtain ⟨t517, A5, H⟩ := bnd_ H
 try dsimp only at H
 by_cases c6 : t517.toList = ([] : List UInt8)
 ·rw [if_pos c6] at H
  have c6b0 : (t517.toList == ([] : List UInt8)) = true := beq_iff_eq.mpr c6
  have c6b1 : (t517.toList != ([] : List UInt8)) = false := bne_eq_false_iff_eq.mpr c6
  clear c6
  obtain ⟨t518, A7, H⟩ := bnd_ H
  try dsimp only at H
  by_cases c8 : t518 = 0
  ·rw [if_pos c8] at H
   have c8b0 : (t518 == 0) = true := beq_iff_eq.mpr c8
   have c8b1 : (t518 != 0) = false := bne_eq_false_iff_eq.mpr c8
   clear c8
   obtain rfl := Option.some.inj H
   go_enter Tryz.func3, Tryz.ntmps3
   go_wp2_with (first | (refine gl_ 5 (some 8) Tryz.func5 #[.slice A0 l0.length c0] ?_; (with_reducible refine (laws_lwBig.calls _ _ l0 false _ ?side1 ?side2 A2.out).mono ?_); (case side1 => exact cC_ HR0.out); (case side2 => exact HC0.out); rintro e w' ⟨rfl, ⟨nd, rfl⟩⟩; refine ⟨_, rfl, ?_⟩) | (refine gl_ 6 (some 10) Tryz.func6 #[.slice A0 l0.length c0] ?_; (with_reducible refine (spec_DrawFormatPlan.calls k _ _ l0 t514 _ ?side1 ?side2 A4.out).mono ?_); (case side1 => exact cC_ HR0.out); (case side2 => exact HC0.out); rintro e w9 ⟨v515, rfl, ho0, hb⟩; refine ⟨_, rfl, ?_⟩; have HO516 := Aside0.mk (Kd.N_lower (Kd.N_mono (ok' := fun k_ => True) ho0 (fun k_ hk_ => trivial)) (below_size cB0_)); replace HB := Aside0.mk (below_step cB0_ hb); (try clear hb); (try clear ho0); obtain ⟨Ao10, co10, eo10⟩ := Kd.N_slice HO516.out; subst eo10) | (refine gl_ 7 (some 12) Tryz.func7 #[.slice Ao10 t514.length co10] ?_; (with_reducible refine (impl_FormatPlan.calls k _ _ t514 t517 _ ?side1 ?side2 (Tab.tabB HTB_.out cB0_) A5.out).mono ?_); (case side1 => exact b18_3); (case side2 => exact (Kd.N_reads' HO516.out).2.1); rintro e w11 ⟨rfl, hb⟩; refine ⟨_, rfl, ?_⟩; replace HO516 := Aside0.mk (Kd.N_below b18_4 hb); replace HB := Aside0.mk (below_step cB0_ hb); (try clear hb)) | (refine gl_ 8 (some 16) Tryz.func8 #[.slice Ao10 t514.length co10] ?_; (with_reducible refine (spec_PlanFault.calls k _ _ t514 t518 _ ?side1 ?side2 A7.out).mono ?_); (case side1 => exact b18_3); (case side2 => exact (Kd.N_reads' HO516.out).2.1); rintro e w12 ⟨rfl, hb⟩; refine ⟨_, rfl, ?_⟩; replace HO516 := Aside0.mk (Kd.N_below b18_4 hb); replace HB := Aside0.mk (below_step cB0_ hb); (try clear hb)))
   go_ret
   exact ⟨ce_, cB0_⟩
  rw [if_neg c8] at H
  have c8b0 : (t518 == 0) = false := beq_eq_false_iff_ne.mpr c8
  have c8b1 : (t518 != 0) = true := bne_iff_ne.mpr c8
  obtain ⟨t519, A13, H⟩ := bnd_ H
  try dsimp only at H
  obtain ⟨t520, A14, H⟩ := bnd_ H
  try dsimp only at H
  obtain rfl := Option.some.inj H
  go_enter Tryz.func3, Tryz.ntmps3
  go_wp2_with (first | (refine gl_ 5 (some 8) Tryz.func5 #[.slice A0 l0.length c0] ?_; (with_reducible refine (laws_lwBig.calls _ _ l0 false _ ?side1 ?side2 A2.out).mono ?_); (case side1 => exact cC_ HR0.out); (case side2 => exact HC0.out); rintro e w' ⟨rfl, ⟨nd, rfl⟩⟩; refine ⟨_, rfl, ?_⟩) | (refine gl_ 6 (some 10) Tryz.func6 #[.slice A0 l0.length c0] ?_; (with_reducible refine (spec_DrawFormatPlan.calls k _ _ l0 t514 _ ?side1 ?side2 A4.out).mono ?_); (case side1 => exact cC_ HR0.out); (case side2 => exact HC0.out); rintro e w15 ⟨v515, rfl, ho0, hb⟩; refine ⟨_, rfl, ?_⟩; have HO516 := Aside0.mk (Kd.N_lower (Kd.N_mono (ok' := fun k_ => True) ho0 (fun k_ hk_ => trivial)) (below_size cB0_)); replace HB := Aside0.mk (below_step cB0_ hb); (try clear hb); (try clear ho0); obtain ⟨Ao16, co16, eo16⟩ := Kd.N_slice HO516.out; subst eo16) | (refine gl_ 7 (some 12) Tryz.func7 #[.slice Ao16 t514.length co16] ?_; (with_reducible refine (impl_FormatPlan.calls k _ _ t514 t517 _ ?side1 ?side2 (Tab.tabB HTB_.out cB0_) A5.out).mono ?_); (case side1 => exact b18_3); (case side2 => exact (Kd.N_reads' HO516.out).2.1); rintro e w17 ⟨rfl, hb⟩; refine ⟨_, rfl, ?_⟩; replace HO516 := Aside0.mk (Kd.N_below b18_4 hb); replace HB := Aside0.mk (below_step cB0_ hb); (try clear hb)) | (refine gl_ 8 (some 16) Tryz.func8 #[.slice Ao16 t514.length co16] ?_; (with_reducible refine (spec_PlanFault.calls k _ _ t514 t518 _ ?side1 ?side2 A7.out).mono ?_); (case side1 => exact b18_3); (case side2 => exact (Kd.N_reads' HO516.out).2.1); rintro e w18 ⟨rfl, hb⟩; refine ⟨_, rfl, ?_⟩; replace HO516 := Aside0.mk (Kd.N_below b18_4 hb); replace HB := Aside0.mk (below_step cB0_ hb); (try clear hb)) | (go_at_call 9; (with_reducible refine (impl_PlanFault.calls k _ _ t514 t519 _ ?side1 ?side2 A13.out).mono ?_); (case side1 => exact b18_3); (case side2 => exact (Kd.N_reads' HO516.out).2.1); rintro e w19 ⟨rfl, hb⟩; replace HO516 := Aside0.mk (Kd.N_below b18_4 hb); replace HB := Aside0.mk (below_step cB0_ hb); (try clear hb)) | (go_at_call 8; (with_reducible refine (spec_PlanFault.calls k _ _ t514 t520 _ ?side1 ?side2 A14.out).mono ?_); (case side1 => exact b18_3); (case side2 => exact (Kd.N_reads' HO516.out).2.1); rintro e w20 ⟨rfl, hb⟩; replace HO516 := Aside0.mk (Kd.N_below b18_4 hb); replace HB := Aside0.mk (below_step cB0_ hb); (try clear hb)))
  go_ret
  exact ⟨ce_, cB0_⟩
 rw [if_neg c6] at H
 have c6b0 : (t517.toList == ([] : List UInt8)) = false := beq_eq_false_iff_ne.mpr c6
 have c6b1 : (t517.toList != ([] : List UInt8)) = true := bne_iff_ne.mpr c6
 obtain ⟨⟨t521, t522, t523⟩, A21, H⟩ := bnd_ H
 try dsimp only at H
 have HC22 := Aside0.mk H
 clear H
 go_enter Tryz.func3, Tryz.ntmps3
 go_upto_region 8 with (first | (refine gl_ 5 (some 8) Tryz.func5 #[.slice A0 l0.length c0] ?_; (with_reducible refine (laws_lwBig.calls _ _ l0 false _ ?side1 ?side2 A2.out).mono ?_); (case side1 => exact cC_ HR0.out); (case side2 => exact HC0.out); rintro e w' ⟨rfl, ⟨nd, rfl⟩⟩; refine ⟨_, rfl, ?_⟩) | (refine gl_ 6 (some 10) Tryz.func6 #[.slice A0 l0.length c0] ?_; (with_reducible refine (spec_DrawFormatPlan.calls k _ _ l0 t514 _ ?side1 ?side2 A4.out).mono ?_); (case side1 => exact cC_ HR0.out); (case side2 => exact HC0.out); rintro e w23 ⟨v515, rfl, ho0, hb⟩; refine ⟨_, rfl, ?_⟩; have HO516 := Aside0.mk (Kd.N_lower (Kd.N_mono (ok' := fun k_ => True) ho0 (fun k_ hk_ => trivial)) (below_size cB0_)); replace HB := Aside0.mk (below_step cB0_ hb); (try clear hb); (try clear ho0); obtain ⟨Ao24, co24, eo24⟩ := Kd.N_slice HO516.out; subst eo24) | (refine gl_ 7 (some 12) Tryz.func7 #[.slice Ao24 t514.length co24] ?_; (with_reducible refine (impl_FormatPlan.calls k _ _ t514 t517 _ ?side1 ?side2 (Tab.tabB HTB_.out cB0_) A5.out).mono ?_); (case side1 => exact b18_3); (case side2 => exact (Kd.N_reads' HO516.out).2.1); rintro e w25 ⟨rfl, hb⟩; refine ⟨_, rfl, ?_⟩; replace HO516 := Aside0.mk (Kd.N_below b18_4 hb); replace HB := Aside0.mk (below_step cB0_ hb); (try clear hb)) | (refine gl_ 10 (some 26) Tryz.func10 #[.string t517] ?_; (with_reducible refine (impl_ParsePlan.calls k t517 t521 t522 t523 _ (Tab.tabB HTB_.out cB0_) A21.out).mono ?_); rintro e w26 ⟨v524, rfl, ho0, hb⟩; refine ⟨_, rfl, ?_⟩; have HO525 := Aside0.mk (Kd.N_lower (Kd.N_mono (ok' := fun k_ => some k_ ≠ (.slice Ao24 t514.length co24 : Value).ownBlock) ho0 (fun k_ hk_ => (Kd.fresh' (Kd.N_lt b18_4) k_ hk_))) (below_size cB0_)); replace HO516 := Aside0.mk (Kd.N_elder' b18_4 (Kd.N_base ho0) hb); replace HB := Aside0.mk (below_step cB0_ hb); (try clear hb); (try clear ho0)) | ((with_reducible refine gate_dst (N := 5) rfl ?_); (try (refine gate_guard (by rfl) ?_; dsimp only)); refine box_event ?hg (N := 5) ?hd (cs := #[.int .i64 0, .int .i64 0, .slice none 0 0]) (t := 29) ?hr ?_; (case hd => rfl); (case hg => rfl); (case hr => first | (go_simp; done) | (go_simp; rfl)); intro gb526 hg w27 hbox hb; replace HO516 := Aside0.mk (Kd.N_below (Kd.N_elderB b18_4 gb526 (Nat.le_of_eq hg.symm)) hb); replace HO525 := Aside0.mk (Kd.N_below (Kd.N_elderB (cN_ HO525.out) gb526 (Nat.le_of_eq hg.symm)) hb); have BK526 := Aside0.mk (hbox); have GW526 := Aside0.mk ((by rw [hg]; exact (below_size cB0_) : w.heap.size ≤ gb526)); have GE526 := Aside0.mk ((by rw [hg]; exact (below_size cB0_) : w.heap.size ≤ gb526)); replace HB := Aside0.mk (below_step cB0_ hb); clear hb hbox hg; obtain ⟨hcz28_0, hcz28_1, hcz28_2, hfz28_0, hfz28_1, hfz28_2⟩ := cells3 BK526.out; obtain ⟨Ao29, co29, eo29⟩ := Kd.N_slice HO525.out; subst eo29))
 (try simp only [Act.put, List.setIfInBounds_toArray, List.set_cons_zero, List.set_cons_succ])
 go_cut [44] (fun v44 wc => ∃ (kq : Nat) (x44_21 : Bool), v44 = .bool x44_21 ∧ Aside0 (laws_FnPlans.j0 kq t514 x44_21 t521 t522 t523 = some r) ∧ Aside0 (kq ≤ k) ∧ Aside0 (Kd.N k36 36 wc w.heap.size (fun k_ => some k_ ≠ ((.slice Ao29 t523.length co29) : Value).ownBlock ∧ k_ ≠ gb526) (.slice Ao24 t514.length co24) t514) ∧ Aside0 (Kd.N k36 36 wc w.heap.size (fun k_ => some k_ ≠ ((.slice Ao24 t514.length co24) : Value).ownBlock ∧ k_ ≠ gb526) (.slice Ao29 t523.length co29) t523) ∧ Aside0 (wc.heap[gb526]? = some (.cells #[.int .i64 t521, .int .i64 t522, (.slice Ao29 t523.length co29)] 29 (0, 0))) ∧ Aside0 (Below w.heap.size w wc))
 case first =>
  have H := HC22.out
  clear HC22
  by_cases c30 : t521 = 0
  rotate_left
  ·rw [if_neg c30] at H
   have c30b0 : (t521 == 0) = false := beq_eq_false_iff_ne.mpr c30
   have c30b1 : (t521 != 0) = true := bne_iff_ne.mpr c30
   (first | rw [c30b0] | (simp only [i64_w, i32_w]; rw [c30b0]) | skip)
   have H' := Aside0.mk H
   clear H
   obtain ⟨hcz36_0, hcz36_1, hcz36_2, hfz36_0, hfz36_1, hfz36_2⟩ := cells3 BK526.out
   go_wp2
   go_meet
   case rel => exact ⟨_, (true), cs_, H', ⟨cm_⟩, ⟨by refine cN_ ?_; exact Kd.N_mono (Kd.N_far (p := ⟨gb526, 2, none⟩) (Kd.N_far (p := ⟨gb526, 1, none⟩) (Kd.N_far (p := ⟨gb526, 0, none⟩) (Kd.N_mono HO516.out (fun k_ hk => (⟨hk, hk.2⟩ : _ ∧ k_ ≠ gb526))) (fun _ hk => hk.2) (.int .i64 t521)) (fun _ hk => hk.2) (.int .i64 t522)) (fun _ hk => hk.2) (.slice Ao29 t523.length co29)) (fun _ hk => ⟨hk.1.1.2, hk.1.2⟩)⟩, ⟨by refine cN_ ?_; exact Kd.N_mono (Kd.N_far (p := ⟨gb526, 2, none⟩) (Kd.N_far (p := ⟨gb526, 1, none⟩) (Kd.N_far (p := ⟨gb526, 0, none⟩) (Kd.N_mono HO525.out (fun k_ hk => (⟨hk, hk.2⟩ : _ ∧ k_ ≠ gb526))) (fun _ hk => hk.2) (.int .i64 t521)) (fun _ hk => hk.2) (.int .i64 t522)) (fun _ hk => hk.2) (.slice Ao29 t523.length co29)) (fun _ hk => ⟨hk.1.1, hk.1.2⟩)⟩, ⟨by refine cO_ ?_; refine blk_put (cs := #[.int .i64 t521, .int .i64 t522, .slice none 0 0]) ?_ 2 _ rfl; refine cO_ ?_; refine blk_put (cs := #[.int .i64 t521, .int .i64 0, .slice none 0 0]) ?_ 1 _ rfl; refine cO_ ?_; refine blk_put (cs := #[.int .i64 0, .int .i64 0, .slice none 0 0]) ?_ 0 _ rfl; refine cO_ ?_; exact BK526.out⟩, ⟨cB1_ GE526.out⟩⟩
  rw [if_pos c30] at H
  have c30b0 : (t521 == 0) = true := beq_iff_eq.mpr c30
  have c30b1 : (t521 != 0) = false := bne_eq_false_iff_eq.mpr c30
  clear c30
  (first | rw [c30b0] | (simp only [i64_w, i32_w]; rw [c30b0]) | skip)
  by_cases c31 : (t523.length : Int) = (t514.length : Int)
  ·rw [if_pos c31] at H
   have c31b0 : ((t523.length : Int) == (t514.length : Int)) = true := beq_iff_eq.mpr c31
   have c31b1 : ((t523.length : Int) != (t514.length : Int)) = false := bne_eq_false_iff_eq.mpr c31
   have c31b2 : (t523.length == t514.length) = true := by first | simpa using c31 | (simp at c31 ⊢; omega)
   clear c31
   obtain ⟨t527, A32, H⟩ := bnd_ H
   try dsimp only at H
   have H' := Aside0.mk H
   clear H
   obtain ⟨hcz33_0, hcz33_1, hcz33_2, hfz33_0, hfz33_1, hfz33_2⟩ := cells3 BK526.out
   go_wp2_with (first | (go_at_call 7; (with_reducible refine (impl_FormatPlan.calls k _ _ t523 t527 _ ?side1 ?side2 (Tab.tabB HTB_.out b18_2) A32.out).mono ?_); (case side1 => refine (Kd.N_reads' (e := 36) (base := w.heap.size) (ok := fun k_ => (some k_ ≠ (.slice Ao24 t514.length co24 : Value).ownBlock ∧ k_ ≠ gb526)) (n := t523.length) (c := co29) ?_).2.2; exact (by refine cN_ ?_; exact (Kd.N_mono (Kd.N_far (p := ⟨gb526, 2, none⟩) (Kd.N_far (p := ⟨gb526, 1, none⟩) (Kd.N_far (p := ⟨gb526, 0, none⟩) (Kd.N_mono HO525.out (fun k_ hk => (⟨hk, hk.2⟩ : _ ∧ k_ ≠ gb526))) (fun _ hk => hk.2) (.int .i64 t521)) (fun _ hk => hk.2) (.int .i64 t522)) (fun _ hk => hk.2) (.slice Ao29 t523.length co29)) (fun _ h_ => h_.1)))); (case side2 => exact (Kd.N_reads' HO525.out).2.1); rintro e w34 ⟨rfl, hb⟩; replace HO516 := Aside0.mk (Kd.N_below (by refine cN_ ?_; exact (Kd.N_mono (Kd.N_far (p := ⟨gb526, 2, none⟩) (Kd.N_far (p := ⟨gb526, 1, none⟩) (Kd.N_far (p := ⟨gb526, 0, none⟩) (Kd.N_mono HO516.out (fun k_ hk => (⟨hk, hk.2⟩ : _ ∧ k_ ≠ gb526))) (fun _ hk => hk.2) (.int .i64 t521)) (fun _ hk => hk.2) (.int .i64 t522)) (fun _ hk => hk.2) (.slice Ao29 t523.length co29)) (fun _ h_ => h_.1))) hb); replace HO525 := Aside0.mk (Kd.N_below (by refine cN_ ?_; exact (Kd.N_mono (Kd.N_far (p := ⟨gb526, 2, none⟩) (Kd.N_far (p := ⟨gb526, 1, none⟩) (Kd.N_far (p := ⟨gb526, 0, none⟩) (Kd.N_mono HO525.out (fun k_ hk => (⟨hk, hk.2⟩ : _ ∧ k_ ≠ gb526))) (fun _ hk => hk.2) (.int .i64 t521)) (fun _ hk => hk.2) (.int .i64 t522)) (fun _ hk => hk.2) (.slice Ao29 t523.length co29)) (fun _ h_ => h_.1))) hb); replace BK526 := Aside0.mk (blk_below (g := gb526) (o := .cells #[.int .i64 t521, .int .i64 t522, .slice Ao29 t523.length co29] 29 (0, 0)) (by refine cO_ ?_; refine blk_put (cs := #[.int .i64 t521, .int .i64 t522, .slice none 0 0]) ?_ 2 _ rfl; refine cO_ ?_; refine blk_put (cs := #[.int .i64 t521, .int .i64 0, .slice none 0 0]) ?_ 1 _ rfl; refine cO_ ?_; refine blk_put (cs := #[.int .i64 0, .int .i64 0, .slice none 0 0]) ?_ 0 _ rfl; refine cO_ ?_; exact BK526.out) hb); replace HB := Aside0.mk (below_step b18_2 hb); (try clear hb)))
   go_meet
   case rel => exact ⟨_, ((t527.toList != t517.toList)), cs_, H', ⟨cm_⟩, ⟨by refine cN_ ?_; exact Kd.N_mono HO516.out (fun _ hk => ⟨hk.1.2, hk.2⟩)⟩, ⟨cN_ HO525.out⟩, ⟨cO_ BK526.out⟩, ⟨cB1_ GE526.out⟩⟩
  rw [if_neg c31] at H
  have c31b0 : ((t523.length : Int) == (t514.length : Int)) = false := beq_eq_false_iff_ne.mpr c31
  have c31b1 : ((t523.length : Int) != (t514.length : Int)) = true := bne_iff_ne.mpr c31
  have c31b2 : (t523.length == t514.length) = false := by first | simpa using c31 | (simp at c31 ⊢; omega)
  have H' := Aside0.mk H
  clear H
  obtain ⟨hcz35_0, hcz35_1, hcz35_2, hfz35_0, hfz35_1, hfz35_2⟩ := cells3 BK526.out
  go_wp2
  go_meet
  case rel => exact ⟨_, (true), cs_, H', ⟨cm_⟩, ⟨by refine cN_ ?_; exact Kd.N_mono (Kd.N_far (p := ⟨gb526, 2, none⟩) (Kd.N_far (p := ⟨gb526, 1, none⟩) (Kd.N_far (p := ⟨gb526, 0, none⟩) (Kd.N_mono HO516.out (fun k_ hk => (⟨hk, hk.2⟩ : _ ∧ k_ ≠ gb526))) (fun _ hk => hk.2) (.int .i64 t521)) (fun _ hk => hk.2) (.int .i64 t522)) (fun _ hk => hk.2) (.slice Ao29 t523.length co29)) (fun _ hk => ⟨hk.1.1.2, hk.1.2⟩)⟩, ⟨by refine cN_ ?_; exact Kd.N_mono (Kd.N_far (p := ⟨gb526, 2, none⟩) (Kd.N_far (p := ⟨gb526, 1, none⟩) (Kd.N_far (p := ⟨gb526, 0, none⟩) (Kd.N_mono HO525.out (fun k_ hk => (⟨hk, hk.2⟩ : _ ∧ k_ ≠ gb526))) (fun _ hk => hk.2) (.int .i64 t521)) (fun _ hk => hk.2) (.int .i64 t522)) (fun _ hk => hk.2) (.slice Ao29 t523.length co29)) (fun _ hk => ⟨hk.1.1, hk.1.2⟩)⟩, ⟨by refine cO_ ?_; refine blk_put (cs := #[.int .i64 t521, .int .i64 t522, .slice none 0 0]) ?_ 2 _ rfl; refine cO_ ?_; refine blk_put (cs := #[.int .i64 t521, .int .i64 0, .slice none 0 0]) ?_ 1 _ rfl; refine cO_ ?_; refine blk_put (cs := #[.int .i64 0, .int .i64 0, .slice none 0 0]) ?_ 0 _ rfl; refine cO_ ?_; exact BK526.out⟩, ⟨cB1_ GE526.out⟩⟩
 case rest =>
  clear HC22
  try clear c6
  try clear c6b0
  try clear c6b1
  obtain ⟨kq, x44_21, rfl, HA, HJ21, HO_3, HO_527002, BK526, HB⟩ := hcut
  cases kq with
  | zero => exact absurd HA.out (by simp [laws_FnPlans.j0])
  | succ kj21 =>
   have H := HA.out
   clear HA
   simp only [laws_FnPlans.j0] at H
   by_cases c37 : x44_21 = true
   ·subst c37
    rw [if_pos rfl] at H
    obtain rfl := Option.some.inj H
    go_wp2
    go_ret
    exact ⟨ce_, cB1_ GE526.out⟩
   replace c37 := Bool.eq_false_iff.mpr c37
   subst c37
   rw [if_neg (show ¬ (false = true) by decide)] at H
   have H' := Aside0.mk H
   clear H
   go_wp2
   go_loopg [6] kj21 (fun kq v6 w' => ∃ (x6_2 : Int), v6 = .int .i64 x6_2 ∧ Aside0 (laws_FnPlans.l0 kq t514 x6_2 t521 t522 t523 = some r) ∧ Aside0 (kq ≤ kj21) ∧ Aside0 (Kd.N k36 36 w' w.heap.size (fun k_ => some k_ ≠ ((.slice Ao29 t523.length co29) : Value).ownBlock ∧ k_ ≠ gb526) (.slice Ao24 t514.length co24) t514) ∧ Aside0 (Kd.N k36 36 w' w.heap.size (fun k_ => some k_ ≠ ((.slice Ao24 t514.length co24) : Value).ownBlock ∧ k_ ≠ gb526) (.slice Ao29 t523.length co29) t523) ∧ Aside0 (w'.heap[gb526]? = some (.cells #[.int .i64 t521, .int .i64 t522, (.slice Ao29 t523.length co29)] 29 (0, 0))) ∧ Aside0 (Below w.heap.size w w'))
   case atStart => exact ⟨(0), cs_, H', ⟨Nat.le_refl _⟩, ⟨cN_ HO_3.out⟩, ⟨cN_ HO_527002.out⟩, ⟨cO_ BK526.out⟩, ⟨cB1_ GE526.out⟩⟩
   case round =>
    clear H'
    obtain ⟨x6_2, rfl, HA, HK2, HO_3, HO_527002, BK526, HB⟩ := hrel
    cases gk with
    | zero => exact absurd HA.out (by simp [laws_FnPlans.l0])
    | succ k2 =>
     have H := HA.out
     clear HA
     simp only [laws_FnPlans.l0] at H
     by_cases c38 : x6_2 < (t514.length : Int)
     rotate_left
     ·rw [if_neg c38] at H
      have c38b0 := decide_eq_false c38
      clear c38
      obtain rfl := Option.some.inj H
      go_wp2
      go_ret
      exact ⟨ce_, cB1_ GE526.out⟩
     rw [if_pos c38] at H
     have c38b0 := decide_eq_true c38
     clear c38
     obtain ⟨⟨t528, t529⟩, A39, H⟩ := bnd_ H
     try dsimp only at H
     obtain ⟨⟨t530, t531⟩, A40, H⟩ := bnd_ H
     try dsimp only at H
     by_cases c41 : t529 = t531
     rotate_left
     ·rw [if_neg c41] at H
      have c41b0 : (t529 == t531) = false := beq_eq_false_iff_ne.mpr c41
      have c41b1 : (t529 != t531) = true := bne_iff_ne.mpr c41
      obtain rfl := Option.some.inj H
      try go_wp2
      replace HO_3 := Aside0.mk (Kd.N_drew HO_3.out)
      replace HO_527002 := Aside0.mk (Kd.N_drew HO_527002.out)
      replace BK526 := Aside0.mk (blk_drew BK526.out)
      replace HB := Aside0.mk (below_drew1 HB.out)
      refine start_ (n := 24) (S := fun w' => w'.cell? ⟨gb526, 0, none⟩ = some (.int .i64 t521) ∧ w'.cell? ⟨gb526, 1, none⟩ = some (.int .i64 t522) ∧ w'.cell? ⟨gb526, 2, none⟩ = some (.slice Ao29 t523.length co29)) (ds := []) (bl 24 0) (by kernel_rfl) rfl rfl ⟨(blk_cell BK526.out 0).trans rfl, (blk_cell BK526.out 1).trans rfl, (blk_cell BK526.out 2).trans rfl⟩ (fun hHeld => ?_); refine with_tabW laws_FnPlans.tab13 laws_FnPlans.bits13 (fun HT_ HW_ => ?_)
      generalize wr.drew = w51 at HO_3 HO_527002 BK526 HB hHeld ⊢
      refine pv_ 0 51 (bl 24 1) ?_
      refine pv_ 2 53 (bl 24 5) ?_
      refine pv_ 5 56 (bl 24 37) ?_
      refine pv_ 6 57 (bl 24 101) ?_
      refine tv_ 1 52 (bl 24 103) rfl hHeld (fun w' s_ => by obtain ⟨s0, s1, s2⟩ := s_; go_simp; with_reducible rfl) ?_
      refine ov_ 3 54 (bl 24 111) (fun K hK => ?_)
      refine goes_ Tryz.func11 (by kernel_rfl) rfl #[.slice Ao29 t523.length co29, .int .i64 x6_2] (by rfl) rfl rfl cx_ ?_
      with_reducible refine (impl_WidthOf.calls k2 _ _ t523 x6_2 t528 t529 _ ?side1 ?side2 A39.out).mono ?_
      (case side1 => exact cC_ ((Kd.N_reads' HO_527002.out).2.2))
      (case side2 => exact (Kd.N_reads' HO_527002.out).2.1)
      rintro e w52 ⟨rfl, hb⟩
      refine ⟨_, rfl, ?_⟩
      replace HO_3 := Aside0.mk (Kd.N_below (cN_ HO_3.out) hb)
      replace HO_527002 := Aside0.mk (Kd.N_below b18_7 hb)
      replace BK526 := Aside0.mk (blk_below (g := gb526) (o := .cells #[.int .i64 t521, .int .i64 t522, .slice Ao29 t523.length co29] 29 (0, 0)) (cO_ BK526.out) hb)
      replace HB := Aside0.mk (below_step b18_2 hb)
      (try clear hb)
      refine hK.out _ _ ⟨(blk_cell BK526.out 0).trans rfl, (blk_cell BK526.out 1).trans rfl, (blk_cell BK526.out 2).trans rfl⟩ (fun hHeld => ?_)
      clear hK K
      refine nm_ (some 54) ?_
      refine pv_ 4 55 (bl 24 127) ?_
      refine ov_ 7 58 (bl 24 255) (fun K hK => ?_)
      refine goes_ Tryz.func11 (by kernel_rfl) rfl #[.slice Ao24 t514.length co24, .int .i64 x6_2] (by rfl) rfl rfl cx_ ?_
      with_reducible refine (impl_WidthOf.calls k2 _ _ t514 x6_2 t530 t531 _ ?side1 ?side2 A40.out).mono ?_
      (case side1 => exact cC_ ((Kd.N_reads' HO_3.out).2.2))
      (case side2 => exact (Kd.N_reads' HO_3.out).2.1)
      rintro e w53 ⟨rfl, hb⟩
      refine ⟨_, rfl, ?_⟩
      replace HO_3 := Aside0.mk (Kd.N_below (cN_ HO_3.out) hb)
      replace HO_527002 := Aside0.mk (Kd.N_below b18_7 hb)
      replace BK526 := Aside0.mk (blk_below (g := gb526) (o := .cells #[.int .i64 t521, .int .i64 t522, .slice Ao29 t523.length co29] 29 (0, 0)) (cO_ BK526.out) hb)
      replace HB := Aside0.mk (below_step b18_2 hb)
      (try clear hb)
      refine hK.out _ _ ⟨(blk_cell BK526.out 0).trans rfl, (blk_cell BK526.out 1).trans rfl, (blk_cell BK526.out 2).trans rfl⟩ (fun hHeld => ?_)
      clear hK K
      refine nm_ (some 58) ?_
      refine pv_ 8 59 (bl 24 511) ?_
      refine pv_ 9 60 (bl 24 1023) ?_
      refine pv_ 10 61 (bl 24 2047) ?_
      refine uv_ 11 62 (bl 24 4095) ?_
      refine uv_ 12 63 (bl 24 8191) ?_
      refine uv_ 13 64 (bl 24 16383) ?_
      refine uv_ 14 65 (bl 24 32767) ?_
      refine uv_ 15 66 (bl 24 65535) ?_
      refine uv_ 16 67 (bl 24 131071) ?_
      refine uv_ 17 68 (bl 24 262143) ?_
      refine uv_ 18 69 (bl 24 524287) ?_
      refine uv_ 19 70 (bl 24 1048575) ?_
      refine uv_ 20 71 (bl 24 2097151) ?_
      refine uv_ 21 72 (bl 24 4194303) ?_
      refine uv_ 22 73 (bl 24 8388607) ?_
      refine pv_ 23 74 (bl 24 16777215) ?_
      refine done_ (done_of HT_.out (by kernel_rfl)) ?_
      try go_wp2
      go_ret
      exact ⟨ce_, cB1_ GE526.out⟩
     rw [if_pos c41] at H
     have c41b0 : (t529 == t531) = true := beq_iff_eq.mpr c41
     have c41b1 : (t529 != t531) = false := bne_eq_false_iff_eq.mpr c41
     clear c41
     by_cases c42 : 0 ≤ x6_2
     rotate_left
     ·rw [if_neg c42] at H
      exact absurd H (by simp)
     rw [if_pos c42] at H
     have c42b0 := decide_eq_true c42
     clear c42
     by_cases c43 : x6_2 < (t523.length : Int)
     rotate_left
     ·rw [if_neg c43] at H
      exact absurd H (by simp)
     rw [if_pos c43] at H
     have c43b0 := decide_eq_true c43
     clear c43
     by_cases c44 : ((rd_T36 t523 x6_2).f0) = ((rd_T36 t514 x6_2).f0)
     ·rw [if_pos c44] at H
      have c44b0 : (((rd_T36 t523 x6_2).f0) == ((rd_T36 t514 x6_2).f0)) = true := beq_iff_eq.mpr c44
      have c44b1 : (((rd_T36 t523 x6_2).f0) != ((rd_T36 t514 x6_2).f0)) = false := bne_eq_false_iff_eq.mpr c44
      clear c44
      have H' := Aside0.mk H
      clear H
      try go_wp2
      replace HO_3 := Aside0.mk (Kd.N_drew HO_3.out)
      replace HO_527002 := Aside0.mk (Kd.N_drew HO_527002.out)
      replace BK526 := Aside0.mk (blk_drew BK526.out)
      replace HB := Aside0.mk (below_drew1 HB.out)
      have p532 : 0 ≤ (x6_2 : Int) := cd_
      have q532 : x6_2 < (t523.length : Int) := cd_
      obtain ⟨ad532, A532_6, c532_6, e532, hx532_0, hx532_1, hx532_2, hx532_3, hx532_4, hx532_5, hx532_6, hl532_6, hi532_6⟩ := at_T36 (Kd.N_reads' HO_527002.out).2.2 x6_2 p532 q532
      cases e532
      obtain ⟨ce532, hce532, hMe532, hcc532⟩ := Kd.N_get HO_527002.out z36 x6_2 p532 (by first | exact q532 | exact of_decide_eq_true ca_ | (have e_ := (Kd.N_reads' HO_527002.out).1; omega))
      obtain ⟨ua532_6, uc532_6, rfl, ul532_6, ge532_6⟩ := k36_openF hMe532
      have hv532_6 := hcc532 6 _ rfl
      rw [add_field _ _ 6 (by omega)] at hv532_6
      replace hv532_6 := Option.some.inj (hv532_6.symm.trans hx532_6)
      injection hv532_6 with hva_ hvn_ hvc_
      rw [hva_] at ge532_6
      rw [hvc_] at ul532_6
      have HL532_6 := Aside0.mk (show Kd.V (Kd.int .i64) 2 _ w.heap.size _ _ ((rd_T36 t523 x6_2).f6) from Kd.V_mk ul532_6 ge532_6)
      clear hva_ hvn_ hvc_ ge532_6 ul532_6
      clear hcc532 hce532
      have HR532_6 := Aside0.mk hi532_6
      have HC532_6 := Aside0.mk hl532_6
      clear hi532_6 hl532_6
      replace p532 := eq_true p532
      replace q532 := eq_true q532
      have p533 : 0 ≤ (x6_2 : Int) := cd_
      have q533 : x6_2 < (t514.length : Int) := cd_
      obtain ⟨ad533, A533_6, c533_6, e533, hx533_0, hx533_1, hx533_2, hx533_3, hx533_4, hx533_5, hx533_6, hl533_6, hi533_6⟩ := at_T36 (Kd.N_reads' HO_3.out).2.2 x6_2 p533 q533
      cases e533
      obtain ⟨ce533, hce533, hMe533, hcc533⟩ := Kd.N_get HO_3.out z36 x6_2 p533 (by first | exact q533 | exact of_decide_eq_true ca_ | (have e_ := (Kd.N_reads' HO_3.out).1; omega))
      obtain ⟨ua533_6, uc533_6, rfl, ul533_6, ge533_6⟩ := k36_openF hMe533
      have hv533_6 := hcc533 6 _ rfl
      rw [add_field _ _ 6 (by omega)] at hv533_6
      replace hv533_6 := Option.some.inj (hv533_6.symm.trans hx533_6)
      injection hv533_6 with hva_ hvn_ hvc_
      rw [hva_] at ge533_6
      rw [hvc_] at ul533_6
      have HL533_6 := Aside0.mk (show Kd.V (Kd.int .i64) 2 _ w.heap.size _ _ ((rd_T36 t514 x6_2).f6) from Kd.V_mk ul533_6 ge533_6)
      clear hva_ hvn_ hvc_ ge533_6 ul533_6
      clear hcc533 hce533
      have HR533_6 := Aside0.mk hi533_6
      have HC533_6 := Aside0.mk hl533_6
      clear hi533_6 hl533_6
      replace p533 := eq_true p533
      replace q533 := eq_true q533
      refine start_ (n := 24) (S := fun w' => w'.cell? ⟨gb526, 0, none⟩ = some (.int .i64 t521) ∧ w'.cell? ⟨gb526, 1, none⟩ = some (.int .i64 t522) ∧ w'.cell? ⟨gb526, 2, none⟩ = some (.slice (some ad532) t523.length co29) ∧ w'.cell? (ad532.add ((x6_2).toNat * 7)) = some (.int .i64 ((rd_T36 t523 x6_2).f0)) ∧ w'.cell? ⟨(ad532.add ((x6_2).toNat * 7)).block, (ad532.add ((x6_2).toNat * 7)).off + 1, none⟩ = some (.int .i64 ((rd_T36 t523 x6_2).f1)) ∧ w'.cell? ⟨(ad532.add ((x6_2).toNat * 7)).block, (ad532.add ((x6_2).toNat * 7)).off + 2, none⟩ = some (.int .i64 ((rd_T36 t523 x6_2).f2)) ∧ w'.cell? ⟨(ad532.add ((x6_2).toNat * 7)).block, (ad532.add ((x6_2).toNat * 7)).off + 3, none⟩ = some (.int .i64 ((rd_T36 t523 x6_2).f3)) ∧ w'.cell? ⟨(ad532.add ((x6_2).toNat * 7)).block, (ad532.add ((x6_2).toNat * 7)).off + 4, none⟩ = some (.int .i64 ((rd_T36 t523 x6_2).f4)) ∧ w'.cell? ⟨(ad532.add ((x6_2).toNat * 7)).block, (ad532.add ((x6_2).toNat * 7)).off + 5, none⟩ = some (.int .i64 ((rd_T36 t523 x6_2).f5)) ∧ w'.cell? ⟨(ad532.add ((x6_2).toNat * 7)).block, (ad532.add ((x6_2).toNat * 7)).off + 6, none⟩ = some (.slice A532_6 ((rd_T36 t523 x6_2).f6).length c532_6) ∧ w'.cell? (ad533.add ((x6_2).toNat * 7)) = some (.int .i64 ((rd_T36 t514 x6_2).f0)) ∧ w'.cell? ⟨(ad533.add ((x6_2).toNat * 7)).block, (ad533.add ((x6_2).toNat * 7)).off + 1, none⟩ = some (.int .i64 ((rd_T36 t514 x6_2).f1)) ∧ w'.cell? ⟨(ad533.add ((x6_2).toNat * 7)).block, (ad533.add ((x6_2).toNat * 7)).off + 2, none⟩ = some (.int .i64 ((rd_T36 t514 x6_2).f2)) ∧ w'.cell? ⟨(ad533.add ((x6_2).toNat * 7)).block, (ad533.add ((x6_2).toNat * 7)).off + 3, none⟩ = some (.int .i64 ((rd_T36 t514 x6_2).f3)) ∧ w'.cell? ⟨(ad533.add ((x6_2).toNat * 7)).block, (ad533.add ((x6_2).toNat * 7)).off + 4, none⟩ = some (.int .i64 ((rd_T36 t514 x6_2).f4)) ∧ w'.cell? ⟨(ad533.add ((x6_2).toNat * 7)).block, (ad533.add ((x6_2).toNat * 7)).off + 5, none⟩ = some (.int .i64 ((rd_T36 t514 x6_2).f5)) ∧ w'.cell? ⟨(ad533.add ((x6_2).toNat * 7)).block, (ad533.add ((x6_2).toNat * 7)).off + 6, none⟩ = some (.slice A533_6 ((rd_T36 t514 x6_2).f6).length c533_6)) (ds := []) (bl 24 0) (by kernel_rfl) rfl rfl ⟨(blk_cell BK526.out 0).trans rfl, (blk_cell BK526.out 1).trans rfl, (blk_cell BK526.out 2).trans rfl, hx532_0, hx532_1, hx532_2, hx532_3, hx532_4, hx532_5, hx532_6, hx533_0, hx533_1, hx533_2, hx533_3, hx533_4, hx533_5, hx533_6⟩ (fun hHeld => ?_); refine with_tabW laws_FnPlans.tab13 laws_FnPlans.bits13 (fun HT_ HW_ => ?_)
      generalize wr.drew = w45 at HO_3 HO_527002 BK526 HB HL532_6 HL533_6 HR532_6 HR533_6 hx532_0 hx532_1 hx532_2 hx532_3 hx532_4 hx532_5 hx532_6 hx533_0 hx533_1 hx533_2 hx533_3 hx533_4 hx533_5 hx533_6 hHeld ⊢
      refine pv_ 0 51 (bl 24 1) ?_
      refine pv_ 2 53 (bl 24 5) ?_
      refine pv_ 5 56 (bl 24 37) ?_
      refine pv_ 6 57 (bl 24 101) ?_
      refine tv_ 1 52 (bl 24 103) rfl hHeld (fun w' s_ => by obtain ⟨s0, s1, s2, s3, s4, s5, s6, s7, s8, s9, s10, s11, s12, s13, s14, s15, s16⟩ := s_; go_simp; with_reducible rfl) ?_
      refine ov_ 3 54 (bl 24 111) (fun K hK => ?_)
      refine goes_ Tryz.func11 (by kernel_rfl) rfl #[.slice (some ad532) t523.length co29, .int .i64 x6_2] (by rfl) rfl rfl cx_ ?_
      with_reducible refine (impl_WidthOf.calls k2 _ _ t523 x6_2 t528 t529 _ ?side1 ?side2 A39.out).mono ?_
      (case side1 => exact cC_ ((Kd.N_reads' HO_527002.out).2.2))
      (case side2 => exact (Kd.N_reads' HO_527002.out).2.1)
      rintro e w46 ⟨rfl, hb⟩
      have HS3_ := (hb.cell (World.block_lt_of_cell? _ _ (hHeld.2.2.2.1))).trans (hHeld.2.2.2.1)
      have HS4_ := (hb.cell (World.block_lt_of_cell? _ _ (hHeld.2.2.2.2.1))).trans (hHeld.2.2.2.2.1)
      have HS5_ := (hb.cell (World.block_lt_of_cell? _ _ (hHeld.2.2.2.2.2.1))).trans (hHeld.2.2.2.2.2.1)
      have HS6_ := (hb.cell (World.block_lt_of_cell? _ _ (hHeld.2.2.2.2.2.2.1))).trans (hHeld.2.2.2.2.2.2.1)
      have HS7_ := (hb.cell (World.block_lt_of_cell? _ _ (hHeld.2.2.2.2.2.2.2.1))).trans (hHeld.2.2.2.2.2.2.2.1)
      have HS8_ := (hb.cell (World.block_lt_of_cell? _ _ (hHeld.2.2.2.2.2.2.2.2.1))).trans (hHeld.2.2.2.2.2.2.2.2.1)
      have HS9_ := (hb.cell (World.block_lt_of_cell? _ _ (hHeld.2.2.2.2.2.2.2.2.2.1))).trans (hHeld.2.2.2.2.2.2.2.2.2.1)
      have HS10_ := (hb.cell (World.block_lt_of_cell? _ _ (hHeld.2.2.2.2.2.2.2.2.2.2.1))).trans (hHeld.2.2.2.2.2.2.2.2.2.2.1)
      have HS11_ := (hb.cell (World.block_lt_of_cell? _ _ (hHeld.2.2.2.2.2.2.2.2.2.2.2.1))).trans (hHeld.2.2.2.2.2.2.2.2.2.2.2.1)
      have HS12_ := (hb.cell (World.block_lt_of_cell? _ _ (hHeld.2.2.2.2.2.2.2.2.2.2.2.2.1))).trans (hHeld.2.2.2.2.2.2.2.2.2.2.2.2.1)
      have HS13_ := (hb.cell (World.block_lt_of_cell? _ _ (hHeld.2.2.2.2.2.2.2.2.2.2.2.2.2.1))).trans (hHeld.2.2.2.2.2.2.2.2.2.2.2.2.2.1)
      have HS14_ := (hb.cell (World.block_lt_of_cell? _ _ (hHeld.2.2.2.2.2.2.2.2.2.2.2.2.2.2.1))).trans (hHeld.2.2.2.2.2.2.2.2.2.2.2.2.2.2.1)
      have HS15_ := (hb.cell (World.block_lt_of_cell? _ _ (hHeld.2.2.2.2.2.2.2.2.2.2.2.2.2.2.2.1))).trans (hHeld.2.2.2.2.2.2.2.2.2.2.2.2.2.2.2.1)
      have HS16_ := (hb.cell (World.block_lt_of_cell? _ _ (hHeld.2.2.2.2.2.2.2.2.2.2.2.2.2.2.2.2))).trans (hHeld.2.2.2.2.2.2.2.2.2.2.2.2.2.2.2.2)
      refine ⟨_, rfl, ?_⟩
      replace HO_3 := Aside0.mk (Kd.N_below (cN_ HO_3.out) hb)
      replace HO_527002 := Aside0.mk (Kd.N_below b18_7 hb)
      replace BK526 := Aside0.mk (blk_below (g := gb526) (o := .cells #[.int .i64 t521, .int .i64 t522, .slice (some ad532) t523.length co29] 29 (0, 0)) (cO_ BK526.out) hb)
      replace HB := Aside0.mk (below_step b18_2 hb)
      (try clear hb)
      refine hK.out _ _ ⟨(blk_cell BK526.out 0).trans rfl, (blk_cell BK526.out 1).trans rfl, (blk_cell BK526.out 2).trans rfl, HS3_, HS4_, HS5_, HS6_, HS7_, HS8_, HS9_, HS10_, HS11_, HS12_, HS13_, HS14_, HS15_, HS16_⟩ (fun hHeld => ?_)
      clear hK K
      refine nm_ (some 54) ?_
      refine pv_ 4 55 (bl 24 127) ?_
      refine ov_ 7 58 (bl 24 255) (fun K hK => ?_)
      refine goes_ Tryz.func11 (by kernel_rfl) rfl #[.slice (some ad533) t514.length co24, .int .i64 x6_2] (by rfl) rfl rfl cx_ ?_
      with_reducible refine (impl_WidthOf.calls k2 _ _ t514 x6_2 t530 t531 _ ?side1 ?side2 A40.out).mono ?_
      (case side1 => exact cC_ ((Kd.N_reads' HO_3.out).2.2))
      (case side2 => exact (Kd.N_reads' HO_3.out).2.1)
      rintro e w47 ⟨rfl, hb⟩
      have HS3_ := (hb.cell (World.block_lt_of_cell? _ _ (hHeld.2.2.2.1))).trans (hHeld.2.2.2.1)
      have HS4_ := (hb.cell (World.block_lt_of_cell? _ _ (hHeld.2.2.2.2.1))).trans (hHeld.2.2.2.2.1)
      have HS5_ := (hb.cell (World.block_lt_of_cell? _ _ (hHeld.2.2.2.2.2.1))).trans (hHeld.2.2.2.2.2.1)
      have HS6_ := (hb.cell (World.block_lt_of_cell? _ _ (hHeld.2.2.2.2.2.2.1))).trans (hHeld.2.2.2.2.2.2.1)
      have HS7_ := (hb.cell (World.block_lt_of_cell? _ _ (hHeld.2.2.2.2.2.2.2.1))).trans (hHeld.2.2.2.2.2.2.2.1)
      have HS8_ := (hb.cell (World.block_lt_of_cell? _ _ (hHeld.2.2.2.2.2.2.2.2.1))).trans (hHeld.2.2.2.2.2.2.2.2.1)
      have HS9_ := (hb.cell (World.block_lt_of_cell? _ _ (hHeld.2.2.2.2.2.2.2.2.2.1))).trans (hHeld.2.2.2.2.2.2.2.2.2.1)
      have HS10_ := (hb.cell (World.block_lt_of_cell? _ _ (hHeld.2.2.2.2.2.2.2.2.2.2.1))).trans (hHeld.2.2.2.2.2.2.2.2.2.2.1)
      have HS11_ := (hb.cell (World.block_lt_of_cell? _ _ (hHeld.2.2.2.2.2.2.2.2.2.2.2.1))).trans (hHeld.2.2.2.2.2.2.2.2.2.2.2.1)
      have HS12_ := (hb.cell (World.block_lt_of_cell? _ _ (hHeld.2.2.2.2.2.2.2.2.2.2.2.2.1))).trans (hHeld.2.2.2.2.2.2.2.2.2.2.2.2.1)
      have HS13_ := (hb.cell (World.block_lt_of_cell? _ _ (hHeld.2.2.2.2.2.2.2.2.2.2.2.2.2.1))).trans (hHeld.2.2.2.2.2.2.2.2.2.2.2.2.2.1)
      have HS14_ := (hb.cell (World.block_lt_of_cell? _ _ (hHeld.2.2.2.2.2.2.2.2.2.2.2.2.2.2.1))).trans (hHeld.2.2.2.2.2.2.2.2.2.2.2.2.2.2.1)
      have HS15_ := (hb.cell (World.block_lt_of_cell? _ _ (hHeld.2.2.2.2.2.2.2.2.2.2.2.2.2.2.2.1))).trans (hHeld.2.2.2.2.2.2.2.2.2.2.2.2.2.2.2.1)
      have HS16_ := (hb.cell (World.block_lt_of_cell? _ _ (hHeld.2.2.2.2.2.2.2.2.2.2.2.2.2.2.2.2))).trans (hHeld.2.2.2.2.2.2.2.2.2.2.2.2.2.2.2.2)
      refine ⟨_, rfl, ?_⟩
      replace HO_3 := Aside0.mk (Kd.N_below (cN_ HO_3.out) hb)
      replace HO_527002 := Aside0.mk (Kd.N_below b18_7 hb)
      replace BK526 := Aside0.mk (blk_below (g := gb526) (o := .cells #[.int .i64 t521, .int .i64 t522, .slice (some ad532) t523.length co29] 29 (0, 0)) (cO_ BK526.out) hb)
      replace HB := Aside0.mk (below_step b18_2 hb)
      (try clear hb)
      refine hK.out _ _ ⟨(blk_cell BK526.out 0).trans rfl, (blk_cell BK526.out 1).trans rfl, (blk_cell BK526.out 2).trans rfl, HS3_, HS4_, HS5_, HS6_, HS7_, HS8_, HS9_, HS10_, HS11_, HS12_, HS13_, HS14_, HS15_, HS16_⟩ (fun hHeld => ?_)
      clear hK K
      refine nm_ (some 58) ?_
      refine pv_ 8 59 (bl 24 511) ?_
      refine pv_ 9 60 (bl 24 1023) ?_
      refine pv_ 10 61 (bl 24 2047) ?_
      refine pv_ 11 62 (bl 24 4095) ?_
      refine pv_ 13 64 (bl 24 12287) ?_
      refine pv_ 17 68 (bl 24 143359) ?_
      refine pv_ 18 69 (bl 24 405503) ?_
      refine pv_ 19 70 (bl 24 929791) ?_
      refine pv_ 20 71 (bl 24 1978367) ?_
      refine tv_ 12 63 (bl 24 1982463) rfl hHeld (fun w' s_ => by obtain ⟨s0, s1, s2, s3, s4, s5, s6, s7, s8, s9, s10, s11, s12, s13, s14, s15, s16⟩ := s_; go_simp; with_reducible rfl) ?_
      refine pv_ 14 65 (bl 24 1998847) ?_
      refine pv_ 15 66 (bl 24 2031615) ?_
      refine tv_ 16 67 (bl 24 2097151) rfl hHeld (fun w' s_ => by obtain ⟨s0, s1, s2, s3, s4, s5, s6, s7, s8, s9, s10, s11, s12, s13, s14, s15, s16⟩ := s_; go_simp; with_reducible rfl) ?_
      refine tv_ 21 72 (bl 24 4194303) rfl hHeld (fun w' s_ => by obtain ⟨s0, s1, s2, s3, s4, s5, s6, s7, s8, s9, s10, s11, s12, s13, s14, s15, s16⟩ := s_; go_simp; with_reducible rfl) ?_
      refine pv_ 22 73 (bl 24 8388607) ?_
      refine pv_ 23 74 (bl 24 16777215) ?_
      refine done_ (done_of HT_.out (by kernel_rfl)) ?_
      try go_wp2
      go_roundg k2
      case measure => have := HJ21.out; have := HK2.out; omega
      case rel => exact ⟨(wrap64 (x6_2 + 1)), cs_, H', ⟨by have := HJ21.out; have := HK2.out; omega⟩, ⟨cN_ HO_3.out⟩, ⟨cN_ HO_527002.out⟩, ⟨cO_ BK526.out⟩, ⟨cB1_ GE526.out⟩⟩
     rw [if_neg c44] at H
     have c44b0 : (((rd_T36 t523 x6_2).f0) == ((rd_T36 t514 x6_2).f0)) = false := beq_eq_false_iff_ne.mpr c44
     have c44b1 : (((rd_T36 t523 x6_2).f0) != ((rd_T36 t514 x6_2).f0)) = true := bne_iff_ne.mpr c44
     obtain rfl := Option.some.inj H
     try go_wp2
     replace HO_3 := Aside0.mk (Kd.N_drew HO_3.out)
     replace HO_527002 := Aside0.mk (Kd.N_drew HO_527002.out)
     replace BK526 := Aside0.mk (blk_drew BK526.out)
     replace HB := Aside0.mk (below_drew1 HB.out)
     have p532 : 0 ≤ (x6_2 : Int) := cd_
     have q532 : x6_2 < (t523.length : Int) := cd_
     obtain ⟨ad532, A532_6, c532_6, e532, hx532_0, hx532_1, hx532_2, hx532_3, hx532_4, hx532_5, hx532_6, hl532_6, hi532_6⟩ := at_T36 (Kd.N_reads' HO_527002.out).2.2 x6_2 p532 q532
     cases e532
     obtain ⟨ce532, hce532, hMe532, hcc532⟩ := Kd.N_get HO_527002.out z36 x6_2 p532 (by first | exact q532 | exact of_decide_eq_true ca_ | (have e_ := (Kd.N_reads' HO_527002.out).1; omega))
     obtain ⟨ua532_6, uc532_6, rfl, ul532_6, ge532_6⟩ := k36_openF hMe532
     have hv532_6 := hcc532 6 _ rfl
     rw [add_field _ _ 6 (by omega)] at hv532_6
     replace hv532_6 := Option.some.inj (hv532_6.symm.trans hx532_6)
     injection hv532_6 with hva_ hvn_ hvc_
     rw [hva_] at ge532_6
     rw [hvc_] at ul532_6
     have HL532_6 := Aside0.mk (show Kd.V (Kd.int .i64) 2 _ w.heap.size _ _ ((rd_T36 t523 x6_2).f6) from Kd.V_mk ul532_6 ge532_6)
     clear hva_ hvn_ hvc_ ge532_6 ul532_6
     clear hcc532 hce532
     have HR532_6 := Aside0.mk hi532_6
     have HC532_6 := Aside0.mk hl532_6
     clear hi532_6 hl532_6
     replace p532 := eq_true p532
     replace q532 := eq_true q532
     have p533 : 0 ≤ (x6_2 : Int) := cd_
     have q533 : x6_2 < (t514.length : Int) := cd_
     obtain ⟨ad533, A533_6, c533_6, e533, hx533_0, hx533_1, hx533_2, hx533_3, hx533_4, hx533_5, hx533_6, hl533_6, hi533_6⟩ := at_T36 (Kd.N_reads' HO_3.out).2.2 x6_2 p533 q533
     cases e533
     obtain ⟨ce533, hce533, hMe533, hcc533⟩ := Kd.N_get HO_3.out z36 x6_2 p533 (by first | exact q533 | exact of_decide_eq_true ca_ | (have e_ := (Kd.N_reads' HO_3.out).1; omega))
     obtain ⟨ua533_6, uc533_6, rfl, ul533_6, ge533_6⟩ := k36_openF hMe533
     have hv533_6 := hcc533 6 _ rfl
     rw [add_field _ _ 6 (by omega)] at hv533_6
     replace hv533_6 := Option.some.inj (hv533_6.symm.trans hx533_6)
     injection hv533_6 with hva_ hvn_ hvc_
     rw [hva_] at ge533_6
     rw [hvc_] at ul533_6
     have HL533_6 := Aside0.mk (show Kd.V (Kd.int .i64) 2 _ w.heap.size _ _ ((rd_T36 t514 x6_2).f6) from Kd.V_mk ul533_6 ge533_6)
     clear hva_ hvn_ hvc_ ge533_6 ul533_6
     clear hcc533 hce533
     have HR533_6 := Aside0.mk hi533_6
     have HC533_6 := Aside0.mk hl533_6
     clear hi533_6 hl533_6
     replace p533 := eq_true p533
     replace q533 := eq_true q533
     refine start_ (n := 24) (S := fun w' => w'.cell? ⟨gb526, 0, none⟩ = some (.int .i64 t521) ∧ w'.cell? ⟨gb526, 1, none⟩ = some (.int .i64 t522) ∧ w'.cell? ⟨gb526, 2, none⟩ = some (.slice (some ad532) t523.length co29) ∧ w'.cell? (ad532.add ((x6_2).toNat * 7)) = some (.int .i64 ((rd_T36 t523 x6_2).f0)) ∧ w'.cell? ⟨(ad532.add ((x6_2).toNat * 7)).block, (ad532.add ((x6_2).toNat * 7)).off + 1, none⟩ = some (.int .i64 ((rd_T36 t523 x6_2).f1)) ∧ w'.cell? ⟨(ad532.add ((x6_2).toNat * 7)).block, (ad532.add ((x6_2).toNat * 7)).off + 2, none⟩ = some (.int .i64 ((rd_T36 t523 x6_2).f2)) ∧ w'.cell? ⟨(ad532.add ((x6_2).toNat * 7)).block, (ad532.add ((x6_2).toNat * 7)).off + 3, none⟩ = some (.int .i64 ((rd_T36 t523 x6_2).f3)) ∧ w'.cell? ⟨(ad532.add ((x6_2).toNat * 7)).block, (ad532.add ((x6_2).toNat * 7)).off + 4, none⟩ = some (.int .i64 ((rd_T36 t523 x6_2).f4)) ∧ w'.cell? ⟨(ad532.add ((x6_2).toNat * 7)).block, (ad532.add ((x6_2).toNat * 7)).off + 5, none⟩ = some (.int .i64 ((rd_T36 t523 x6_2).f5)) ∧ w'.cell? ⟨(ad532.add ((x6_2).toNat * 7)).block, (ad532.add ((x6_2).toNat * 7)).off + 6, none⟩ = some (.slice A532_6 ((rd_T36 t523 x6_2).f6).length c532_6) ∧ w'.cell? (ad533.add ((x6_2).toNat * 7)) = some (.int .i64 ((rd_T36 t514 x6_2).f0)) ∧ w'.cell? ⟨(ad533.add ((x6_2).toNat * 7)).block, (ad533.add ((x6_2).toNat * 7)).off + 1, none⟩ = some (.int .i64 ((rd_T36 t514 x6_2).f1)) ∧ w'.cell? ⟨(ad533.add ((x6_2).toNat * 7)).block, (ad533.add ((x6_2).toNat * 7)).off + 2, none⟩ = some (.int .i64 ((rd_T36 t514 x6_2).f2)) ∧ w'.cell? ⟨(ad533.add ((x6_2).toNat * 7)).block, (ad533.add ((x6_2).toNat * 7)).off + 3, none⟩ = some (.int .i64 ((rd_T36 t514 x6_2).f3)) ∧ w'.cell? ⟨(ad533.add ((x6_2).toNat * 7)).block, (ad533.add ((x6_2).toNat * 7)).off + 4, none⟩ = some (.int .i64 ((rd_T36 t514 x6_2).f4)) ∧ w'.cell? ⟨(ad533.add ((x6_2).toNat * 7)).block, (ad533.add ((x6_2).toNat * 7)).off + 5, none⟩ = some (.int .i64 ((rd_T36 t514 x6_2).f5)) ∧ w'.cell? ⟨(ad533.add ((x6_2).toNat * 7)).block, (ad533.add ((x6_2).toNat * 7)).off + 6, none⟩ = some (.slice A533_6 ((rd_T36 t514 x6_2).f6).length c533_6)) (ds := []) (bl 24 0) (by kernel_rfl) rfl rfl ⟨(blk_cell BK526.out 0).trans rfl, (blk_cell BK526.out 1).trans rfl, (blk_cell BK526.out 2).trans rfl, hx532_0, hx532_1, hx532_2, hx532_3, hx532_4, hx532_5, hx532_6, hx533_0, hx533_1, hx533_2, hx533_3, hx533_4, hx533_5, hx533_6⟩ (fun hHeld => ?_); refine with_tabW laws_FnPlans.tab13 laws_FnPlans.bits13 (fun HT_ HW_ => ?_)
     generalize wr.drew = w48 at HO_3 HO_527002 BK526 HB HL532_6 HL533_6 HR532_6 HR533_6 hx532_0 hx532_1 hx532_2 hx532_3 hx532_4 hx532_5 hx532_6 hx533_0 hx533_1 hx533_2 hx533_3 hx533_4 hx533_5 hx533_6 hHeld ⊢
     refine pv_ 0 51 (bl 24 1) ?_
     refine pv_ 2 53 (bl 24 5) ?_
     refine pv_ 5 56 (bl 24 37) ?_
     refine pv_ 6 57 (bl 24 101) ?_
     refine tv_ 1 52 (bl 24 103) rfl hHeld (fun w' s_ => by obtain ⟨s0, s1, s2, s3, s4, s5, s6, s7, s8, s9, s10, s11, s12, s13, s14, s15, s16⟩ := s_; go_simp; with_reducible rfl) ?_
     refine ov_ 3 54 (bl 24 111) (fun K hK => ?_)
     refine goes_ Tryz.func11 (by kernel_rfl) rfl #[.slice (some ad532) t523.length co29, .int .i64 x6_2] (by rfl) rfl rfl cx_ ?_
     with_reducible refine (impl_WidthOf.calls k2 _ _ t523 x6_2 t528 t529 _ ?side1 ?side2 A39.out).mono ?_
     (case side1 => exact cC_ ((Kd.N_reads' HO_527002.out).2.2))
     (case side2 => exact (Kd.N_reads' HO_527002.out).2.1)
     rintro e w49 ⟨rfl, hb⟩
     have HS3_ := (hb.cell (World.block_lt_of_cell? _ _ (hHeld.2.2.2.1))).trans (hHeld.2.2.2.1)
     have HS4_ := (hb.cell (World.block_lt_of_cell? _ _ (hHeld.2.2.2.2.1))).trans (hHeld.2.2.2.2.1)
     have HS5_ := (hb.cell (World.block_lt_of_cell? _ _ (hHeld.2.2.2.2.2.1))).trans (hHeld.2.2.2.2.2.1)
     have HS6_ := (hb.cell (World.block_lt_of_cell? _ _ (hHeld.2.2.2.2.2.2.1))).trans (hHeld.2.2.2.2.2.2.1)
     have HS7_ := (hb.cell (World.block_lt_of_cell? _ _ (hHeld.2.2.2.2.2.2.2.1))).trans (hHeld.2.2.2.2.2.2.2.1)
     have HS8_ := (hb.cell (World.block_lt_of_cell? _ _ (hHeld.2.2.2.2.2.2.2.2.1))).trans (hHeld.2.2.2.2.2.2.2.2.1)
     have HS9_ := (hb.cell (World.block_lt_of_cell? _ _ (hHeld.2.2.2.2.2.2.2.2.2.1))).trans (hHeld.2.2.2.2.2.2.2.2.2.1)
     have HS10_ := (hb.cell (World.block_lt_of_cell? _ _ (hHeld.2.2.2.2.2.2.2.2.2.2.1))).trans (hHeld.2.2.2.2.2.2.2.2.2.2.1)
     have HS11_ := (hb.cell (World.block_lt_of_cell? _ _ (hHeld.2.2.2.2.2.2.2.2.2.2.2.1))).trans (hHeld.2.2.2.2.2.2.2.2.2.2.2.1)
     have HS12_ := (hb.cell (World.block_lt_of_cell? _ _ (hHeld.2.2.2.2.2.2.2.2.2.2.2.2.1))).trans (hHeld.2.2.2.2.2.2.2.2.2.2.2.2.1)
     have HS13_ := (hb.cell (World.block_lt_of_cell? _ _ (hHeld.2.2.2.2.2.2.2.2.2.2.2.2.2.1))).trans (hHeld.2.2.2.2.2.2.2.2.2.2.2.2.2.1)
     have HS14_ := (hb.cell (World.block_lt_of_cell? _ _ (hHeld.2.2.2.2.2.2.2.2.2.2.2.2.2.2.1))).trans (hHeld.2.2.2.2.2.2.2.2.2.2.2.2.2.2.1)
     have HS15_ := (hb.cell (World.block_lt_of_cell? _ _ (hHeld.2.2.2.2.2.2.2.2.2.2.2.2.2.2.2.1))).trans (hHeld.2.2.2.2.2.2.2.2.2.2.2.2.2.2.2.1)
     have HS16_ := (hb.cell (World.block_lt_of_cell? _ _ (hHeld.2.2.2.2.2.2.2.2.2.2.2.2.2.2.2.2))).trans (hHeld.2.2.2.2.2.2.2.2.2.2.2.2.2.2.2.2)
     refine ⟨_, rfl, ?_⟩
     replace HO_3 := Aside0.mk (Kd.N_below (cN_ HO_3.out) hb)
     replace HO_527002 := Aside0.mk (Kd.N_below b18_7 hb)
     replace BK526 := Aside0.mk (blk_below (g := gb526) (o := .cells #[.int .i64 t521, .int .i64 t522, .slice (some ad532) t523.length co29] 29 (0, 0)) (cO_ BK526.out) hb)
     replace HB := Aside0.mk (below_step b18_2 hb)
     (try clear hb)
     refine hK.out _ _ ⟨(blk_cell BK526.out 0).trans rfl, (blk_cell BK526.out 1).trans rfl, (blk_cell BK526.out 2).trans rfl, HS3_, HS4_, HS5_, HS6_, HS7_, HS8_, HS9_, HS10_, HS11_, HS12_, HS13_, HS14_, HS15_, HS16_⟩ (fun hHeld => ?_)
     clear hK K
     refine nm_ (some 54) ?_
     refine pv_ 4 55 (bl 24 127) ?_
     refine ov_ 7 58 (bl 24 255) (fun K hK => ?_)
     refine goes_ Tryz.func11 (by kernel_rfl) rfl #[.slice (some ad533) t514.length co24, .int .i64 x6_2] (by rfl) rfl rfl cx_ ?_
     with_reducible refine (impl_WidthOf.calls k2 _ _ t514 x6_2 t530 t531 _ ?side1 ?side2 A40.out).mono ?_
     (case side1 => exact cC_ ((Kd.N_reads' HO_3.out).2.2))
     (case side2 => exact (Kd.N_reads' HO_3.out).2.1)
     rintro e w50 ⟨rfl, hb⟩
     have HS3_ := (hb.cell (World.block_lt_of_cell? _ _ (hHeld.2.2.2.1))).trans (hHeld.2.2.2.1)
     have HS4_ := (hb.cell (World.block_lt_of_cell? _ _ (hHeld.2.2.2.2.1))).trans (hHeld.2.2.2.2.1)
     have HS5_ := (hb.cell (World.block_lt_of_cell? _ _ (hHeld.2.2.2.2.2.1))).trans (hHeld.2.2.2.2.2.1)
     have HS6_ := (hb.cell (World.block_lt_of_cell? _ _ (hHeld.2.2.2.2.2.2.1))).trans (hHeld.2.2.2.2.2.2.1)
     have HS7_ := (hb.cell (World.block_lt_of_cell? _ _ (hHeld.2.2.2.2.2.2.2.1))).trans (hHeld.2.2.2.2.2.2.2.1)
     have HS8_ := (hb.cell (World.block_lt_of_cell? _ _ (hHeld.2.2.2.2.2.2.2.2.1))).trans (hHeld.2.2.2.2.2.2.2.2.1)
     have HS9_ := (hb.cell (World.block_lt_of_cell? _ _ (hHeld.2.2.2.2.2.2.2.2.2.1))).trans (hHeld.2.2.2.2.2.2.2.2.2.1)
     have HS10_ := (hb.cell (World.block_lt_of_cell? _ _ (hHeld.2.2.2.2.2.2.2.2.2.2.1))).trans (hHeld.2.2.2.2.2.2.2.2.2.2.1)
     have HS11_ := (hb.cell (World.block_lt_of_cell? _ _ (hHeld.2.2.2.2.2.2.2.2.2.2.2.1))).trans (hHeld.2.2.2.2.2.2.2.2.2.2.2.1)
     have HS12_ := (hb.cell (World.block_lt_of_cell? _ _ (hHeld.2.2.2.2.2.2.2.2.2.2.2.2.1))).trans (hHeld.2.2.2.2.2.2.2.2.2.2.2.2.1)
     have HS13_ := (hb.cell (World.block_lt_of_cell? _ _ (hHeld.2.2.2.2.2.2.2.2.2.2.2.2.2.1))).trans (hHeld.2.2.2.2.2.2.2.2.2.2.2.2.2.1)
     have HS14_ := (hb.cell (World.block_lt_of_cell? _ _ (hHeld.2.2.2.2.2.2.2.2.2.2.2.2.2.2.1))).trans (hHeld.2.2.2.2.2.2.2.2.2.2.2.2.2.2.1)
     have HS15_ := (hb.cell (World.block_lt_of_cell? _ _ (hHeld.2.2.2.2.2.2.2.2.2.2.2.2.2.2.2.1))).trans (hHeld.2.2.2.2.2.2.2.2.2.2.2.2.2.2.2.1)
     have HS16_ := (hb.cell (World.block_lt_of_cell? _ _ (hHeld.2.2.2.2.2.2.2.2.2.2.2.2.2.2.2.2))).trans (hHeld.2.2.2.2.2.2.2.2.2.2.2.2.2.2.2.2)
     refine ⟨_, rfl, ?_⟩
     replace HO_3 := Aside0.mk (Kd.N_below (cN_ HO_3.out) hb)
     replace HO_527002 := Aside0.mk (Kd.N_below b18_7 hb)
     replace BK526 := Aside0.mk (blk_below (g := gb526) (o := .cells #[.int .i64 t521, .int .i64 t522, .slice (some ad532) t523.length co29] 29 (0, 0)) (cO_ BK526.out) hb)
     replace HB := Aside0.mk (below_step b18_2 hb)
     (try clear hb)
     refine hK.out _ _ ⟨(blk_cell BK526.out 0).trans rfl, (blk_cell BK526.out 1).trans rfl, (blk_cell BK526.out 2).trans rfl, HS3_, HS4_, HS5_, HS6_, HS7_, HS8_, HS9_, HS10_, HS11_, HS12_, HS13_, HS14_, HS15_, HS16_⟩ (fun hHeld => ?_)
     clear hK K
     refine nm_ (some 58) ?_
     refine pv_ 8 59 (bl 24 511) ?_
     refine pv_ 9 60 (bl 24 1023) ?_
     refine pv_ 10 61 (bl 24 2047) ?_
     refine pv_ 11 62 (bl 24 4095) ?_
     refine pv_ 13 64 (bl 24 12287) ?_
     refine pv_ 17 68 (bl 24 143359) ?_
     refine pv_ 18 69 (bl 24 405503) ?_
     refine pv_ 19 70 (bl 24 929791) ?_
     refine pv_ 20 71 (bl 24 1978367) ?_
     refine tv_ 12 63 (bl 24 1982463) rfl hHeld (fun w' s_ => by obtain ⟨s0, s1, s2, s3, s4, s5, s6, s7, s8, s9, s10, s11, s12, s13, s14, s15, s16⟩ := s_; go_simp; with_reducible rfl) ?_
     refine pv_ 14 65 (bl 24 1998847) ?_
     refine pv_ 15 66 (bl 24 2031615) ?_
     refine tv_ 16 67 (bl 24 2097151) rfl hHeld (fun w' s_ => by obtain ⟨s0, s1, s2, s3, s4, s5, s6, s7, s8, s9, s10, s11, s12, s13, s14, s15, s16⟩ := s_; go_simp; with_reducible rfl) ?_
     refine tv_ 21 72 (bl 24 4194303) rfl hHeld (fun w' s_ => by obtain ⟨s0, s1, s2, s3, s4, s5, s6, s7, s8, s9, s10, s11, s12, s13, s14, s15, s16⟩ := s_; go_simp; with_reducible rfl) ?_
     refine pv_ 22 73 (bl 24 8388607) ?_
     refine pv_ 23 74 (bl 24 16777215) ?_
     refine done_ (done_of HT_.out (by kernel_rfl)) ?_
     try go_wp2
     go_ret
     exact ⟨ce_, cB1_ GE526.out⟩

/-- THE ONE PURE STATEMENT of laws_FnPlans. -/
def laws_FnPlans.Pure : Prop := ∀ (l0 : List Int), (fun l : List Int => l.length ≤ maxLen ∧ ∀ y ∈ l, (fun x : Int => (Lit.int .u8 x).wf = true) y) l0 → l0.length * 1 ≤ 140737488351232 → ∃ k, laws_FnPlans.f k l0 = some true

end Go.Proofs.YteibdjkfkcckkaaGreatDoor.PFnPlans
