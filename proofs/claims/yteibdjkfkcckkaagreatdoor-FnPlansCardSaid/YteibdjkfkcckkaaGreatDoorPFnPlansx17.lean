-- Written by fprint, a program of this session, out of Lean's own print of the translation. Lean checks it.
import Derived.Test.YteibdjkfkcckkaaGreatDoorDense
import Derived.Test.YteibdjkfkcckkaaGreatDoorPFnPlansx0
import Derived.Test.YteibdjkfkcckkaaGreatDoorPFnPlansx8
import Derived.Test.YteibdjkfkcckkaaGreatDoorPFnPlansx13
import Derived.Test.YteibdjkfkcckkaaGreatDoorPFnPlansx15
import Derived.Test.YteibdjkfkcckkaaGreatDoorPFnPlansx16
namespace Go.Proofs.YteibdjkfkcckkaaGreatDoor.PFnPlans
open Go.RowKit Go.Proofs.YteibdjkfkcckkaaGreatDoorW.PrintWords Go.Proofs.YteibdjkfkcckkaaGreatDoorW.PrintLast Go.Proofs.YteibdjkfkcckkaaGreatDoorW.PrintMore
attribute [local go_sem] max2_int min2_int max_two min_two max_three min_three max_four min_four
set_option linter.unusedVariables false
set_option maxHeartbeats 8000000
set_option maxRecDepth 100000
set_option linter.unusedSimpArgs false

theorem b17_0 {p : Prop} (h : p := by exact cB1_ GE478.out) : p := h
theorem b17_2 {p : Prop} (h : p := by exact cO_ BK478.out) : p := h
theorem b17_4 {p : Prop} (h : p := by exact cR_ HO_15.out) : p := h
theorem b17_5 {p : Prop} (h : p := by exact cN_ HO_3.out) : p := h
theorem b17_6 {p : Prop} (h : p := by exact cB2_ GE478.out GE496.out) : p := h
theorem b17_7 {p : Prop} (h : p := by exact cC_ (Kd.C_below HR0.out HB.out)) : p := h
theorem q17_0 {p : Prop} (h : p := by first | exact Kd.S_nil _ _ _ _ _ | exact Kd.N_nil _ _ _ _ _ | exact Kd.V_nil _ _ _ _ _ | exact Kd.Q_nil _ _ _ _ _ | exact Kd.R_nil _ _ _ _ _) : p := h
/-! ### impl_ParsePlan: function 10 -/
def impl_ParsePlan.l0 : Nat → List (S36) → List ByteArray → Int → Int → Option (Int × Int × (List (S36)))
 | 0, _, _, _, _ => none
 | k + 1, x3, x15, x16, x17 => if x17 < x16 then (if 0 ≤ x17 then (if x17 < (x15.length : Int) then ((impl_readNode.f k (rdOf ByteArray.empty x15 x17)).bind fun bt486 => (if bt486.2.2.2.2.2.2.2 = true then (if x3.length < 1954687338268 then (impl_ParsePlan.l0 k (x3 ++ [(⟨bt486.1, bt486.2.1, bt486.2.2.1, bt486.2.2.2.1, bt486.2.2.2.2.1, bt486.2.2.2.2.2.1, bt486.2.2.2.2.2.2.1⟩ : S36)]) x15 x16 (wrap64 (x17 + 1))) else (none)) else (some (5, x17, ([] : List (S36)))))) else (none)) else (none)) else ((impl_PlanFault.f k x3).bind fun t500 => (if t500 = 0 then (some (0, 0, x3)) else (some (t500, 0, ([] : List (S36))))))
def impl_ParsePlan.f (k : Nat) (a0 : ByteArray) : Option (Int × Int × (List (S36))) := if (a0.size : Int) > 2000 then (some (2, 0, ([] : List (S36)))) else ((impl_linesOf.f a0).bind fun t482 => (impl_ParsePlan.l0 k (([] : List (S36))) t482 (t482.length : Int) 0))
theorem impl_ParsePlan.mono_l : ∀ k, (∀ y0 y1 y2 y3, LeO (impl_ParsePlan.l0 k y0 y1 y2 y3) (impl_ParsePlan.l0 (k + 1) y0 y1 y2 y3))
 | 0 => fun _ _ _ _ r h => by simp [impl_ParsePlan.l0] at h
 | k + 1 => by
  have ih0 := impl_ParsePlan.mono_l k
  ·intro y0 y1 y2 y3
   unfold impl_ParsePlan.l0
   repeat' first
   | (with_reducible exact ih0 _ _ _ _)
   | (with_reducible exact impl_PlanFault.mono _ _)
   | (with_reducible exact impl_readNode.mono _ _)
   | (with_reducible exact LeO.refl _)
   | (with_reducible exact LeO.none _)
   | (with_reducible refine LeO.ite ?_ ?_)
   | (with_reducible refine LeO.bind ?_ (fun _ => ?_))
   | refine LeO.ite ?_ ?_
   | refine LeO.bind ?_ (fun _ => ?_)
theorem impl_ParsePlan.mono : ∀ a0 k, LeO (impl_ParsePlan.f k a0) (impl_ParsePlan.f (k + 1) a0) := by
 intro a0 k
 have ih0 := impl_ParsePlan.mono_l k
 unfold impl_ParsePlan.f
 repeat' first
   | (with_reducible exact ih0 _ _ _ _)
   | (with_reducible exact impl_PlanFault.mono _ _)
   | (with_reducible exact impl_readNode.mono _ _)
   | (with_reducible exact LeO.refl _)
   | (with_reducible exact LeO.none _)
   | (with_reducible refine LeO.ite ?_ ?_)
   | (with_reducible refine LeO.bind ?_ (fun _ => ?_))
   | refine LeO.ite ?_ ?_
   | refine LeO.bind ?_ (fun _ => ?_)
theorem impl_ParsePlan.calls (k : Nat) (a0 : ByteArray) (r1 : Int) (r2 : Int) (r3 : List (S36)) (w : World) (htab_ : Tab.Tab w) (h : impl_ParsePlan.f k a0 = some (r1, r2, r3)) :
  Calls Tryz.prog 10 #[.string a0] w fun e w' => ∃ v2_ : Value, e = .returned (.agg #[.int .i64 r1, .int .i64 r2, v2_]) ∧ Kd.N k36 36 w' w.heap.size (fun k_ => (w.heap.size ≤ k_)) v2_ r3 ∧ Below w.heap.size w w' := by
 have HTB_ := Aside0.mk htab_
 clear htab_
 have hu29 := Tryz.underlying29
 have hu36 := Tryz.underlying36
 have HB := Aside0.mk (Below.refl w.heap.size w)
 have H : (if (a0.size : Int) > 2000 then (some (2, 0, ([] : List (S36)))) else ((impl_linesOf.f a0).bind fun t482 => (impl_ParsePlan.l0 k (([] : List (S36))) t482 (t482.length : Int) 0))) = some (r1, r2, r3) := h
 clear h
 by_cases c2 : (a0.size : Int) > 2000
 ·rw [if_pos c2] at H
  have c2b0 : decide (2000 < (a0.size : Int)) = true := decide_eq_true c2
  have c2b1 : decide (2000 < a0.size) = true := decide_eq_true (by omega)
  clear c2
  simp only [Option.some.injEq, Prod.mk.injEq] at H
  obtain ⟨rfl, rfl, rfl⟩ := H
  go_enter Tryz.func10, Tryz.ntmps10
  go_wp2_with (first | (refine bx_ 2 #[.int .i64 0, .int .i64 0, .slice none 0 0] 29 ?_; intro gb478 hg w3 hbox hb; have BK478 := Aside0.mk (hbox); have GW478 := Aside0.mk ((by rw [hg]; exact (below_size cB0_) : w.heap.size ≤ gb478)); have GE478 := Aside0.mk ((by rw [hg]; exact (below_size cB0_) : w.heap.size ≤ gb478)); replace HB := Aside0.mk (below_step cB0_ hb); clear hb hbox hg; obtain ⟨hcz4_0, hcz4_1, hcz4_2, hfz4_0, hfz4_1, hfz4_2⟩ := cells3 BK478.out))
  refine bodyPost_ret (results_cell_row rfl _ _ gb478 29 #[.int .i64 2, .int .i64 0, .slice none 0 0] (0, 0) _ rfl (by refine cO_ ?_; refine blk_put (cs := #[.int .i64 2, .int .i64 0, .slice none 0 0]) ?_ 2 _ rfl; refine cO_ ?_; refine blk_put (cs := #[.int .i64 2, .int .i64 0, .slice none 0 0]) ?_ 1 _ rfl; refine cO_ ?_; refine blk_put (cs := #[.int .i64 0, .int .i64 0, .slice none 0 0]) ?_ 0 _ rfl; refine cO_ ?_; exact BK478.out) Tryz.underlying29 rfl (by kernel_rfl)) rfl ?_
  exact ⟨_, ce_, q17_0, cB1_ GE478.out⟩
 ·rw [if_neg c2] at H
  have c2b0 : decide (2000 < (a0.size : Int)) = false := decide_eq_false c2
  have c2b1 : decide (2000 < a0.size) = false := decide_eq_false (by omega)
  clear c2
  obtain ⟨y479, hy_⟩ : ∃ y_ : List (S36), y_ = (([] : List (S36))) := ⟨_, rfl⟩
  replace H : ((impl_linesOf.f a0).bind fun t482 => (impl_ParsePlan.l0 k y479 t482 (t482.length : Int) 0)) = some (r1, r2, r3) := yb_
  have Ny479 := Aside0.mk hy_
  clear hy_
  obtain ⟨t482, A5, H⟩ := bnd_ H
  try dsimp only at H
  have H' := Aside0.mk H
  clear H
  go_enter Tryz.func10, Tryz.ntmps10
  go_wp2_with (first | (refine bx_ 2 #[.int .i64 0, .int .i64 0, .slice none 0 0] 29 ?_; intro gb478 hg w6 hbox hb; have BK478 := Aside0.mk (hbox); have GW478 := Aside0.mk ((by rw [hg]; exact (below_size cB0_) : w.heap.size ≤ gb478)); have GE478 := Aside0.mk ((by rw [hg]; exact (below_size cB0_) : w.heap.size ≤ gb478)); replace HB := Aside0.mk (below_step cB0_ hb); clear hb hbox hg) | ((with_reducible refine gate_dst (N := 13) rfl ?_); refine Kd.N_lit k36 _ 36 ?hg (N' := 13) ?hd (xs := ([] : List (S36))) (inner := []) (ok := (fun k_ => (w.heap.size ≤ k_) ∧ k_ ≠ gb478)) (okp := (fun k_ => (w.heap.size ≤ k_) ∧ k_ ≠ gb478)) ?hr ?hp (fun _ hk => hk) ((show ∀ k_, w6.heap.size ≤ k_ → (fun k_ => (w.heap.size ≤ k_) ∧ k_ ≠ gb478) k_ from fun k_ hk => ⟨(Nat.le_trans (below_size b17_0) hk), Kd.freshB (g := gb478) (o := .cells #[.int .i64 0, .int .i64 0, .slice none 0 0] 29 (0, 0)) b17_2 k_ hk⟩) _ (Nat.le_refl _)) (Below.refl _ _) (Nat.le_refl _) (by simp) ?_; (case hd => rfl); (case hg => rfl); (case hr => first | (go_simp; done) | (go_simp; rfl)); (case hp => exact (Reps.none _ _)); intro v480 w7 ho8 hb hg_ hnew_; clear hg_ hnew_; (first | rw [← Ny479.out] at ho8 | (simp only [Int.reduceToNat] at ho8; rw [← Ny479.out] at ho8)); have HO481 := Aside0.mk (Kd.N_lower ho8 (below_size b17_0)); replace BK478 := Aside0.mk (blk_below (g := gb478) (o := .cells #[.int .i64 0, .int .i64 0, .slice none 0 0] 29 (0, 0)) b17_2 hb); replace HB := Aside0.mk (below_step b17_0 hb); clear hb ho8) | (refine gl_ 21 (some 15) Tryz.func21 #[.string a0] ?_; (with_reducible refine (impl_linesOf.calls a0 t482 _ (Tab.tabB HTB_.out b17_0) A5.out).mono ?_); rintro e w9 ⟨v483, rfl, ho0, hb⟩; refine ⟨_, rfl, ?_⟩; replace HO481 := Aside0.mk (Kd.N_elder' (cN_ HO481.out) (Kd.R_base ho0) hb); have HO484 := Aside0.mk (Kd.R_lower (Kd.R_newM (M := fun k_ => (w.heap.size ≤ k_)) ho0 (below_size b17_0) (fun k_ h_ => h_)) (below_size b17_0)); replace BK478 := Aside0.mk (blk_below (g := gb478) (o := .cells #[.int .i64 0, .int .i64 0, .slice none 0 0] 29 (0, 0)) b17_2 hb); replace HB := Aside0.mk (below_step b17_0 hb); (try clear hb); (try clear ho0); obtain ⟨Ao10, co10, eo10⟩ := Kd.R_slice HO484.out; subst eo10))
  go_loopg [3, 17] k (fun kq v3 v17 w' => ∃ (x3_1 : List (S36)) (x17_1 : Int) (x479000_1 : Int) (x479001_1 : Int), v17 = .int .i64 x17_1 ∧ Aside0 (impl_ParsePlan.l0 kq x3_1 t482 (t482.length : Int) x17_1 = some (r1, r2, r3)) ∧ Aside0 (kq ≤ k) ∧ Aside0 (Kd.N k36 36 w' w.heap.size (fun k_ => (w.heap.size ≤ k_) ∧ some k_ ≠ ((.slice Ao10 t482.length co10) : Value).ownBlock ∧ k_ ≠ gb478) v3 x3_1) ∧ Aside0 (Kd.R Kd.string 9 w' w.heap.size (fun k_ => (w.heap.size ≤ k_)) (.slice Ao10 t482.length co10) t482) ∧ Aside0 (w'.heap[gb478]? = some (.cells #[.int .i64 x479000_1, .int .i64 x479001_1, (.slice none 0 0)] 29 (0, 0))) ∧ Aside0 (Below w.heap.size w w'))
  case atStart => exact ⟨(y479), (0), (0), (0), cs_, H', ⟨Nat.le_refl _⟩, ⟨by refine cN_ ?_; exact Kd.N_mono HO481.out (fun _ hk => ⟨hk.1.1, ⟨hk.2, hk.1.2⟩⟩)⟩, ⟨by refine cR_ ?_; exact Kd.R_mono HO484.out (fun _ hk => hk.1)⟩, ⟨cO_ BK478.out⟩, ⟨cB1_ GE478.out⟩⟩
  case round =>
   clear H'
   try clear c2b0
   try clear c2b1
   obtain ⟨x3_1, x17_1, x479000_1, x479001_1, rfl, HA, HK1, HO_3, HO_15, BK478, HB⟩ := hrel
   cases gk with
   | zero => exact absurd HA.out (by simp [impl_ParsePlan.l0])
   | succ k1 =>
    have H := HA.out
    clear HA
    simp only [impl_ParsePlan.l0] at H
    by_cases c11 : x17_1 < (t482.length : Int)
    ·rw [if_pos c11] at H
     have c11b0 := decide_eq_true c11
     clear c11
     by_cases c12 : 0 ≤ x17_1
     ·rw [if_pos c12] at H
      have c12b0 := decide_eq_true c12
      clear c12
      by_cases c13 : x17_1 < (t482.length : Int)
      ·rw [if_pos c13] at H
       have c13b0 := decide_eq_true c13
       clear c13
       obtain ⟨⟨t486, t487, t488, t489, t490, t491, t492, t495⟩, A14, H⟩ := bnd_ H
       try dsimp only at H
       by_cases c15 : t495 = true
       ·subst c15
        rw [if_pos rfl] at H
        by_cases c16 : x3_1.length < 1954687338268
        ·rw [if_pos c16] at H
         have LMc16 := Aside0.mk c16
         clear c16
         obtain ⟨y497, hy_⟩ : ∃ y_ : List (S36), y_ = (x3_1 ++ [(⟨t486, t487, t488, t489, t490, t491, t492⟩ : S36)]) := ⟨_, rfl⟩
         replace H : (impl_ParsePlan.l0 k1 y497 t482 (t482.length : Int) (wrap64 (x17_1 + 1))) = some (r1, r2, r3) := yb_
         have Ny497 := Aside0.mk hy_
         clear hy_
         have H' := Aside0.mk H
         clear H
         have p485 : 0 ≤ (x17_1 : Int) := cd_
         have q485 : x17_1 < (t482.length : Int) := cd_
         obtain ⟨ad485, e485, hx485_0⟩ := Kd.at_string (Kd.R_reads' HO_15.out).2.2 x17_1 p485 q485
         cases e485
         replace p485 := eq_true p485
         replace q485 := eq_true q485
         go_wp2_with (first | (refine gl_ 22 (some 24) Tryz.func22 #[.string (rdOf ByteArray.empty t482 x17_1)] ?_; (with_reducible refine (impl_readNode.calls k1 (rdOf ByteArray.empty t482 x17_1) t486 t487 t488 t489 t490 t491 t492 true _ (Tab.tabB HTB_.out b17_0) A14.out).mono ?_); rintro e w17 ⟨v493, rfl, ho0, hb⟩; refine ⟨_, rfl, ?_⟩; have HO494 := Aside0.mk (Kd.V_lower (Kd.V_mono (ok' := fun k_ => (w.heap.size ≤ k_) ∧ some k_ ≠ (u3 : Value).ownBlock ∧ some k_ ≠ (.slice (some ad485) t482.length co10 : Value).ownBlock ∧ k_ ≠ gb478) ho0 (fun k_ hk_ => ⟨(Nat.le_trans (below_size b17_0) hk_), (Kd.fresh' (Kd.N_lt b17_5) k_ hk_), (Kd.fresh' (Kd.R_lt b17_4) k_ hk_), (Kd.freshB (g := gb478) (o := .cells #[.int .i64 x479000_1, .int .i64 x479001_1, .slice none 0 0] 29 (0, 0)) b17_2 k_ hk_)⟩)) (below_size b17_0)); replace HO_3 := Aside0.mk (Kd.N_below b17_5 hb); replace HO_15 := Aside0.mk (Kd.R_below b17_4 hb); replace BK478 := Aside0.mk (blk_below (g := gb478) (o := .cells #[.int .i64 x479000_1, .int .i64 x479001_1, .slice none 0 0] 29 (0, 0)) b17_2 hb); replace HB := Aside0.mk (below_step b17_0 hb); (try clear hb); (try clear ho0)) | (refine bx_ 6 #[.int .i64 0, .int .i64 0, .int .i64 0, .int .i64 0, .int .i64 0, .int .i64 0, .slice none 0 0] 36 ?_; intro gb496 hg w18 hbox hb; replace HO_3 := Aside0.mk (Kd.N_below (Kd.N_elderB b17_5 gb496 (Nat.le_of_eq hg.symm)) hb); replace HO_15 := Aside0.mk (Kd.R_below b17_4 hb); replace HO494 := Aside0.mk (Kd.V_below (Kd.V_elderB (cV_ HO494.out) gb496 (Nat.le_of_eq hg.symm)) hb); have BK496 := Aside0.mk (hbox); have GW496 := Aside0.mk ((by rw [hg]; exact (below_size b17_0) : w.heap.size ≤ gb496)); have GE496 := Aside0.mk ((by rw [hg]; exact (below_size b17_0) : w.heap.size ≤ gb496)); replace HB := Aside0.mk (below_step b17_0 hb); have NB478_496 := Aside0.mk ((by rw [hg]; exact Nat.ne_of_lt (blk_lt (g := gb478) (o := .cells #[.int .i64 x479000_1, .int .i64 x479001_1, .slice none 0 0] 29 (0, 0)) b17_2) : gb478 ≠ gb496)); have NB496_478 := Aside0.mk ((by rw [hg]; exact Nat.ne_of_gt (blk_lt (g := gb478) (o := .cells #[.int .i64 x479000_1, .int .i64 x479001_1, .slice none 0 0] 29 (0, 0)) b17_2) : gb496 ≠ gb478)); replace BK478 := Aside0.mk (blk_below (g := gb478) (o := .cells #[.int .i64 x479000_1, .int .i64 x479001_1, .slice none 0 0] 29 (0, 0)) b17_2 hb); clear hb hbox hg; have hnb19 := NB496_478.out; have hnc19 := NB478_496.out; obtain ⟨_, _, _, _, _, _, _, _, _, _, _, _, _, _⟩ := cells7 BK496.out; obtain ⟨Ao21, co21, eo21⟩ := Kd.V_slice HO494.out; subst eo21) | ((with_reducible refine gate_store (t := 36) (p := 6) rfl ?_); refine store_event (t := 36) (p := 6) (v := ?vo_w22) (w1 := (((((((w18.setCell ⟨gb496, 0, none⟩ (.int .i64 t486)).setCell ⟨gb496, 1, none⟩ (.int .i64 t487)).setCell ⟨gb496, 2, none⟩ (.int .i64 t488)).setCell ⟨gb496, 3, none⟩ (.int .i64 t489)).setCell ⟨gb496, 4, none⟩ (.int .i64 t490)).setCell ⟨gb496, 5, none⟩ (.int .i64 t491)).setCell ⟨gb496, 6, none⟩ (.slice Ao21 t492.length co21))) ?hg ?ho ?hn ?hr ?_; (case ho => rfl); (case hg => rfl); (case hn => rfl); (case hr => first | (go_simp; done) | (go_simp; rfl)); intro w22 hw; have n0_ : Aside0 (Kd.N k36 36 w22 w.heap.size (fun k_ => (w.heap.size ≤ k_) ∧ some k_ ≠ (.slice (some ad485) t482.length co10 : Value).ownBlock ∧ k_ ≠ gb478 ∧ k_ ≠ gb496) u3 x3_1) := ⟨(by rw [hw]; exact (by refine cN_ ?_; exact Kd.N_mono (Kd.N_far (p := ⟨gb496, 6, none⟩) (Kd.N_far (p := ⟨gb496, 5, none⟩) (Kd.N_far (p := ⟨gb496, 4, none⟩) (Kd.N_far (p := ⟨gb496, 3, none⟩) (Kd.N_far (p := ⟨gb496, 2, none⟩) (Kd.N_far (p := ⟨gb496, 1, none⟩) (Kd.N_far (p := ⟨gb496, 0, none⟩) (Kd.N_mono HO_3.out (fun k_ hk => (⟨hk, hk.2⟩ : _ ∧ k_ ≠ gb496))) (fun _ hk => hk.2) (.int .i64 t486)) (fun _ hk => hk.2) (.int .i64 t487)) (fun _ hk => hk.2) (.int .i64 t488)) (fun _ hk => hk.2) (.int .i64 t489)) (fun _ hk => hk.2) (.int .i64 t490)) (fun _ hk => hk.2) (.int .i64 t491)) (fun _ hk => hk.2) (.slice Ao21 t492.length co21)) (fun _ hk => ⟨hk.1.1.1, ⟨hk.1.1.2.1, ⟨hk.1.1.2.2, hk.1.2⟩⟩⟩)))⟩; have n1_ : Aside0 (Kd.R Kd.string 9 w22 w.heap.size (fun k_ => (w.heap.size ≤ k_)) (.slice (some ad485) t482.length co10) t482) := ⟨(by rw [hw]; exact (by refine cR_ ?_; exact Kd.R_mono (Kd.R_far (p := ⟨gb496, 6, none⟩) (Kd.R_far (p := ⟨gb496, 5, none⟩) (Kd.R_far (p := ⟨gb496, 4, none⟩) (Kd.R_far (p := ⟨gb496, 3, none⟩) (Kd.R_far (p := ⟨gb496, 2, none⟩) (Kd.R_far (p := ⟨gb496, 1, none⟩) (Kd.R_far (p := ⟨gb496, 0, none⟩) (Kd.R_types HO_15.out BK496.out (by decide)) (fun _ hk => hk.2) (.int .i64 t486)) (fun _ hk => hk.2) (.int .i64 t487)) (fun _ hk => hk.2) (.int .i64 t488)) (fun _ hk => hk.2) (.int .i64 t489)) (fun _ hk => hk.2) (.int .i64 t490)) (fun _ hk => hk.2) (.int .i64 t491)) (fun _ hk => hk.2) (.slice Ao21 t492.length co21)) (fun _ hk => hk.1)))⟩; have n2_ : Aside0 (Kd.V (Kd.int .i64) 2 w22 w.heap.size (fun k_ => (w.heap.size ≤ k_) ∧ some k_ ≠ (u3 : Value).ownBlock ∧ some k_ ≠ (.slice (some ad485) t482.length co10 : Value).ownBlock ∧ k_ ≠ gb478 ∧ k_ ≠ gb496) (.slice Ao21 t492.length co21) t492) := ⟨(by rw [hw]; exact (by refine cV_ ?_; exact Kd.V_mono (Kd.V_far (p := ⟨gb496, 6, none⟩) (Kd.V_far (p := ⟨gb496, 5, none⟩) (Kd.V_far (p := ⟨gb496, 4, none⟩) (Kd.V_far (p := ⟨gb496, 3, none⟩) (Kd.V_far (p := ⟨gb496, 2, none⟩) (Kd.V_far (p := ⟨gb496, 1, none⟩) (Kd.V_far (p := ⟨gb496, 0, none⟩) (Kd.V_mono HO494.out (fun k_ hk => (⟨hk, hk.2⟩ : _ ∧ k_ ≠ gb496))) (fun _ hk => hk.2) (.int .i64 t486)) (fun _ hk => hk.2) (.int .i64 t487)) (fun _ hk => hk.2) (.int .i64 t488)) (fun _ hk => hk.2) (.int .i64 t489)) (fun _ hk => hk.2) (.int .i64 t490)) (fun _ hk => hk.2) (.int .i64 t491)) (fun _ hk => hk.2) (.slice Ao21 t492.length co21)) (fun _ hk => ⟨hk.1.1.1, ⟨hk.1.1.2.1, ⟨hk.1.1.2.2.1, ⟨hk.1.1.2.2.2, hk.1.2⟩⟩⟩⟩)))⟩; have n3_ : Aside0 (w22.heap[gb478]? = some (.cells #[.int .i64 x479000_1, .int .i64 x479001_1, .slice none 0 0] 29 (0, 0))) := ⟨(by rw [hw]; exact (by refine cO_ ?_; refine blk_far ?_ NB478_496.out _; refine cO_ ?_; refine blk_far ?_ NB478_496.out _; refine cO_ ?_; refine blk_far ?_ NB478_496.out _; refine cO_ ?_; refine blk_far ?_ NB478_496.out _; refine cO_ ?_; refine blk_far ?_ NB478_496.out _; refine cO_ ?_; refine blk_far ?_ NB478_496.out _; refine cO_ ?_; refine blk_far ?_ NB478_496.out _; refine cO_ ?_; exact BK478.out))⟩; have n4_ : Aside0 (w22.heap[gb496]? = some (.cells #[.int .i64 t486, .int .i64 t487, .int .i64 t488, .int .i64 t489, .int .i64 t490, .int .i64 t491, .slice Ao21 t492.length co21] 36 (0, 0))) := ⟨(by rw [hw]; exact (by refine cO_ ?_; refine blk_put (cs := #[.int .i64 t486, .int .i64 t487, .int .i64 t488, .int .i64 t489, .int .i64 t490, .int .i64 t491, .slice none 0 0]) ?_ 6 _ rfl; refine cO_ ?_; refine blk_put (cs := #[.int .i64 t486, .int .i64 t487, .int .i64 t488, .int .i64 t489, .int .i64 t490, .int .i64 0, .slice none 0 0]) ?_ 5 _ rfl; refine cO_ ?_; refine blk_put (cs := #[.int .i64 t486, .int .i64 t487, .int .i64 t488, .int .i64 t489, .int .i64 0, .int .i64 0, .slice none 0 0]) ?_ 4 _ rfl; refine cO_ ?_; refine blk_put (cs := #[.int .i64 t486, .int .i64 t487, .int .i64 t488, .int .i64 0, .int .i64 0, .int .i64 0, .slice none 0 0]) ?_ 3 _ rfl; refine cO_ ?_; refine blk_put (cs := #[.int .i64 t486, .int .i64 t487, .int .i64 0, .int .i64 0, .int .i64 0, .int .i64 0, .slice none 0 0]) ?_ 2 _ rfl; refine cO_ ?_; refine blk_put (cs := #[.int .i64 t486, .int .i64 0, .int .i64 0, .int .i64 0, .int .i64 0, .int .i64 0, .slice none 0 0]) ?_ 1 _ rfl; refine cO_ ?_; refine blk_put (cs := #[.int .i64 0, .int .i64 0, .int .i64 0, .int .i64 0, .int .i64 0, .int .i64 0, .slice none 0 0]) ?_ 0 _ rfl; refine cO_ ?_; exact BK496.out))⟩; have n5_ : Aside0 (Below w.heap.size w w22) := ⟨(by rw [hw]; exact b17_6)⟩; clear hw; clear HO_3; clear HO_15; clear HO494; clear BK478; clear BK496; clear HB; have HO_3 := n0_; have HO_15 := n1_; have HO494 := n2_; have BK478 := n3_; have BK496 := n4_; have HB := n5_; clear n0_ n1_ n2_ n3_ n4_ n5_; obtain ⟨_, _, _, _, _, _, _, _, _, _, _, _, _, _⟩ := cells7 BK496.out) | ((with_reducible refine gate_builtin (b := .append) (xs := #[.tmp 31, .tmp 33]) rfl ?_); at_builtin; refine Kd.N_append k36 (w0 := w) w.heap.size rfl (.tmp 31) (.tmp 33) 24 36 (.agg #[(.int .i64 0), (.int .i64 0), (.int .i64 0), (.int .i64 0), (.int .i64 0), (.int .i64 0), (.slice none 0 0)]) 72 rfl Tryz.underlying24 info36 rfl (by decide) (by omega) u3 x3_1 (⟨t486, t487, t488, t489, t490, t491, t492⟩ : S36) [.int .i64 t486, .int .i64 t487, .int .i64 t488, .int .i64 t489, .int .i64 t490, .int .i64 t491, .slice Ao21 t492.length co21] (fun k_ => (w.heap.size ≤ k_) ∧ some k_ ≠ (.slice (some ad485) t482.length co10 : Value).ownBlock ∧ k_ ≠ gb478 ∧ k_ ≠ gb496) (fun k_ => ((fun k_ => (w.heap.size ≤ k_) ∧ some k_ ≠ (.slice (some ad485) t482.length co10 : Value).ownBlock ∧ k_ ≠ gb478 ∧ k_ ≠ gb496)) k_ ∧ some k_ ≠ (u3 : Value).ownBlock) rfl rfl ?aP (fun _ hk => hk) ?aF ?aO ?aB ?aS ?aL ?_; (case aP => exact (by exact (k36_mkF _ _ (⟨t486, t487, t488, t489, t490, t491, t492⟩ : S36) (Kd.V_reads' (Kd.V_mono (ok' := (fun k_ => ((fun k_ => (w.heap.size ≤ k_) ∧ some k_ ≠ (.slice (some ad485) t482.length co10 : Value).ownBlock ∧ k_ ≠ gb478 ∧ k_ ≠ gb496)) k_ ∧ some k_ ≠ (u3 : Value).ownBlock)) (HO494.out) (fun k_ hk => ⟨⟨hk.1, ⟨hk.2.2.1, ⟨hk.2.2.2.1, hk.2.2.2.2⟩⟩⟩, hk.2.1⟩))).2.1 (Kd.V_F (by refine cV_ ?_; exact Kd.V_mono (ok' := (fun k_ => ((fun k_ => (w.heap.size ≤ k_) ∧ some k_ ≠ (.slice (some ad485) t482.length co10 : Value).ownBlock ∧ k_ ≠ gb478 ∧ k_ ≠ gb496)) k_ ∧ some k_ ≠ (u3 : Value).ownBlock)) (HO494.out) (fun k_ hk => ⟨⟨hk.1, ⟨hk.2.2.1, ⟨hk.2.2.2.1, hk.2.2.2.2⟩⟩⟩, hk.2.1⟩)))))); (case aB => exact b17_6); (case aF => exact (by exact (fun k_ hk => ⟨(Nat.le_trans (below_size b17_6) hk), Kd.fresh' (Kd.R_lt b17_4) k_ hk, Kd.freshB (g := gb478) (o := .cells #[.int .i64 x479000_1, .int .i64 x479001_1, .slice none 0 0] 29 (0, 0)) b17_2 k_ hk, Kd.freshB (g := gb496) (o := .cells #[.int .i64 t486, .int .i64 t487, .int .i64 t488, .int .i64 t489, .int .i64 t490, .int .i64 t491, .slice Ao21 t492.length co21] 36 (0, 0)) (cO_ BK496.out) k_ hk⟩))); (case aO => exact b17_5); (case aS => exact (by exact (below_size b17_6))); (case aL => exact co_ LMc16.out); intro v498 w24 ho hb hg hat; rw [← Ny497.out] at ho; replace HO_15 := Aside0.mk (Kd.R_over' b17_4 (Kd.N_typed b17_5) (by decide) hg); replace BK478 := Aside0.mk (blk_grown (g := gb478) (o := .cells #[.int .i64 x479000_1, .int .i64 x479001_1, .slice none 0 0] 29 (0, 0)) b17_2 hg (Kd.N_ne HO_3.out BK478.out (by decide))); replace HO494 := Aside0.mk (Kd.V_afterv (ok := (fun k_ => (w.heap.size ≤ k_) ∧ some k_ ≠ (.slice (some ad485) t482.length co10 : Value).ownBlock ∧ k_ ≠ gb478 ∧ k_ ≠ gb496)) (by refine cV_ ?_; exact Kd.V_mono HO494.out (fun _ hk => ⟨⟨hk.1, ⟨hk.2.2.1, ⟨hk.2.2.2.1, hk.2.2.2.2⟩⟩⟩, hk.2.1⟩)) hg hat); replace BK496 := Aside0.mk (blk_grown (g := gb496) (o := .cells #[.int .i64 t486, .int .i64 t487, .int .i64 t488, .int .i64 t489, .int .i64 t490, .int .i64 t491, .slice Ao21 t492.length co21] 36 (0, 0)) (cO_ BK496.out) hg (Kd.N_away HO_3.out (fun _ hk => hk.2.2.2))); replace HB := Aside0.mk (hb); have HO499 := Aside0.mk (ho); clear HO_3; clear ho hb hg hat))
         go_roundg k1
         case measure => have := HK1.out; omega
         case rel => exact ⟨(y497), (wrap64 (x17_1 + 1)), (x479000_1), (x479001_1), cs_, H', ⟨co_ HK1.out⟩, ⟨by refine cN_ ?_; exact Kd.N_mono HO499.out (fun _ hk => ⟨hk.1, ⟨hk.2.1, hk.2.2.1⟩⟩)⟩, ⟨cR_ HO_15.out⟩, ⟨cO_ BK478.out⟩, ⟨cB2_ GE478.out GE496.out⟩⟩
        ·rw [if_neg c16] at H
         exact absurd H (by simp)
       ·replace c15 := Bool.eq_false_iff.mpr c15
        subst c15
        rw [if_neg (show ¬ (false = true) by decide)] at H
        simp only [Option.some.injEq, Prod.mk.injEq] at H
        obtain ⟨rfl, rfl, rfl⟩ := H
        have p485 : 0 ≤ (x17_1 : Int) := cd_
        have q485 : x17_1 < (t482.length : Int) := cd_
        obtain ⟨ad485, e485, hx485_0⟩ := Kd.at_string (Kd.R_reads' HO_15.out).2.2 x17_1 p485 q485
        cases e485
        replace p485 := eq_true p485
        replace q485 := eq_true q485
        go_wp2_with (first | (refine gl_ 22 (some 24) Tryz.func22 #[.string (rdOf ByteArray.empty t482 x17_1)] ?_; (with_reducible refine (impl_readNode.calls k1 (rdOf ByteArray.empty t482 x17_1) t486 t487 t488 t489 t490 t491 t492 false _ (Tab.tabB HTB_.out b17_0) A14.out).mono ?_); rintro e w25 ⟨v493, rfl, ho0, hb⟩; refine ⟨_, rfl, ?_⟩; have HO494 := Aside0.mk (Kd.V_lower (Kd.V_mono (ok' := fun k_ => (w.heap.size ≤ k_) ∧ some k_ ≠ (u3 : Value).ownBlock ∧ some k_ ≠ (.slice (some ad485) t482.length co10 : Value).ownBlock ∧ k_ ≠ gb478) ho0 (fun k_ hk_ => ⟨(Nat.le_trans (below_size b17_0) hk_), (Kd.fresh' (Kd.N_lt b17_5) k_ hk_), (Kd.fresh' (Kd.R_lt b17_4) k_ hk_), (Kd.freshB (g := gb478) (o := .cells #[.int .i64 x479000_1, .int .i64 x479001_1, .slice none 0 0] 29 (0, 0)) b17_2 k_ hk_)⟩)) (below_size b17_0)); replace HO_3 := Aside0.mk (Kd.N_below b17_5 hb); replace HO_15 := Aside0.mk (Kd.R_below b17_4 hb); replace BK478 := Aside0.mk (blk_below (g := gb478) (o := .cells #[.int .i64 x479000_1, .int .i64 x479001_1, .slice none 0 0] 29 (0, 0)) b17_2 hb); replace HB := Aside0.mk (below_step b17_0 hb); (try clear hb); (try clear ho0)) | (refine bx_ 6 #[.int .i64 0, .int .i64 0, .int .i64 0, .int .i64 0, .int .i64 0, .int .i64 0, .slice none 0 0] 36 ?_; intro gb496 hg w26 hbox hb; replace HO_3 := Aside0.mk (Kd.N_below (Kd.N_elderB b17_5 gb496 (Nat.le_of_eq hg.symm)) hb); replace HO_15 := Aside0.mk (Kd.R_below b17_4 hb); replace HO494 := Aside0.mk (Kd.V_below (Kd.V_elderB (cV_ HO494.out) gb496 (Nat.le_of_eq hg.symm)) hb); have BK496 := Aside0.mk (hbox); have GW496 := Aside0.mk ((by rw [hg]; exact (below_size b17_0) : w.heap.size ≤ gb496)); have GE496 := Aside0.mk ((by rw [hg]; exact (below_size b17_0) : w.heap.size ≤ gb496)); replace HB := Aside0.mk (below_step b17_0 hb); have NB478_496 := Aside0.mk ((by rw [hg]; exact Nat.ne_of_lt (blk_lt (g := gb478) (o := .cells #[.int .i64 x479000_1, .int .i64 x479001_1, .slice none 0 0] 29 (0, 0)) b17_2) : gb478 ≠ gb496)); have NB496_478 := Aside0.mk ((by rw [hg]; exact Nat.ne_of_gt (blk_lt (g := gb478) (o := .cells #[.int .i64 x479000_1, .int .i64 x479001_1, .slice none 0 0] 29 (0, 0)) b17_2) : gb496 ≠ gb478)); replace BK478 := Aside0.mk (blk_below (g := gb478) (o := .cells #[.int .i64 x479000_1, .int .i64 x479001_1, .slice none 0 0] 29 (0, 0)) b17_2 hb); clear hb hbox hg; have hnb27 := NB496_478.out; have hnc27 := NB478_496.out; obtain ⟨_, _, _, _, _, _, _, _, _, _, _, _, _, _⟩ := cells7 BK496.out; obtain ⟨Ao29, co29, eo29⟩ := Kd.V_slice HO494.out; subst eo29; obtain ⟨hcz30_0, hcz30_1, hcz30_2, hfz30_0, hfz30_1, hfz30_2⟩ := cells3 BK478.out))
        refine bodyPost_ret (results_cell_row rfl _ _ gb478 29 #[.int .i64 5, .int .i64 x17_1, .slice none 0 0] (0, 0) _ rfl (by refine cO_ ?_; refine blk_put (cs := #[.int .i64 5, .int .i64 x17_1, .slice none 0 0]) ?_ 2 _ rfl; refine cO_ ?_; refine blk_put (cs := #[.int .i64 5, .int .i64 x479001_1, .slice none 0 0]) ?_ 1 _ rfl; refine cO_ ?_; refine blk_put (cs := #[.int .i64 x479000_1, .int .i64 x479001_1, .slice none 0 0]) ?_ 0 _ rfl; refine cO_ ?_; refine blk_far ?_ NB478_496.out _; refine cO_ ?_; refine blk_far ?_ NB478_496.out _; refine cO_ ?_; refine blk_far ?_ NB478_496.out _; refine cO_ ?_; refine blk_far ?_ NB478_496.out _; refine cO_ ?_; refine blk_far ?_ NB478_496.out _; refine cO_ ?_; refine blk_far ?_ NB478_496.out _; refine cO_ ?_; refine blk_far ?_ NB478_496.out _; refine cO_ ?_; exact BK478.out) Tryz.underlying29 rfl (by kernel_rfl)) rfl ?_
        exact ⟨_, ce_, q17_0, cB2_ GE478.out GE496.out⟩
      ·rw [if_neg c13] at H
       exact absurd H (by simp)
     ·rw [if_neg c12] at H
      exact absurd H (by simp)
    ·rw [if_neg c11] at H
     have c11b0 := decide_eq_false c11
     clear c11
     obtain ⟨t500, A31, H⟩ := bnd_ H
     try dsimp only at H
     by_cases c32 : t500 = 0
     ·rw [if_pos c32] at H
      have c32b0 : (t500 == 0) = true := beq_iff_eq.mpr c32
      have c32b1 : (t500 != 0) = false := bne_eq_false_iff_eq.mpr c32
      clear c32
      simp only [Option.some.injEq, Prod.mk.injEq] at H
      obtain ⟨rfl, rfl, rfl⟩ := H
      obtain ⟨Ao33, co33, eo33⟩ := Kd.N_slice HO_3.out
      subst eo33
      go_wp2_with (first | (refine gl_ 9 (some 37) Tryz.func9 #[.slice Ao33 x3_1.length co33] ?_; (with_reducible refine (impl_PlanFault.calls k1 _ _ x3_1 t500 _ ?side1 ?side2 A31.out).mono ?_); (case side1 => exact cC_ ((Kd.N_reads' HO_3.out).2.2)); (case side2 => exact (Kd.N_reads' HO_3.out).2.1); rintro e w34 ⟨rfl, hb⟩; refine ⟨_, rfl, ?_⟩; replace HO_3 := Aside0.mk (Kd.N_below b17_5 hb); replace HO_15 := Aside0.mk (Kd.R_below b17_4 hb); replace BK478 := Aside0.mk (blk_below (g := gb478) (o := .cells #[.int .i64 x479000_1, .int .i64 x479001_1, .slice none 0 0] 29 (0, 0)) b17_2 hb); replace HB := Aside0.mk (below_step b17_0 hb); (try clear hb); obtain ⟨hcz35_0, hcz35_1, hcz35_2, hfz35_0, hfz35_1, hfz35_2⟩ := cells3 BK478.out))
      refine bodyPost_ret (results_cell_row rfl _ _ gb478 29 #[.int .i64 0, .int .i64 0, .slice Ao33 x3_1.length co33] (0, 0) _ rfl (by refine cO_ ?_; refine blk_put (cs := #[.int .i64 0, .int .i64 0, .slice none 0 0]) ?_ 2 _ rfl; refine cO_ ?_; refine blk_put (cs := #[.int .i64 0, .int .i64 x479001_1, .slice none 0 0]) ?_ 1 _ rfl; refine cO_ ?_; refine blk_put (cs := #[.int .i64 x479000_1, .int .i64 x479001_1, .slice none 0 0]) ?_ 0 _ rfl; refine cO_ ?_; exact BK478.out) Tryz.underlying29 rfl (by kernel_rfl)) rfl ?_
      exact ⟨_, ce_, by refine cN_ ?_; exact Kd.N_mono (Kd.N_far (p := ⟨gb478, 2, none⟩) (Kd.N_far (p := ⟨gb478, 1, none⟩) (Kd.N_far (p := ⟨gb478, 0, none⟩) (Kd.N_mono HO_3.out (fun k_ hk => (⟨hk, hk.2.2⟩ : _ ∧ k_ ≠ gb478))) (fun _ hk => hk.2) (.int .i64 0)) (fun _ hk => hk.2) (.int .i64 0)) (fun _ hk => hk.2) (.slice Ao33 x3_1.length co33)) (fun _ hk => hk.1.1), cB1_ GE478.out⟩
     ·rw [if_neg c32] at H
      have c32b0 : (t500 == 0) = false := beq_eq_false_iff_ne.mpr c32
      have c32b1 : (t500 != 0) = true := bne_iff_ne.mpr c32
      simp only [Option.some.injEq, Prod.mk.injEq] at H
      obtain ⟨rfl, rfl, rfl⟩ := H
      obtain ⟨Ao36, co36, eo36⟩ := Kd.N_slice HO_3.out
      subst eo36
      go_wp2_with (first | (refine gl_ 9 (some 37) Tryz.func9 #[.slice Ao36 x3_1.length co36] ?_; (with_reducible refine (impl_PlanFault.calls k1 _ _ x3_1 t500 _ ?side1 ?side2 A31.out).mono ?_); (case side1 => exact cC_ ((Kd.N_reads' HO_3.out).2.2)); (case side2 => exact (Kd.N_reads' HO_3.out).2.1); rintro e w37 ⟨rfl, hb⟩; refine ⟨_, rfl, ?_⟩; replace HO_3 := Aside0.mk (Kd.N_below b17_5 hb); replace HO_15 := Aside0.mk (Kd.R_below b17_4 hb); replace BK478 := Aside0.mk (blk_below (g := gb478) (o := .cells #[.int .i64 x479000_1, .int .i64 x479001_1, .slice none 0 0] 29 (0, 0)) b17_2 hb); replace HB := Aside0.mk (below_step b17_0 hb); (try clear hb); obtain ⟨hcz38_0, hcz38_1, hcz38_2, hfz38_0, hfz38_1, hfz38_2⟩ := cells3 BK478.out))
      refine bodyPost_ret (results_cell_row rfl _ _ gb478 29 #[.int .i64 t500, .int .i64 0, .slice none 0 0] (0, 0) _ rfl (by refine cO_ ?_; refine blk_put (cs := #[.int .i64 t500, .int .i64 0, .slice none 0 0]) ?_ 2 _ rfl; refine cO_ ?_; refine blk_put (cs := #[.int .i64 t500, .int .i64 x479001_1, .slice none 0 0]) ?_ 1 _ rfl; refine cO_ ?_; refine blk_put (cs := #[.int .i64 x479000_1, .int .i64 x479001_1, .slice none 0 0]) ?_ 0 _ rfl; refine cO_ ?_; exact BK478.out) Tryz.underlying29 rfl (by kernel_rfl)) rfl ?_
      exact ⟨_, ce_, q17_0, cB1_ GE478.out⟩

/-! ### impl_nodeCode: function 23 -/
def impl_nodeCode.f (k : Nat) (l0 : List (S36)) (a1 : Int) : Option (List Int × Int) := (impl_looked.f k l0).bind fun bt501 => (if bt501.2 = 0 then ((impl_Node.f l0).bind fun t505 => ((impl_in.f a1 0 (wrap64 (t505 - 1))).bind fun t506 => (if t506 = true then (some (bt501.1, bt501.2)) else (some (bt501.1, 3))))) else (some (bt501.1, bt501.2)))
theorem impl_nodeCode.mono : ∀ a0 a1 k, LeO (impl_nodeCode.f k a0 a1) (impl_nodeCode.f (k + 1) a0 a1) := by
 intro a0 a1 k
 unfold impl_nodeCode.f
 repeat' first
   | (with_reducible exact impl_looked.mono _ _)
   | (with_reducible exact LeO.refl _)
   | (with_reducible exact LeO.none _)
   | (with_reducible refine LeO.ite ?_ ?_)
   | (with_reducible refine LeO.bind ?_ (fun _ => ?_))
   | refine LeO.ite ?_ ?_
   | refine LeO.bind ?_ (fun _ => ?_)
theorem impl_nodeCode.calls (k : Nat) (A0 : Option Addr) (c0 : Nat) (l0 : List (S36)) (a1 : Int) (r1 : List Int) (r2 : Int) (w : World) (hr0 : Kd.C k36 w A0 l0.length l0) (hc0 : l0.length ≤ c0) (h : impl_nodeCode.f k l0 a1 = some (r1, r2)) :
  Calls Tryz.prog 23 #[.slice A0 l0.length c0, .int .i64 a1] w fun e w' => ∃ v0_ : Value, e = .returned (.tuple #[v0_, .int .i64 r2]) ∧ Kd.R (Kd.int .i64) 2 w' w.heap.size (fun _ => True) v0_ r1 ∧ Below w.heap.size w w' := by
 have HR0 := Aside0.mk hr0
 have HC0 := Aside0.mk hc0
 clear hr0 hc0
 have HB := Aside0.mk (Below.refl w.heap.size w)
 have H : ((impl_looked.f k l0).bind fun bt501 => (if bt501.2 = 0 then ((impl_Node.f l0).bind fun t505 => ((impl_in.f a1 0 (wrap64 (t505 - 1))).bind fun t506 => (if t506 = true then (some (bt501.1, bt501.2)) else (some (bt501.1, 3))))) else (some (bt501.1, bt501.2)))) = some (r1, r2) := h
 clear h
 obtain ⟨⟨t501, t502⟩, A3, H⟩ := bnd_ H
 try dsimp only at H
 by_cases c4 : t502 = 0
 ·rw [if_pos c4] at H
  have c4b0 : (t502 == 0) = true := beq_iff_eq.mpr c4
  have c4b1 : (t502 != 0) = false := bne_eq_false_iff_eq.mpr c4
  clear c4
  obtain ⟨t505, A5, H⟩ := bnd_ H
  try dsimp only at H
  obtain ⟨t506, A6, H⟩ := bnd_ H
  try dsimp only at H
  by_cases c7 : t506 = true
  ·subst c7
   rw [if_pos rfl] at H
   simp only [Option.some.injEq, Prod.mk.injEq] at H
   obtain ⟨rfl, rfl⟩ := H
   go_enter Tryz.func23, Tryz.ntmps23
   go_wp2_with (first | (refine gl_ 20 (some 10) Tryz.func20 #[.slice A0 l0.length c0] ?_; (with_reducible refine (impl_looked.calls k _ _ l0 t501 t502 _ ?side1 ?side2 A3.out).mono ?_); (case side1 => exact cC_ HR0.out); (case side2 => exact HC0.out); rintro e w8 ⟨v503, rfl, ho0, hb⟩; refine ⟨_, rfl, ?_⟩; have HO504 := Aside0.mk (Kd.R_lower ho0 (below_size cB0_)); replace HB := Aside0.mk (below_step cB0_ hb); (try clear hb); (try clear ho0)) | (go_at_call 41; (with_reducible refine (impl_Node.calls _ _ l0 t505 _ ?side1 ?side2 A5.out).mono ?_); (case side1 => exact b17_7); (case side2 => exact HC0.out); rintro e w' ⟨rfl, ⟨nd, rfl⟩⟩) | (go_at_call 40; (with_reducible refine (impl_in.calls a1 0 (wrap64 (t505 - 1)) true _ A6.out).mono ?_); rintro e w' ⟨rfl, ⟨nd, rfl⟩⟩))
   go_ret2
   exact ⟨_, ce_, cR_ HO504.out, cB0_⟩
  ·replace c7 := Bool.eq_false_iff.mpr c7
   subst c7
   rw [if_neg (show ¬ (false = true) by decide)] at H
   simp only [Option.some.injEq, Prod.mk.injEq] at H
   obtain ⟨rfl, rfl⟩ := H
   go_enter Tryz.func23, Tryz.ntmps23
   go_wp2_with (first | (refine gl_ 20 (some 10) Tryz.func20 #[.slice A0 l0.length c0] ?_; (with_reducible refine (impl_looked.calls k _ _ l0 t501 t502 _ ?side1 ?side2 A3.out).mono ?_); (case side1 => exact cC_ HR0.out); (case side2 => exact HC0.out); rintro e w9 ⟨v503, rfl, ho0, hb⟩; refine ⟨_, rfl, ?_⟩; have HO504 := Aside0.mk (Kd.R_lower ho0 (below_size cB0_)); replace HB := Aside0.mk (below_step cB0_ hb); (try clear hb); (try clear ho0)) | (go_at_call 41; (with_reducible refine (impl_Node.calls _ _ l0 t505 _ ?side1 ?side2 A5.out).mono ?_); (case side1 => exact b17_7); (case side2 => exact HC0.out); rintro e w' ⟨rfl, ⟨nd, rfl⟩⟩) | (go_at_call 40; (with_reducible refine (impl_in.calls a1 0 (wrap64 (t505 - 1)) false _ A6.out).mono ?_); rintro e w' ⟨rfl, ⟨nd, rfl⟩⟩))
   go_ret2
   exact ⟨_, ce_, cR_ HO504.out, cB0_⟩
 ·rw [if_neg c4] at H
  have c4b0 : (t502 == 0) = false := beq_eq_false_iff_ne.mpr c4
  have c4b1 : (t502 != 0) = true := bne_iff_ne.mpr c4
  simp only [Option.some.injEq, Prod.mk.injEq] at H
  obtain ⟨rfl, rfl⟩ := H
  go_enter Tryz.func23, Tryz.ntmps23
  go_wp2_with (first | (refine gl_ 20 (some 10) Tryz.func20 #[.slice A0 l0.length c0] ?_; (with_reducible refine (impl_looked.calls k _ _ l0 t501 t502 _ ?side1 ?side2 A3.out).mono ?_); (case side1 => exact cC_ HR0.out); (case side2 => exact HC0.out); rintro e w10 ⟨v503, rfl, ho0, hb⟩; refine ⟨_, rfl, ?_⟩; have HO504 := Aside0.mk (Kd.R_lower ho0 (below_size cB0_)); replace HB := Aside0.mk (below_step cB0_ hb); (try clear hb); (try clear ho0)))
  go_ret2
  exact ⟨_, ce_, cR_ HO504.out, cB0_⟩

/-! ### impl_WidthOf: function 11 -/
def impl_WidthOf.f (k : Nat) (l0 : List (S36)) (a1 : Int) : Option (Int × Int) := (impl_nodeCode.f k l0 a1).bind fun bt508 => (if bt508.2 = 0 then (if 0 ≤ a1 then (if a1 < (bt508.1.length : Int) then (some (0, rd bt508.1 a1)) else (none)) else (none)) else (some (bt508.2, 0)))
theorem impl_WidthOf.mono : ∀ a0 a1 k, LeO (impl_WidthOf.f k a0 a1) (impl_WidthOf.f (k + 1) a0 a1) := by
 intro a0 a1 k
 unfold impl_WidthOf.f
 repeat' first
   | (with_reducible exact impl_nodeCode.mono _ _ _)
   | (with_reducible exact LeO.refl _)
   | (with_reducible exact LeO.none _)
   | (with_reducible refine LeO.ite ?_ ?_)
   | (with_reducible refine LeO.bind ?_ (fun _ => ?_))
   | refine LeO.ite ?_ ?_
   | refine LeO.bind ?_ (fun _ => ?_)
theorem impl_WidthOf.calls (k : Nat) (A0 : Option Addr) (c0 : Nat) (l0 : List (S36)) (a1 : Int) (r1 : Int) (r2 : Int) (w : World) (hr0 : Kd.C k36 w A0 l0.length l0) (hc0 : l0.length ≤ c0) (h : impl_WidthOf.f k l0 a1 = some (r1, r2)) :
  Calls Tryz.prog 11 #[.slice A0 l0.length c0, .int .i64 a1] w fun e w' => e = .returned (.agg #[.int .i64 r1, .int .i64 r2]) ∧ Below w.heap.size w w' := by
 have hu32 := Tryz.underlying32
 have HR0 := Aside0.mk hr0
 have HC0 := Aside0.mk hc0
 clear hr0 hc0
 have HB := Aside0.mk (Below.refl w.heap.size w)
 have H : ((impl_nodeCode.f k l0 a1).bind fun bt508 => (if bt508.2 = 0 then (if 0 ≤ a1 then (if a1 < (bt508.1.length : Int) then (some (0, rd bt508.1 a1)) else (none)) else (none)) else (some (bt508.2, 0)))) = some (r1, r2) := h
 clear h
 obtain ⟨⟨t508, t509⟩, A3, H⟩ := bnd_ H
 try dsimp only at H
 by_cases c4 : t509 = 0
 ·rw [if_pos c4] at H
  have c4b0 : (t509 == 0) = true := beq_iff_eq.mpr c4
  have c4b1 : (t509 != 0) = false := bne_eq_false_iff_eq.mpr c4
  clear c4
  by_cases c5 : 0 ≤ a1
  ·rw [if_pos c5] at H
   have c5b0 := decide_eq_true c5
   clear c5
   by_cases c6 : a1 < (t508.length : Int)
   ·rw [if_pos c6] at H
    have c6b0 := decide_eq_true c6
    clear c6
    simp only [Option.some.injEq, Prod.mk.injEq] at H
    obtain ⟨rfl, rfl⟩ := H
    go_enter Tryz.func11, Tryz.ntmps11
    go_wp2_with (first | (refine bx_ 4 #[.int .i64 0, .int .i64 0] 32 ?_; intro gb507 hg w7 hbox hb; have BK507 := Aside0.mk (hbox); have GW507 := Aside0.mk ((by rw [hg]; exact (below_size cB0_) : w.heap.size ≤ gb507)); have GE507 := Aside0.mk ((by rw [hg]; exact (below_size cB0_) : w.heap.size ≤ gb507)); replace HB := Aside0.mk (below_step cB0_ hb); clear hb hbox hg) | (refine gl_ 23 (some 10) Tryz.func23 #[.slice A0 l0.length c0, .int .i64 a1] ?_; (with_reducible refine (impl_nodeCode.calls k _ _ l0 a1 t508 t509 _ ?side1 ?side2 A3.out).mono ?_); (case side1 => exact b17_7); (case side2 => exact HC0.out); rintro e w8 ⟨v510, rfl, ho0, hb⟩; refine ⟨_, rfl, ?_⟩; have HO511 := Aside0.mk (Kd.R_lower ho0 (below_size (cB1_ GE507.out))); replace BK507 := Aside0.mk (blk_below (g := gb507) (o := .cells #[.int .i64 0, .int .i64 0] 32 (0, 0)) (cO_ BK507.out) hb); replace HB := Aside0.mk (below_step (cB1_ GE507.out) hb); (try clear hb); (try clear ho0); obtain ⟨Ao9, co9, eo9⟩ := Kd.R_slice HO511.out; subst eo9; have p512 : 0 ≤ (a1 : Int) := cd_; have q512 : a1 < (t508.length : Int) := cd_; obtain ⟨ad512, e512, hx512_0⟩ := Kd.at_int (Kd.R_reads' HO511.out).2.2 a1 p512 q512; cases e512; replace p512 := eq_true p512; replace q512 := eq_true q512; obtain ⟨hcz10_0, hcz10_1, hfz10_0, hfz10_1⟩ := cells2 BK507.out))
    refine bodyPost_ret (results_cell_row rfl _ _ gb507 32 #[.int .i64 0, .int .i64 (rd t508 a1)] (0, 0) _ rfl (by refine cO_ ?_; refine blk_put (cs := #[.int .i64 0, .int .i64 0]) ?_ 1 _ rfl; refine cO_ ?_; refine blk_put (cs := #[.int .i64 0, .int .i64 0]) ?_ 0 _ rfl; refine cO_ ?_; exact BK507.out) Tryz.underlying32 rfl (by kernel_rfl)) rfl ?_
    exact ⟨ce_, cB1_ GE507.out⟩
   ·rw [if_neg c6] at H
    exact absurd H (by simp)
  ·rw [if_neg c5] at H
   exact absurd H (by simp)
 ·rw [if_neg c4] at H
  have c4b0 : (t509 == 0) = false := beq_eq_false_iff_ne.mpr c4
  have c4b1 : (t509 != 0) = true := bne_iff_ne.mpr c4
  simp only [Option.some.injEq, Prod.mk.injEq] at H
  obtain ⟨rfl, rfl⟩ := H
  go_enter Tryz.func11, Tryz.ntmps11
  go_wp2_with (first | (refine bx_ 4 #[.int .i64 0, .int .i64 0] 32 ?_; intro gb507 hg w11 hbox hb; have BK507 := Aside0.mk (hbox); have GW507 := Aside0.mk ((by rw [hg]; exact (below_size cB0_) : w.heap.size ≤ gb507)); have GE507 := Aside0.mk ((by rw [hg]; exact (below_size cB0_) : w.heap.size ≤ gb507)); replace HB := Aside0.mk (below_step cB0_ hb); clear hb hbox hg) | (refine gl_ 23 (some 10) Tryz.func23 #[.slice A0 l0.length c0, .int .i64 a1] ?_; (with_reducible refine (impl_nodeCode.calls k _ _ l0 a1 t508 t509 _ ?side1 ?side2 A3.out).mono ?_); (case side1 => exact b17_7); (case side2 => exact HC0.out); rintro e w12 ⟨v510, rfl, ho0, hb⟩; refine ⟨_, rfl, ?_⟩; have HO511 := Aside0.mk (Kd.R_lower ho0 (below_size (cB1_ GE507.out))); replace BK507 := Aside0.mk (blk_below (g := gb507) (o := .cells #[.int .i64 0, .int .i64 0] 32 (0, 0)) (cO_ BK507.out) hb); replace HB := Aside0.mk (below_step (cB1_ GE507.out) hb); (try clear hb); (try clear ho0); obtain ⟨hcz13_0, hcz13_1, hfz13_0, hfz13_1⟩ := cells2 BK507.out))
  refine bodyPost_ret (results_cell_row rfl _ _ gb507 32 #[.int .i64 t509, .int .i64 0] (0, 0) _ rfl (by refine cO_ ?_; refine blk_put (cs := #[.int .i64 t509, .int .i64 0]) ?_ 1 _ rfl; refine cO_ ?_; refine blk_put (cs := #[.int .i64 0, .int .i64 0]) ?_ 0 _ rfl; refine cO_ ?_; exact BK507.out) Tryz.underlying32 rfl (by kernel_rfl)) rfl ?_
  exact ⟨ce_, cB1_ GE507.out⟩

end Go.Proofs.YteibdjkfkcckkaaGreatDoor.PFnPlans
