-- Written by fprint, a program of this session, out of Lean's own print of the translation. Lean checks it.
import Derived.Test.YthgmicingbjemaaDoorDense
import Derived.Test.YthgmicingbjemaaDoorPFnSumsx0
import Derived.Test.YthgmicingbjemaaDoorPFnSumsx2
import Derived.Test.YthgmicingbjemaaDoorPFnSumsx4
namespace Go.Proofs.YthgmicingbjemaaDoor.PFnSums
open Go.RowKit Go.Proofs.YthgmicingbjemaaDoorW.PrintWords Go.Proofs.YthgmicingbjemaaDoorW.PrintLast Go.Proofs.YthgmicingbjemaaDoorW.PrintMore
attribute [local go_sem] max2_int min2_int max_two min_two max_three min_three max_four min_four   -- for this text's walks alone
set_option linter.unusedVariables false
set_option linter.unusedSimpArgs false

theorem b5_0 {p : Prop} (h : p := by exact cB1_ GE254.out) : p := h
theorem b5_4 {p : Prop} (h : p := by exact cO_ BK254.out) : p := h
theorem b5_5 {p : Prop} (h : p := by exact Kd.C_below HR259_0.out (cB2_ GE254.out GE260.out)) : p := h
theorem q5_0 {p : Prop} (h : p := by first | exact Kd.S_nil _ _ _ _ _ | exact Kd.N_nil _ _ _ _ _ | exact Kd.V_nil _ _ _ _ _ | exact Kd.Q_nil _ _ _ _ _ | exact Kd.R_nil _ _ _ _ _) : p := h
/-! ### impl_Consolidate: function 6 -/
def impl_Consolidate.l0 : Nat → List (S31) → List (S31) → Int → Int → Option (Int × (List (S31)))
 | 0, _, _, _, _ => none
 | k + 1, x0, x12, x13, x14 => if x14 < x13 then (if 0 ≤ x14 then (if x14 < (x12.length : Int) then ((impl_RowFault.f k ((rd_T31 x12 x14).f0)).bind fun t261 => (if t261 = 0 then ((impl_isWeight.f ((rd_T31 x12 x14).f1)).bind fun t262 => (if t262 = true then (impl_Consolidate.l0 k x0 x12 x13 (wrap64 (x14 + 1))) else (some (3, ([] : List (S31)))))) else (some (t261, ([] : List (S31)))))) else (none)) else (none)) else ((impl_summed.f x0).bind fun bt255 => (some (bt255.2, bt255.1)))
def impl_Consolidate.f (k : Nat) (l0 : List (S31)) : Option (Int × (List (S31))) := if (l0.length : Int) > 800 then (some (2, ([] : List (S31)))) else (impl_Consolidate.l0 k l0 l0 (l0.length : Int) 0)
theorem impl_Consolidate.mono_l : ∀ k, (∀ y0 y1 y2 y3, LeO (impl_Consolidate.l0 k y0 y1 y2 y3) (impl_Consolidate.l0 (k + 1) y0 y1 y2 y3))
 | 0 => fun _ _ _ _ r h => by simp [impl_Consolidate.l0] at h
 | k + 1 => by
  have ih0 := impl_Consolidate.mono_l k
  ·intro y0 y1 y2 y3
   unfold impl_Consolidate.l0
   repeat' first
   | (with_reducible exact ih0 _ _ _ _)
   | (with_reducible exact impl_RowFault.mono _ _)
   | (with_reducible exact LeO.refl _)
   | (with_reducible exact LeO.none _)
   | (with_reducible refine LeO.ite ?_ ?_)
   | (with_reducible refine LeO.bind ?_ (fun _ => ?_))
   | exact ih0 _ _ _ _
   | exact impl_RowFault.mono _ _
   | exact LeO.none _
   | refine LeO.ite ?_ ?_
   | refine LeO.bind ?_ (fun _ => ?_)
theorem impl_Consolidate.mono : ∀ a0 k, LeO (impl_Consolidate.f k a0) (impl_Consolidate.f (k + 1) a0) := by
 intro a0 k
 have ih0 := impl_Consolidate.mono_l k
 unfold impl_Consolidate.f
 repeat' first
   | (with_reducible exact ih0 _ _ _ _)
   | (with_reducible exact impl_RowFault.mono _ _)
   | (with_reducible exact LeO.refl _)
   | (with_reducible exact LeO.none _)
   | (with_reducible refine LeO.ite ?_ ?_)
   | (with_reducible refine LeO.bind ?_ (fun _ => ?_))
   | exact ih0 _ _ _ _
   | exact impl_RowFault.mono _ _
   | exact LeO.none _
   | refine LeO.ite ?_ ?_
   | refine LeO.bind ?_ (fun _ => ?_)
set_option maxHeartbeats 8000000 in
set_option maxRecDepth 100000 in
theorem impl_Consolidate.calls (k : Nat) (A0 : Option Addr) (c0 : Nat) (l0 : List (S31)) (r1 : Int) (r2 : List (S31)) (w : World) (hr0 : Kd.C k31 w A0 l0.length l0) (hc0 : l0.length ≤ c0) (h : impl_Consolidate.f k l0 = some (r1, r2)) :
  Calls Tryd.prog 6 #[.slice A0 l0.length c0] w fun e w' => ∃ v1_ : Value, e = .returned (.agg #[.int .i64 r1, v1_]) ∧ Kd.S k31 31 w' w.heap.size (fun _ => True) v1_ r2 ∧ Below w.heap.size w w' := by
 have hu27 := Tryd.underlying27
 have hu31 := Tryd.underlying31
 have HR0 := Aside0.mk hr0
 have HC0 := Aside0.mk hc0
 clear hr0 hc0
 have HB := Aside0.mk (Below.refl w.heap.size w)
 have H : (if (l0.length : Int) > 800 then (some (2, ([] : List (S31)))) else (impl_Consolidate.l0 k l0 l0 (l0.length : Int) 0)) = some (r1, r2) := h
 clear h
 by_cases c2 : (l0.length : Int) > 800
 ·rw [if_pos c2] at H
  have c2b0 : decide (800 < (l0.length : Int)) = true := decide_eq_true c2
  have c2b1 : decide (800 < l0.length) = true := decide_eq_true (by omega)
  clear c2
  simp only [Option.some.injEq, Prod.mk.injEq] at H
  obtain ⟨rfl, rfl⟩ := H
  go_enter Tryd.func6, Tryd.ntmps6
  go_wp2_with (first | (refine bx_ 2 #[.int .i64 0, .slice none 0 0] 27 ?_; intro gb254 hg w3 hbox hb; have BK254 := Aside0.mk (hbox); have GW254 := Aside0.mk ((by rw [hg]; exact (below_size cB0_) : w.heap.size ≤ gb254)); have GE254 := Aside0.mk ((by rw [hg]; exact (below_size cB0_) : w.heap.size ≤ gb254)); replace HB := Aside0.mk (below_step cB0_ hb); clear hb hbox hg; obtain ⟨hcz4_0, hcz4_1, hfz4_0, hfz4_1⟩ := cells2 BK254.out))
  refine bodyPost_ret (results_cell_row rfl _ _ gb254 27 #[.int .i64 2, .slice none 0 0] (0, 0) _ rfl (by refine cO_ ?_; refine blk_put (cs := #[.int .i64 2, .slice none 0 0]) ?_ 1 _ rfl; refine cO_ ?_; refine blk_put (cs := #[.int .i64 0, .slice none 0 0]) ?_ 0 _ rfl; refine cO_ ?_; exact BK254.out) Tryd.underlying27 rfl (by kernel_rfl)) rfl ?_
  exact ⟨_, ce_, q5_0, cB1_ GE254.out⟩
 rw [if_neg c2] at H
 have c2b0 : decide (800 < (l0.length : Int)) = false := decide_eq_false c2
 have c2b1 : decide (800 < l0.length) = false := decide_eq_false (by omega)
 clear c2
 have H' := Aside0.mk H
 clear H
 go_enter Tryd.func6, Tryd.ntmps6
 go_wp2_with (first | (refine bx_ 2 #[.int .i64 0, .slice none 0 0] 27 ?_; intro gb254 hg w5 hbox hb; have BK254 := Aside0.mk (hbox); have GW254 := Aside0.mk ((by rw [hg]; exact (below_size cB0_) : w.heap.size ≤ gb254)); have GE254 := Aside0.mk ((by rw [hg]; exact (below_size cB0_) : w.heap.size ≤ gb254)); replace HB := Aside0.mk (below_step cB0_ hb); clear hb hbox hg))
 go_loopg [14] k (fun kq v14 w' => ∃ (x14_1 : Int) (x255000_1 : Int), v14 = .int .i64 x14_1 ∧ Aside0 (impl_Consolidate.l0 kq l0 l0 (l0.length : Int) x14_1 = some (r1, r2)) ∧ Aside0 (kq ≤ k) ∧ Aside0 (w'.heap[gb254]? = some (.cells #[.int .i64 x255000_1, (.slice none 0 0)] 27 (0, 0))) ∧ Aside0 (Below w.heap.size w w'))
 case atStart => exact ⟨(0), (0), cs_, H', ⟨Nat.le_refl _⟩, ⟨cO_ BK254.out⟩, ⟨cB1_ GE254.out⟩⟩
 case round =>
  clear H'
  try clear c2
  try clear c2b0
  try clear c2b1
  try clear p2
  try clear hcz4_0
  try clear hcz4_1
  try clear hfz4_0
  try clear hfz4_1
  obtain ⟨x14_1, x255000_1, rfl, HA, HK1, BK254, HB⟩ := hrel
  cases gk with
  | zero => exact absurd HA.out (by simp [impl_Consolidate.l0])
  | succ k1 =>
   have H := HA.out
   clear HA
   simp only [impl_Consolidate.l0] at H
   by_cases c6 : x14_1 < (l0.length : Int)
   rotate_left
   ·rw [if_neg c6] at H
    have c6b0 : decide (x14_1 < (l0.length : Int)) = false := decide_eq_false c6
    clear c6
    obtain ⟨⟨t255, t256⟩, A24, H⟩ := bnd_ H
    try dsimp only at H
    simp only [Option.some.injEq, Prod.mk.injEq] at H
    obtain ⟨rfl, rfl⟩ := H
    go_wp2_with (first | (refine gl_ 21 (some 33) Tryd.func21 #[.slice A0 l0.length c0] ?_; (with_reducible refine (impl_summed.calls _ _ l0 t255 t256 _ ?side1 ?side2 A24.out).mono ?_); (case side1 => exact cC_ (Kd.C_below HR0.out HB.out)); (case side2 => exact HC0.out); rintro e w25 ⟨v257, rfl, ho0, hb⟩; refine ⟨_, rfl, ?_⟩; have HO258 := Aside0.mk (Kd.S_lower ho0 (below_size b5_0)); replace BK254 := Aside0.mk (blk_below (g := gb254) (o := .cells #[.int .i64 x255000_1, .slice none 0 0] 27 (0, 0)) b5_4 hb); replace HB := Aside0.mk (below_step b5_0 hb); (try clear hb); (try clear hb2); (try clear hk); (try clear hi); (try clear ho0); obtain ⟨Ao26, co26, eo26⟩ := Kd.S_slice HO258.out; subst eo26; obtain ⟨hcz27_0, hcz27_1, hfz27_0, hfz27_1⟩ := cells2 BK254.out))
    refine bodyPost_ret (results_cell_row rfl _ _ gb254 27 #[.int .i64 t256, .slice Ao26 t255.length co26] (0, 0) _ rfl (by refine cO_ ?_; refine blk_put (cs := #[.int .i64 t256, .slice none 0 0]) ?_ 1 _ rfl; refine cO_ ?_; refine blk_put (cs := #[.int .i64 x255000_1, .slice none 0 0]) ?_ 0 _ rfl; refine cO_ ?_; exact BK254.out) Tryd.underlying27 rfl (by kernel_rfl)) rfl ?_
    exact ⟨_, ce_, by refine cS_ ?_; exact Kd.S_mono (Kd.S_far (p := ⟨gb254, 1, none⟩) (Kd.S_far (p := ⟨gb254, 0, none⟩) (Kd.S_types HO258.out BK254.out (by decide)) (fun _ hk => hk.2) (.int .i64 t256)) (fun _ hk => hk.2) (.slice Ao26 t255.length co26)) (fun _ hk => trivial), cB1_ GE254.out⟩
   rw [if_pos c6] at H
   have c6b0 : decide (x14_1 < (l0.length : Int)) = true := decide_eq_true c6
   clear c6
   by_cases c7 : 0 ≤ x14_1
   rotate_left
   ·rw [if_neg c7] at H
    exact absurd H (by simp)
   rw [if_pos c7] at H
   have c7b0 : decide (0 ≤ x14_1) = true := decide_eq_true c7
   clear c7
   by_cases c8 : x14_1 < (l0.length : Int)
   rotate_left
   ·rw [if_neg c8] at H
    exact absurd H (by simp)
   rw [if_pos c8] at H
   have c8b0 : decide (x14_1 < (l0.length : Int)) = true := decide_eq_true c8
   clear c8
   obtain ⟨t261, A9, H⟩ := bnd_ H
   try dsimp only at H
   by_cases c10 : t261 = 0
   rotate_left
   ·rw [if_neg c10] at H
    have c10b0 : (t261 == 0) = false := beq_eq_false_iff_ne.mpr c10
    have c10b1 : (t261 != 0) = true := bne_iff_ne.mpr c10
    simp only [Option.some.injEq, Prod.mk.injEq] at H
    obtain ⟨rfl, rfl⟩ := H
    have p259 : 0 ≤ (x14_1 : Int) := of_decide_eq_true ca_
    have q259 : x14_1 < (l0.length : Int) := of_decide_eq_true ca_
    obtain ⟨ad259, A259_0, c259_0, e259, hx259_0, hx259_1, hl259_0, hi259_0⟩ := at_T31 HR0.out x14_1 p259 q259
    cases e259
    replace hx259_0 := (HB.out.cell (World.block_lt_of_cell? w _ hx259_0)).trans hx259_0
    replace hx259_1 := (HB.out.cell (World.block_lt_of_cell? w _ hx259_1)).trans hx259_1
    have HR259_0 := Aside0.mk hi259_0
    have HC259_0 := Aside0.mk hl259_0
    clear hi259_0 hl259_0
    replace p259 := eq_true p259
    replace q259 := eq_true q259
    go_wp2_with (first | (refine bx_ 4 #[.slice none 0 0, .int .i64 0] 31 ?_; intro gb260 hg w20 hbox hb; have BK260 := Aside0.mk (hbox); have GW260 := Aside0.mk ((by rw [hg]; exact (below_size b5_0) : w.heap.size ≤ gb260)); have GE260 := Aside0.mk ((by rw [hg]; exact (below_size b5_0) : w.heap.size ≤ gb260)); replace HB := Aside0.mk (below_step b5_0 hb); have NB254_260 := Aside0.mk ((by rw [hg]; exact Nat.ne_of_lt (blk_lt (g := gb254) (o := .cells #[.int .i64 x255000_1, .slice none 0 0] 27 (0, 0)) b5_4) : gb254 ≠ gb260)); have NB260_254 := Aside0.mk ((by rw [hg]; exact Nat.ne_of_gt (blk_lt (g := gb254) (o := .cells #[.int .i64 x255000_1, .slice none 0 0] 27 (0, 0)) b5_4) : gb260 ≠ gb254)); replace BK254 := Aside0.mk (blk_below (g := gb254) (o := .cells #[.int .i64 x255000_1, .slice none 0 0] 27 (0, 0)) b5_4 hb); clear hb hbox hg; have hnb21 := NB260_254.out; have hnc21 := NB254_260.out; obtain ⟨hcz22_0, hcz22_1, hfz22_0, hfz22_1⟩ := cells2 BK260.out) | (refine gl_ 19 (some 20) Tryd.func19 #[.slice A259_0 ((rd_T31 l0 x14_1).f0).length c259_0] ?_; (with_reducible refine (impl_RowFault.calls k1 _ _ ((rd_T31 l0 x14_1).f0) t261 _ ?side1 ?side2 A9.out).mono ?_); (case side1 => exact b5_5); (case side2 => exact HC259_0.out); rintro e w' ⟨rfl, ⟨nd, rfl⟩⟩; refine ⟨_, rfl, ?_⟩; obtain ⟨hcz23_0, hcz23_1, hfz23_0, hfz23_1⟩ := cells2 BK254.out))
    refine bodyPost_ret (results_cell_row rfl _ _ gb254 27 #[.int .i64 t261, .slice none 0 0] (0, 0) _ rfl (by refine cO_ ?_; refine blk_put (cs := #[.int .i64 t261, .slice none 0 0]) ?_ 1 _ rfl; refine cO_ ?_; refine blk_put (cs := #[.int .i64 x255000_1, .slice none 0 0]) ?_ 0 _ rfl; refine cO_ ?_; refine blk_far ?_ NB254_260.out _; refine cO_ ?_; refine blk_far ?_ NB254_260.out _; refine cO_ ?_; exact BK254.out) Tryd.underlying27 rfl (by kernel_rfl)) rfl ?_
    exact ⟨_, ce_, q5_0, cB2_ GE254.out GE260.out⟩
   rw [if_pos c10] at H
   have c10b0 : (t261 == 0) = true := beq_iff_eq.mpr c10
   have c10b1 : (t261 != 0) = false := bne_eq_false_iff_eq.mpr c10
   clear c10
   obtain ⟨t262, A11, H⟩ := bnd_ H
   try dsimp only at H
   by_cases c12 : t262 = true
   ·subst c12
    rw [if_pos rfl] at H
    have H' := Aside0.mk H
    clear H
    have p259 : 0 ≤ (x14_1 : Int) := of_decide_eq_true ca_
    have q259 : x14_1 < (l0.length : Int) := of_decide_eq_true ca_
    obtain ⟨ad259, A259_0, c259_0, e259, hx259_0, hx259_1, hl259_0, hi259_0⟩ := at_T31 HR0.out x14_1 p259 q259
    cases e259
    replace hx259_0 := (HB.out.cell (World.block_lt_of_cell? w _ hx259_0)).trans hx259_0
    replace hx259_1 := (HB.out.cell (World.block_lt_of_cell? w _ hx259_1)).trans hx259_1
    have HR259_0 := Aside0.mk hi259_0
    have HC259_0 := Aside0.mk hl259_0
    clear hi259_0 hl259_0
    replace p259 := eq_true p259
    replace q259 := eq_true q259
    go_wp2_with (first | (refine bx_ 4 #[.slice none 0 0, .int .i64 0] 31 ?_; intro gb260 hg w13 hbox hb; have BK260 := Aside0.mk (hbox); have GW260 := Aside0.mk ((by rw [hg]; exact (below_size b5_0) : w.heap.size ≤ gb260)); have GE260 := Aside0.mk ((by rw [hg]; exact (below_size b5_0) : w.heap.size ≤ gb260)); replace HB := Aside0.mk (below_step b5_0 hb); have NB254_260 := Aside0.mk ((by rw [hg]; exact Nat.ne_of_lt (blk_lt (g := gb254) (o := .cells #[.int .i64 x255000_1, .slice none 0 0] 27 (0, 0)) b5_4) : gb254 ≠ gb260)); have NB260_254 := Aside0.mk ((by rw [hg]; exact Nat.ne_of_gt (blk_lt (g := gb254) (o := .cells #[.int .i64 x255000_1, .slice none 0 0] 27 (0, 0)) b5_4) : gb260 ≠ gb254)); replace BK254 := Aside0.mk (blk_below (g := gb254) (o := .cells #[.int .i64 x255000_1, .slice none 0 0] 27 (0, 0)) b5_4 hb); clear hb hbox hg; have hnb14 := NB260_254.out; have hnc14 := NB254_260.out; obtain ⟨hcz15_0, hcz15_1, hfz15_0, hfz15_1⟩ := cells2 BK260.out) | (refine gl_ 19 (some 20) Tryd.func19 #[.slice A259_0 ((rd_T31 l0 x14_1).f0).length c259_0] ?_; (with_reducible refine (impl_RowFault.calls k1 _ _ ((rd_T31 l0 x14_1).f0) t261 _ ?side1 ?side2 A9.out).mono ?_); (case side1 => exact b5_5); (case side2 => exact HC259_0.out); rintro e w' ⟨rfl, ⟨nd, rfl⟩⟩; refine ⟨_, rfl, ?_⟩) | (refine gl_ 20 (some 27) Tryd.func20 #[.int .i64 ((rd_T31 l0 x14_1).f1)] ?_; (with_reducible refine (impl_isWeight.calls ((rd_T31 l0 x14_1).f1) true _ A11.out).mono ?_); rintro e w' ⟨rfl, ⟨nd, rfl⟩⟩; refine ⟨_, rfl, ?_⟩))
    go_roundg k1
    case measure => have := HK1.out; omega
    case rel => exact ⟨(wrap64 (x14_1 + 1)), (x255000_1), cs_, H', ⟨co_ HK1.out⟩, ⟨by refine cO_ ?_; refine blk_far ?_ NB254_260.out _; refine cO_ ?_; refine blk_far ?_ NB254_260.out _; refine cO_ ?_; exact BK254.out⟩, ⟨cB2_ GE254.out GE260.out⟩⟩
   replace c12 := Bool.eq_false_iff.mpr c12
   subst c12
   rw [if_neg (show ¬ (false = true) by decide)] at H
   simp only [Option.some.injEq, Prod.mk.injEq] at H
   obtain ⟨rfl, rfl⟩ := H
   have p259 : 0 ≤ (x14_1 : Int) := of_decide_eq_true ca_
   have q259 : x14_1 < (l0.length : Int) := of_decide_eq_true ca_
   obtain ⟨ad259, A259_0, c259_0, e259, hx259_0, hx259_1, hl259_0, hi259_0⟩ := at_T31 HR0.out x14_1 p259 q259
   cases e259
   replace hx259_0 := (HB.out.cell (World.block_lt_of_cell? w _ hx259_0)).trans hx259_0
   replace hx259_1 := (HB.out.cell (World.block_lt_of_cell? w _ hx259_1)).trans hx259_1
   have HR259_0 := Aside0.mk hi259_0
   have HC259_0 := Aside0.mk hl259_0
   clear hi259_0 hl259_0
   replace p259 := eq_true p259
   replace q259 := eq_true q259
   go_wp2_with (first | (refine bx_ 4 #[.slice none 0 0, .int .i64 0] 31 ?_; intro gb260 hg w16 hbox hb; have BK260 := Aside0.mk (hbox); have GW260 := Aside0.mk ((by rw [hg]; exact (below_size b5_0) : w.heap.size ≤ gb260)); have GE260 := Aside0.mk ((by rw [hg]; exact (below_size b5_0) : w.heap.size ≤ gb260)); replace HB := Aside0.mk (below_step b5_0 hb); have NB254_260 := Aside0.mk ((by rw [hg]; exact Nat.ne_of_lt (blk_lt (g := gb254) (o := .cells #[.int .i64 x255000_1, .slice none 0 0] 27 (0, 0)) b5_4) : gb254 ≠ gb260)); have NB260_254 := Aside0.mk ((by rw [hg]; exact Nat.ne_of_gt (blk_lt (g := gb254) (o := .cells #[.int .i64 x255000_1, .slice none 0 0] 27 (0, 0)) b5_4) : gb260 ≠ gb254)); replace BK254 := Aside0.mk (blk_below (g := gb254) (o := .cells #[.int .i64 x255000_1, .slice none 0 0] 27 (0, 0)) b5_4 hb); clear hb hbox hg; have hnb17 := NB260_254.out; have hnc17 := NB254_260.out; obtain ⟨hcz18_0, hcz18_1, hfz18_0, hfz18_1⟩ := cells2 BK260.out) | (refine gl_ 19 (some 20) Tryd.func19 #[.slice A259_0 ((rd_T31 l0 x14_1).f0).length c259_0] ?_; (with_reducible refine (impl_RowFault.calls k1 _ _ ((rd_T31 l0 x14_1).f0) t261 _ ?side1 ?side2 A9.out).mono ?_); (case side1 => exact b5_5); (case side2 => exact HC259_0.out); rintro e w' ⟨rfl, ⟨nd, rfl⟩⟩; refine ⟨_, rfl, ?_⟩) | (refine gl_ 20 (some 27) Tryd.func20 #[.int .i64 ((rd_T31 l0 x14_1).f1)] ?_; (with_reducible refine (impl_isWeight.calls ((rd_T31 l0 x14_1).f1) false _ A11.out).mono ?_); rintro e w' ⟨rfl, ⟨nd, rfl⟩⟩; refine ⟨_, rfl, ?_⟩; obtain ⟨hcz19_0, hcz19_1, hfz19_0, hfz19_1⟩ := cells2 BK254.out))
   refine bodyPost_ret (results_cell_row rfl _ _ gb254 27 #[.int .i64 3, .slice none 0 0] (0, 0) _ rfl (by refine cO_ ?_; refine blk_put (cs := #[.int .i64 3, .slice none 0 0]) ?_ 1 _ rfl; refine cO_ ?_; refine blk_put (cs := #[.int .i64 x255000_1, .slice none 0 0]) ?_ 0 _ rfl; refine cO_ ?_; refine blk_far ?_ NB254_260.out _; refine cO_ ?_; refine blk_far ?_ NB254_260.out _; refine cO_ ?_; exact BK254.out) Tryd.underlying27 rfl (by kernel_rfl)) rfl ?_
   exact ⟨_, ce_, q5_0, cB2_ GE254.out GE260.out⟩

/-! ### spec_l1In: function 41 -/
def spec_l1In.f (a0 : Int) (a1 : Int) (a2 : Int) : Option (Bool) := if a0 ≥ a1 then (some (decide (a0 ≤ a2))) else (some false)
set_option maxHeartbeats 8000000 in
set_option maxRecDepth 100000 in
theorem spec_l1In.calls (a0 : Int) (a1 : Int) (a2 : Int) (r : Bool) (w : World) (h : spec_l1In.f a0 a1 a2 = some r) :
  Calls Tryd.prog 41 #[.int .i64 a0, .int .i64 a1, .int .i64 a2] w fun e w' => e = .returned (.bool r) ∧ Drawn0 w w' := by
 have H : (if a0 ≥ a1 then (some (decide (a0 ≤ a2))) else (some false)) = some r := h
 clear h
 by_cases c4 : a0 ≥ a1
 ·rw [if_pos c4] at H
  have c4b0 : decide (a1 ≤ a0) = true := decide_eq_true c4
  clear c4
  obtain rfl := Option.some.inj H
  go_enter Tryd.func41, Tryd.ntmps41
  go_wp2
  go_ret
  exact ⟨cs_, cD_⟩
 rw [if_neg c4] at H
 have c4b0 : decide (a1 ≤ a0) = false := decide_eq_false c4
 clear c4
 obtain rfl := Option.some.inj H
 go_enter Tryd.func41, Tryd.ntmps41
 go_wp2
 go_ret
 exact ⟨cs_, cD_⟩

/-! ### spec_RowFault: function 22 -/
def spec_RowFault.l0 : Nat → List Int → Int → Option (Int)
 | 0, _, _ => none
 | k + 1, x0, x3 => if x3 < (x0.length : Int) then (if 0 ≤ x3 then ((spec_l1In.f (rd x0 x3) (-1000000000) 1000000000).bind fun t264 => (if t264 = true then (spec_RowFault.l0 k x0 (wrap64 (x3 + 1))) else (some 3))) else (none)) else (some 0)
def spec_RowFault.f (k : Nat) (l0 : List Int) : Option (Int) := if (l0.length : Int) > 4 then (some 2) else (spec_RowFault.l0 k l0 0)
theorem spec_RowFault.mono_l : ∀ k, (∀ y0 y1, LeO (spec_RowFault.l0 k y0 y1) (spec_RowFault.l0 (k + 1) y0 y1))
 | 0 => fun _ _ r h => by simp [spec_RowFault.l0] at h
 | k + 1 => by
  have ih0 := spec_RowFault.mono_l k
  ·intro y0 y1
   unfold spec_RowFault.l0
   repeat' first
   | (with_reducible exact ih0 _ _)
   | (with_reducible exact LeO.refl _)
   | (with_reducible exact LeO.none _)
   | (with_reducible refine LeO.ite ?_ ?_)
   | (with_reducible refine LeO.bind ?_ (fun _ => ?_))
   | exact ih0 _ _
   | exact LeO.none _
   | refine LeO.ite ?_ ?_
   | refine LeO.bind ?_ (fun _ => ?_)
theorem spec_RowFault.mono : ∀ a0 k, LeO (spec_RowFault.f k a0) (spec_RowFault.f (k + 1) a0) := by
 intro a0 k
 have ih0 := spec_RowFault.mono_l k
 unfold spec_RowFault.f
 repeat' first
   | (with_reducible exact ih0 _ _)
   | (with_reducible exact LeO.refl _)
   | (with_reducible exact LeO.none _)
   | (with_reducible refine LeO.ite ?_ ?_)
   | (with_reducible refine LeO.bind ?_ (fun _ => ?_))
   | exact ih0 _ _
   | exact LeO.none _
   | refine LeO.ite ?_ ?_
   | refine LeO.bind ?_ (fun _ => ?_)
set_option maxHeartbeats 8000000 in
set_option maxRecDepth 100000 in
theorem spec_RowFault.calls (k : Nat) (A0 : Option Addr) (c0 : Nat) (l0 : List Int) (r : Int) (w : World) (hr0 : Kd.C (Kd.int .i64) w A0 l0.length l0) (hc0 : l0.length ≤ c0) (h : spec_RowFault.f k l0 = some r) :
  Calls Tryd.prog 22 #[.slice A0 l0.length c0] w fun e w' => e = .returned (.int .i64 r) ∧ Drawn0 w w' := by
 have HR0 := Aside0.mk hr0
 have HC0 := Aside0.mk hc0
 clear hr0 hc0
 have H : (if (l0.length : Int) > 4 then (some 2) else (spec_RowFault.l0 k l0 0)) = some r := h
 clear h
 by_cases c2 : (l0.length : Int) > 4
 ·rw [if_pos c2] at H
  have c2b0 : decide (4 < (l0.length : Int)) = true := decide_eq_true c2
  have c2b1 : decide (4 < l0.length) = true := decide_eq_true (by omega)
  clear c2
  obtain rfl := Option.some.inj H
  go_enter Tryd.func22, Tryd.ntmps22
  go_wp2
  go_ret
  exact ⟨cs_, cD_⟩
 rw [if_neg c2] at H
 have c2b0 : decide (4 < (l0.length : Int)) = false := decide_eq_false c2
 have c2b1 : decide (4 < l0.length) = false := decide_eq_false (by omega)
 clear c2
 have H' := Aside0.mk H
 clear H
 go_enter Tryd.func22, Tryd.ntmps22
 go_wp2
 go_loopg [3] k (fun kq v3 w' => ∃ (x3_1 : Int), v3 = .int .i64 x3_1 ∧ Aside0 (spec_RowFault.l0 kq l0 x3_1 = some r) ∧ Aside0 (kq ≤ k) ∧ Drawn0 w w')
 case atStart => exact ⟨(0), cs_, H', ⟨Nat.le_refl _⟩, cD_⟩
 case round =>
  clear H'
  try clear c2
  try clear c2b0
  try clear c2b1
  try clear p2
  obtain ⟨x3_1, rfl, HA, HK1, ⟨m1, rfl⟩⟩ := hrel
  cases gk with
  | zero => exact absurd HA.out (by simp [spec_RowFault.l0])
  | succ k1 =>
   have H := HA.out
   clear HA
   simp only [spec_RowFault.l0] at H
   by_cases c3 : x3_1 < (l0.length : Int)
   rotate_left
   ·rw [if_neg c3] at H
    have c3b0 : decide (x3_1 < (l0.length : Int)) = false := decide_eq_false c3
    clear c3
    obtain rfl := Option.some.inj H
    go_wp2
    go_ret
    exact ⟨cs_, cD_⟩
   rw [if_pos c3] at H
   have c3b0 : decide (x3_1 < (l0.length : Int)) = true := decide_eq_true c3
   clear c3
   by_cases c4 : 0 ≤ x3_1
   rotate_left
   ·rw [if_neg c4] at H
    exact absurd H (by simp)
   rw [if_pos c4] at H
   have c4b0 : decide (0 ≤ x3_1) = true := decide_eq_true c4
   clear c4
   obtain ⟨t264, A5, H⟩ := bnd_ H
   try dsimp only at H
   by_cases c6 : t264 = true
   ·subst c6
    rw [if_pos rfl] at H
    have H' := Aside0.mk H
    clear H
    have p263 : 0 ≤ (x3_1 : Int) := of_decide_eq_true ca_
    have q263 : x3_1 < (l0.length : Int) := of_decide_eq_true ca_
    obtain ⟨ad263, e263, hx263_0⟩ := Kd.at_int HR0.out x3_1 p263 q263
    cases e263
    replace p263 := eq_true p263
    replace q263 := eq_true q263
    go_wp2_with (first | (refine gl_ 41 (some 17) Tryd.func41 #[.int .i64 (rd l0 x3_1), .int .i64 (-1000000000), .int .i64 1000000000] ?_; (with_reducible refine (spec_l1In.calls (rd l0 x3_1) (-1000000000) 1000000000 true _ A5.out).mono ?_); rintro e w' ⟨rfl, ⟨nd, rfl⟩⟩; refine ⟨_, rfl, ?_⟩))
    go_roundg k1
    case measure => have := HK1.out; omega
    case rel => exact ⟨(wrap64 (x3_1 + 1)), cs_, H', ⟨co_ HK1.out⟩, cD_⟩
   replace c6 := Bool.eq_false_iff.mpr c6
   subst c6
   rw [if_neg (show ¬ (false = true) by decide)] at H
   obtain rfl := Option.some.inj H
   have p263 : 0 ≤ (x3_1 : Int) := of_decide_eq_true ca_
   have q263 : x3_1 < (l0.length : Int) := of_decide_eq_true ca_
   obtain ⟨ad263, e263, hx263_0⟩ := Kd.at_int HR0.out x3_1 p263 q263
   cases e263
   replace p263 := eq_true p263
   replace q263 := eq_true q263
   go_wp2_with (first | (refine gl_ 41 (some 17) Tryd.func41 #[.int .i64 (rd l0 x3_1), .int .i64 (-1000000000), .int .i64 1000000000] ?_; (with_reducible refine (spec_l1In.calls (rd l0 x3_1) (-1000000000) 1000000000 false _ A5.out).mono ?_); rintro e w' ⟨rfl, ⟨nd, rfl⟩⟩; refine ⟨_, rfl, ?_⟩))
   go_ret
   exact ⟨cs_, cD_⟩

/-! ### spec_l1Weight: function 23 -/
def spec_l1Weight.f (a0 : Int) : Option (Bool) := (spec_l1In.f a0 (-1000000000000) 1000000000000).bind fun t265 => (some t265)
set_option maxHeartbeats 8000000 in
set_option maxRecDepth 100000 in
theorem spec_l1Weight.calls (a0 : Int) (r : Bool) (w : World) (h : spec_l1Weight.f a0 = some r) :
  Calls Tryd.prog 23 #[.int .i64 a0] w fun e w' => e = .returned (.bool r) ∧ Drawn0 w w' := by
 have H : ((spec_l1In.f a0 (-1000000000000) 1000000000000).bind fun t265 => (some t265)) = some r := h
 clear h
 obtain ⟨t265, A2, H⟩ := bnd_ H
 try dsimp only at H
 obtain rfl := Option.some.inj H
 go_enter Tryd.func23, Tryd.ntmps23
 go_wp2_with (first | (refine gl_ 41 (some 4) Tryd.func41 #[.int .i64 a0, .int .i64 (-1000000000000), .int .i64 1000000000000] ?_; (with_reducible refine (spec_l1In.calls a0 (-1000000000000) 1000000000000 t265 _ A2.out).mono ?_); rintro e w' ⟨rfl, ⟨nd, rfl⟩⟩; refine ⟨_, rfl, ?_⟩))
 go_ret
 exact ⟨cs_, cD_⟩

/-! ### spec_CompareRows: function 56 -/
mutual
def spec_CompareRows.l0 : Nat → List Int → List Int → Int → Option (Int)
 | 0, _, _, _ => none
 | k + 1, x0, x1, x5 => if x5 < (x0.length : Int) then (spec_CompareRows.j1 k x0 x1 x5 (decide (x5 < (x1.length : Int)))) else (spec_CompareRows.j1 k x0 x1 x5 false)
def spec_CompareRows.j1 : Nat → List Int → List Int → Int → Bool → Option (Int)
 | 0, _, _, _, _ => none
 | k + 1, x0, x1, x5, x15 => if x15 = true then (if 0 ≤ x5 then (if x5 < (x0.length : Int) then (if x5 < (x1.length : Int) then (if (rd x0 x5) < (rd x1 x5) then (some (-1)) else (if (rd x0 x5) > (rd x1 x5) then (some 1) else (spec_CompareRows.l0 k x0 x1 (wrap64 (x5 + 1))))) else (none)) else (none)) else (none)) else (if (x0.length : Int) < (x1.length : Int) then (some (-1)) else (if (x0.length : Int) > (x1.length : Int) then (some 1) else (some 0)))
end
def spec_CompareRows.f (k : Nat) (l0 : List Int) (l1 : List Int) : Option (Int) := spec_CompareRows.l0 k l0 l1 0
theorem spec_CompareRows.mono_l : ∀ k, (∀ y0 y1 y2, LeO (spec_CompareRows.l0 k y0 y1 y2) (spec_CompareRows.l0 (k + 1) y0 y1 y2)) ∧ (∀ y0 y1 y2 y3, LeO (spec_CompareRows.j1 k y0 y1 y2 y3) (spec_CompareRows.j1 (k + 1) y0 y1 y2 y3))
 | 0 => ⟨fun _ _ _ r h => by simp [spec_CompareRows.l0] at h, fun _ _ _ _ r h => by simp [spec_CompareRows.j1] at h⟩
 | k + 1 => by
  obtain ⟨ih0, ih1⟩ := spec_CompareRows.mono_l k
  refine ⟨?_, ?_⟩
  ·intro y0 y1 y2
   unfold spec_CompareRows.l0
   repeat' first
   | (with_reducible exact ih0 _ _ _)
   | (with_reducible exact ih1 _ _ _ _)
   | (with_reducible exact LeO.refl _)
   | (with_reducible exact LeO.none _)
   | (with_reducible refine LeO.ite ?_ ?_)
   | (with_reducible refine LeO.bind ?_ (fun _ => ?_))
   | exact ih0 _ _ _
   | exact ih1 _ _ _ _
   | exact LeO.none _
   | refine LeO.ite ?_ ?_
   | refine LeO.bind ?_ (fun _ => ?_)
  ·intro y0 y1 y2 y3
   unfold spec_CompareRows.j1
   repeat' first
   | (with_reducible exact ih0 _ _ _)
   | (with_reducible exact ih1 _ _ _ _)
   | (with_reducible exact LeO.refl _)
   | (with_reducible exact LeO.none _)
   | (with_reducible refine LeO.ite ?_ ?_)
   | (with_reducible refine LeO.bind ?_ (fun _ => ?_))
   | exact ih0 _ _ _
   | exact ih1 _ _ _ _
   | exact LeO.none _
   | refine LeO.ite ?_ ?_
   | refine LeO.bind ?_ (fun _ => ?_)
theorem spec_CompareRows.mono : ∀ a0 a1 k, LeO (spec_CompareRows.f k a0 a1) (spec_CompareRows.f (k + 1) a0 a1) := by
 intro a0 a1 k
 obtain ⟨ih0, ih1⟩ := spec_CompareRows.mono_l k
 unfold spec_CompareRows.f
 repeat' first
   | (with_reducible exact ih0 _ _ _)
   | (with_reducible exact ih1 _ _ _ _)
   | (with_reducible exact LeO.refl _)
   | (with_reducible exact LeO.none _)
   | (with_reducible refine LeO.ite ?_ ?_)
   | (with_reducible refine LeO.bind ?_ (fun _ => ?_))
   | exact ih0 _ _ _
   | exact ih1 _ _ _ _
   | exact LeO.none _
   | refine LeO.ite ?_ ?_
   | refine LeO.bind ?_ (fun _ => ?_)
set_option maxHeartbeats 8000000 in
set_option maxRecDepth 100000 in
theorem spec_CompareRows.calls (k : Nat) (A0 : Option Addr) (c0 : Nat) (l0 : List Int) (A1 : Option Addr) (c1 : Nat) (l1 : List Int) (r : Int) (w : World) (hr0 : Kd.C (Kd.int .i64) w A0 l0.length l0) (hc0 : l0.length ≤ c0) (hr1 : Kd.C (Kd.int .i64) w A1 l1.length l1) (hc1 : l1.length ≤ c1) (h : spec_CompareRows.f k l0 l1 = some r) :
  Calls Tryd.prog 56 #[.slice A0 l0.length c0, .slice A1 l1.length c1] w fun e w' => e = .returned (.int .i64 r) ∧ Drawn0 w w' := by
 have HR0 := Aside0.mk hr0
 have HC0 := Aside0.mk hc0
 clear hr0 hc0
 have HR1 := Aside0.mk hr1
 have HC1 := Aside0.mk hc1
 clear hr1 hc1
 have H : (spec_CompareRows.l0 k l0 l1 0) = some r := h
 clear h
 have H' := Aside0.mk H
 clear H
 go_enter Tryd.func56, Tryd.ntmps56
 go_wp2
 repeat (go_quiet (fail); try go_wp2)
 go_loopg [5] k (fun kq v5 w' => ∃ (x5_1 : Int), v5 = .int .i64 x5_1 ∧ Aside0 (spec_CompareRows.l0 kq l0 l1 x5_1 = some r) ∧ Aside0 (kq ≤ k) ∧ Drawn0 w w')
 case atStart => exact ⟨(0), cs_, H', ⟨Nat.le_refl _⟩, cD_⟩
 case round =>
  clear H'
  try clear c1
  try clear p2
  obtain ⟨x5_1, rfl, HA, HK1, ⟨m1, rfl⟩⟩ := hrel
  cases gk with
  | zero => exact absurd HA.out (by simp [spec_CompareRows.l0])
  | succ k1 =>
   have H := HA.out
   clear HA
   simp only [spec_CompareRows.l0] at H
   have HC3 := Aside0.mk H
   clear H
   go_upto_region 2 with (fail)
   repeat (go_quiet (fail); go_upto_region 2 with (fail))
   go_cut [15] (fun v15 wc => ∃ (kq : Nat) (x15_2 : Bool), v15 = .bool x15_2 ∧ Aside0 (spec_CompareRows.j1 kq l0 l1 x5_1 x15_2 = some r) ∧ Aside0 (kq ≤ k1) ∧ Drawn0 w wc)
   case first =>
    have H := HC3.out
    clear HC3
    by_cases c4 : x5_1 < (l0.length : Int)
    ·rw [if_pos c4] at H
     have c4b0 : decide (x5_1 < (l0.length : Int)) = true := decide_eq_true c4
     clear c4
     (first | rw [c4b0] | (simp only [i64_w, i32_w]; rw [c4b0]) | skip)
     have H' := Aside0.mk H
     clear H
     go_wp2
     repeat (go_quiet (fail); try go_wp2)
     go_meet
     case rel => exact ⟨_, (decide (x5_1 < (l1.length : Int))), cs_, H', ⟨by have := HK1.out; first | omega | exact Nat.le_refl _⟩, cD_⟩
    rw [if_neg c4] at H
    have c4b0 : decide (x5_1 < (l0.length : Int)) = false := decide_eq_false c4
    clear c4
    (first | rw [c4b0] | (simp only [i64_w, i32_w]; rw [c4b0]) | skip)
    have H' := Aside0.mk H
    clear H
    go_wp2
    repeat (go_quiet (fail); try go_wp2)
    go_meet
    case rel => exact ⟨_, (false), cs_, H', ⟨by have := HK1.out; first | omega | exact Nat.le_refl _⟩, cD_⟩
   case rest =>
    clear HC3
    try clear c1
    try clear p2
    try clear c4
    try clear c4b0
    try clear p2
    obtain ⟨kq, x15_2, rfl, HA, HJ2, ⟨mc2, rfl⟩⟩ := hcut
    cases kq with
    | zero => exact absurd HA.out (by simp [spec_CompareRows.j1])
    | succ kj2 =>
     have H := HA.out
     clear HA
     simp only [spec_CompareRows.j1] at H
     by_cases c5 : x15_2 = true
     rotate_left
     ·replace c5 := Bool.eq_false_iff.mpr c5
      subst c5
      rw [if_neg (show ¬ (false = true) by decide)] at H
      by_cases c11 : (l0.length : Int) < (l1.length : Int)
      ·rw [if_pos c11] at H
       have c11b0 : decide ((l0.length : Int) < (l1.length : Int)) = true := decide_eq_true c11
       have c11b1 : decide (l0.length < l1.length) = true := decide_eq_true (Int.ofNat_lt.mp c11)
       clear c11
       obtain rfl := Option.some.inj H
       go_wp2
       repeat (go_quiet (fail); try go_wp2)
       go_ret
       exact ⟨cs_, cD_⟩
      rw [if_neg c11] at H
      have c11b0 : decide ((l0.length : Int) < (l1.length : Int)) = false := decide_eq_false c11
      have c11b1 : decide (l0.length < l1.length) = false := decide_eq_false (fun h => c11 (Int.ofNat_lt.mpr h))
      clear c11
      by_cases c12 : (l0.length : Int) > (l1.length : Int)
      ·rw [if_pos c12] at H
       have c12b0 : decide ((l1.length : Int) < (l0.length : Int)) = true := decide_eq_true c12
       have c12b1 : decide (l1.length < l0.length) = true := decide_eq_true (Int.ofNat_lt.mp c12)
       clear c12
       obtain rfl := Option.some.inj H
       go_wp2
       repeat (go_quiet (fail); try go_wp2)
       go_ret
       exact ⟨cs_, cD_⟩
      rw [if_neg c12] at H
      have c12b0 : decide ((l1.length : Int) < (l0.length : Int)) = false := decide_eq_false c12
      have c12b1 : decide (l1.length < l0.length) = false := decide_eq_false (fun h => c12 (Int.ofNat_lt.mpr h))
      clear c12
      obtain rfl := Option.some.inj H
      go_wp2
      repeat (go_quiet (fail); try go_wp2)
      go_ret
      exact ⟨cs_, cD_⟩
     subst c5
     rw [if_pos rfl] at H
     by_cases c6 : 0 ≤ x5_1
     rotate_left
     ·rw [if_neg c6] at H
      exact absurd H (by simp)
     rw [if_pos c6] at H
     have c6b0 : decide (0 ≤ x5_1) = true := decide_eq_true c6
     clear c6
     by_cases c7 : x5_1 < (l0.length : Int)
     rotate_left
     ·rw [if_neg c7] at H
      exact absurd H (by simp)
     rw [if_pos c7] at H
     have c7b0 : decide (x5_1 < (l0.length : Int)) = true := decide_eq_true c7
     clear c7
     by_cases c8 : x5_1 < (l1.length : Int)
     rotate_left
     ·rw [if_neg c8] at H
      exact absurd H (by simp)
     rw [if_pos c8] at H
     have c8b0 : decide (x5_1 < (l1.length : Int)) = true := decide_eq_true c8
     clear c8
     by_cases c9 : (rd l0 x5_1) < (rd l1 x5_1)
     ·rw [if_pos c9] at H
      have c9b0 : decide ((rd l0 x5_1) < (rd l1 x5_1)) = true := decide_eq_true c9
      clear c9
      obtain rfl := Option.some.inj H
      have p266 : 0 ≤ (x5_1 : Int) := of_decide_eq_true ca_
      have q266 : x5_1 < (l0.length : Int) := of_decide_eq_true ca_
      obtain ⟨ad266, e266, hx266_0⟩ := Kd.at_int HR0.out x5_1 p266 q266
      cases e266
      replace p266 := eq_true p266
      replace q266 := eq_true q266
      have p267 : 0 ≤ (x5_1 : Int) := of_decide_eq_true ca_
      have q267 : x5_1 < (l1.length : Int) := of_decide_eq_true ca_
      obtain ⟨ad267, e267, hx267_0⟩ := Kd.at_int HR1.out x5_1 p267 q267
      cases e267
      replace p267 := eq_true p267
      replace q267 := eq_true q267
      go_wp2
      repeat (go_quiet (fail); try go_wp2)
      go_ret
      exact ⟨cs_, cD_⟩
     rw [if_neg c9] at H
     have c9b0 : decide ((rd l0 x5_1) < (rd l1 x5_1)) = false := decide_eq_false c9
     clear c9
     by_cases c10 : (rd l0 x5_1) > (rd l1 x5_1)
     ·rw [if_pos c10] at H
      have c10b0 : decide ((rd l1 x5_1) < (rd l0 x5_1)) = true := decide_eq_true c10
      clear c10
      obtain rfl := Option.some.inj H
      have p266 : 0 ≤ (x5_1 : Int) := of_decide_eq_true ca_
      have q266 : x5_1 < (l0.length : Int) := of_decide_eq_true ca_
      obtain ⟨ad266, e266, hx266_0⟩ := Kd.at_int HR0.out x5_1 p266 q266
      cases e266
      replace p266 := eq_true p266
      replace q266 := eq_true q266
      have p267 : 0 ≤ (x5_1 : Int) := of_decide_eq_true ca_
      have q267 : x5_1 < (l1.length : Int) := of_decide_eq_true ca_
      obtain ⟨ad267, e267, hx267_0⟩ := Kd.at_int HR1.out x5_1 p267 q267
      cases e267
      replace p267 := eq_true p267
      replace q267 := eq_true q267
      have p268 : 0 ≤ (x5_1 : Int) := of_decide_eq_true ca_
      have q268 : x5_1 < (l0.length : Int) := of_decide_eq_true ca_
      obtain ⟨ad268, e268, hx268_0⟩ := Kd.at_int HR0.out x5_1 p268 q268
      obtain rfl : ad266 = ad268 := (by injection e268)
      replace p268 := eq_true p268
      replace q268 := eq_true q268
      have p269 : 0 ≤ (x5_1 : Int) := of_decide_eq_true ca_
      have q269 : x5_1 < (l1.length : Int) := of_decide_eq_true ca_
      obtain ⟨ad269, e269, hx269_0⟩ := Kd.at_int HR1.out x5_1 p269 q269
      obtain rfl : ad267 = ad269 := (by injection e269)
      replace p269 := eq_true p269
      replace q269 := eq_true q269
      go_wp2
      repeat (go_quiet (fail); try go_wp2)
      go_ret
      exact ⟨cs_, cD_⟩
     rw [if_neg c10] at H
     have c10b0 : decide ((rd l1 x5_1) < (rd l0 x5_1)) = false := decide_eq_false c10
     clear c10
     have H' := Aside0.mk H
     clear H
     have p266 : 0 ≤ (x5_1 : Int) := of_decide_eq_true ca_
     have q266 : x5_1 < (l0.length : Int) := of_decide_eq_true ca_
     obtain ⟨ad266, e266, hx266_0⟩ := Kd.at_int HR0.out x5_1 p266 q266
     cases e266
     replace p266 := eq_true p266
     replace q266 := eq_true q266
     have p267 : 0 ≤ (x5_1 : Int) := of_decide_eq_true ca_
     have q267 : x5_1 < (l1.length : Int) := of_decide_eq_true ca_
     obtain ⟨ad267, e267, hx267_0⟩ := Kd.at_int HR1.out x5_1 p267 q267
     cases e267
     replace p267 := eq_true p267
     replace q267 := eq_true q267
     have p268 : 0 ≤ (x5_1 : Int) := of_decide_eq_true ca_
     have q268 : x5_1 < (l0.length : Int) := of_decide_eq_true ca_
     obtain ⟨ad268, e268, hx268_0⟩ := Kd.at_int HR0.out x5_1 p268 q268
     obtain rfl : ad266 = ad268 := (by injection e268)
     replace p268 := eq_true p268
     replace q268 := eq_true q268
     have p269 : 0 ≤ (x5_1 : Int) := of_decide_eq_true ca_
     have q269 : x5_1 < (l1.length : Int) := of_decide_eq_true ca_
     obtain ⟨ad269, e269, hx269_0⟩ := Kd.at_int HR1.out x5_1 p269 q269
     obtain rfl : ad267 = ad269 := (by injection e269)
     replace p269 := eq_true p269
     replace q269 := eq_true q269
     go_wp2
     repeat (go_quiet (fail); try go_wp2)
     go_roundg kj2
     case measure => have := HK1.out; have := HJ2.out; omega
     case rel => exact ⟨(wrap64 (x5_1 + 1)), cs_, H', ⟨by have := HK1.out; have := HJ2.out; omega⟩, cD_⟩

/-! ### spec_l2Row: function 57 -/
def spec_l2Row.f (l0 : List Int) : Option (List Int) := (some (([] : List Int) : List Int)).bind fun y270 => (if y270.length + l0.length < 17592186044416 then (some (y270 ++ l0)) else (none))
set_option maxHeartbeats 8000000 in
set_option maxRecDepth 100000 in
theorem spec_l2Row.calls (A0 : Option Addr) (c0 : Nat) (l0 : List Int) (r : List Int) (w : World) (hr0 : Kd.C (Kd.int .i64) w A0 l0.length l0) (hc0 : l0.length ≤ c0) (h : spec_l2Row.f l0 = some r) :
  Calls Tryd.prog 57 #[.slice A0 l0.length c0] w fun e w' => ∃ v0_ : Value, e = .returned (v0_) ∧ Kd.R (Kd.int .i64) 2 w' w.heap.size (fun _ => True) v0_ r ∧ Below w.heap.size w w' := by
 have HR0 := Aside0.mk hr0
 have HC0 := Aside0.mk hc0
 clear hr0 hc0
 have HB := Aside0.mk (Below.refl w.heap.size w)
 have H : ((some (([] : List Int) : List Int)).bind fun y270 => (if y270.length + l0.length < 17592186044416 then (some (y270 ++ l0)) else (none))) = some r := h
 clear h
 obtain ⟨y270, hy_⟩ : ∃ y_ : List Int, y_ = (([] : List Int)) := ⟨_, rfl⟩
 replace H : (if y270.length + l0.length < 17592186044416 then (some (y270 ++ l0)) else (none)) = some r := yb_
 have Ny270 := Aside0.mk hy_
 clear hy_
 by_cases c2 : y270.length + l0.length < 17592186044416
 ·rw [if_pos c2] at H
  have LMc2 := Aside0.mk c2
  clear c2
  obtain ⟨y273, hy_⟩ : ∃ y_ : List Int, y_ = (y270 ++ l0) := ⟨_, rfl⟩
  replace H : (some y273) = some r := yb_
  have Ny273 := Aside0.mk hy_
  clear hy_
  obtain rfl := Option.some.inj H
  go_enter Tryd.func57, Tryd.ntmps57
  go_wp2_with (first | ((with_reducible refine gate_dst (N := 3) rfl ?_); refine Kd.R_lit (Kd.int .i64) _ 2 ?hg (N := 3) ?hd (xs := ([] : List Int)) (inner := []) (ok := fun _ => True) (okp := fun _ => True) ?hr ?hp (fun _ hk => hk) trivial (Below.refl _ _) (Nat.le_refl _) (by simp) ?_; (case hd => rfl); (case hg => rfl); (case hr => first | (go_simp; done) | (go_simp; rfl)); (case hp => exact (Reps.none _ _)); intro v271 w3 ho4 hb hg_ hnew_; clear hg_ hnew_; (first | rw [← Ny270.out] at ho4 | (simp only [Int.reduceToNat] at ho4; rw [← Ny270.out] at ho4)); have HO272 := Aside0.mk (Kd.R_lower ho4 (below_size cB0_)); replace HB := Aside0.mk (below_step cB0_ hb); clear hb ho4) | ((with_reducible refine gate_builtin (b := .append) (xs := #[.tmp 3, .tmp 4]) rfl ?_); at_builtin; refine Kd.R_append_rows (Kd.int .i64) (w0 := w) w.heap.size rfl (.tmp 3) (.tmp 4) 29 2 (.int .i64 0) 8 rfl Tryd.underlying29 info2 rfl (by decide) (by omega) v271 y270 l0 _ _ _ (fun _ => True) (fun _ => False) rfl rfl ?aO ?aR (fun _ _ h => h) (fun _ h => h.elim) ?aF ?aB ?aS ?aL ?_; (case aR => exact cC_ (Kd.C_below HR0.out HB.out)); (case aB => exact cB0_); (case aF => exact (fun _ _ => trivial)); (case aO => exact (by exact cR_ HO272.out)); (case aS => exact (by exact (below_size cB0_))); (case aL => exact co_ LMc2.out); intro v274 w5 ho hb hg hat; rw [← Ny273.out] at ho; replace HB := Aside0.mk (hb); have HO275 := Aside0.mk (ho); clear HO272; clear ho hb hg hat))
  go_ret
  exact ⟨_, ce_, cR_ HO275.out, cB0_⟩
 rw [if_neg c2] at H
 exact absurd H (by simp)

end Go.Proofs.YthgmicingbjemaaDoor.PFnSums
