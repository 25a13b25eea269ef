-- Written by fprint, a program of this session, out of Lean's own print of the translation. Lean checks it.
import Derived.Test.YthgmicingbjemaaShort
import Derived.Test.YthgmicingbjemaaPFnExactJoinSetsx0
import Derived.Test.YthgmicingbjemaaPFnExactJoinSetsx9
import Derived.Test.YthgmicingbjemaaPFnExactJoinSetsx11
namespace Go.Proofs.Ythgmicingbjemaa.PFnExactJoinSets
open Go.RowKit Go.Proofs.YthgmicingbjemaaW.PrintWords Go.Proofs.YthgmicingbjemaaW.PrintLast Go.Proofs.YthgmicingbjemaaW.PrintMore
attribute [local go_sem] max2_int min2_int max_two min_two max_three min_three max_four min_four   -- for this text's walks alone
set_option linter.unusedVariables false
set_option linter.unusedSimpArgs false

theorem b12_0 {p : Prop} (h : p := by repeat (first | (with_reducible first | exact HB.out | apply below_alloc | apply pw_below_drewN | apply below_drew1) | exact HB.out)) : p := h
theorem b12_1 {p : Prop} (h : p := by (try simp only [List.map_toArray, List.map_cons, List.map_nil]); first | done | rfl | (simp only [List.length_drop, List.length_take]; rfl)) : p := h
theorem b12_2 {p : Prop} (h : p := by first | (with_reducible assumption) | assumption) : p := h
theorem b12_3 {p : Prop} (h : p := by repeat (first | (with_reducible first | exact HB.out | apply below_alloc | apply pw_below_drewN | apply below_drew1 | refine below_set ?_ GE248.out) | exact HB.out)) : p := h
theorem q12_0 {p : Prop} (h : p := by repeat (first | (with_reducible first | exact HB.out | apply below_alloc | apply pw_below_drewN | apply below_drew1) | exact HB.out)) : p := h
theorem q12_1 {p : Prop} (h : p := by first | rfl | (simp [errW_none, errW_some] <;> rfl) | (simp [*, errW_none, errW_some] <;> rfl)) : p := h
/-! ### impl_SetFault: function 26 -/
mutual
def impl_SetFault.l0 : Nat → List (S42) → List (S42) → Int → Int → Option (Int)
 | 0, _, _, _, _ => none
 | k + 1, x0, x9, x10, x11 => if x11 < x10 then (if 0 ≤ x11 then (if x11 < (x9.length : Int) then ((impl_RowFault.f k ((rd_T42 x9 x11).f0)).bind fun t249 => (if t249 = 0 then ((impl_isWeight.f ((rd_T42 x9 x11).f1)).bind fun t250 => (if t250 = true then (impl_SetFault.j1 k x0 x11 x9 x10 x11 (((rd_T42 x9 x11).f1) == 0) ((rd_T42 x9 x11).f0) ((rd_T42 x9 x11).f1)) else (impl_SetFault.j1 k x0 x11 x9 x10 x11 true ((rd_T42 x9 x11).f0) ((rd_T42 x9 x11).f1)))) else (some t249))) else (none)) else (none)) else (some 0)
def impl_SetFault.j1 : Nat → List (S42) → Int → List (S42) → Int → Int → Bool → List Int → Int → Option (Int)
 | 0, _, _, _, _, _, _, _, _ => none
 | k + 1, x0, x3, x9, x10, x11, x30, x249000, x249001 => if x30 = true then (some 3) else (if x3 > 0 then (if 0 ≤ (wrap64 (x3 - 1)) then (if (wrap64 (x3 - 1)) < (x0.length : Int) then ((impl_CompareRows.f k ((rd_T42 x0 (wrap64 (x3 - 1))).f0) x249000).bind fun t252 => (if t252 ≥ 0 then (some 1) else (impl_SetFault.l0 k x0 x9 x10 (wrap64 (x11 + 1))))) else (none)) else (none)) else (impl_SetFault.l0 k x0 x9 x10 (wrap64 (x11 + 1))))
end
def impl_SetFault.f (k : Nat) (l0 : List (S42)) : Option (Int) := if (l0.length : Int) > 200 then (some 2) else (impl_SetFault.l0 k l0 l0 (l0.length : Int) 0)
theorem impl_SetFault.mono_l : ∀ k, (∀ y0 y1 y2 y3, LeO (impl_SetFault.l0 k y0 y1 y2 y3) (impl_SetFault.l0 (k + 1) y0 y1 y2 y3)) ∧ (∀ y0 y1 y2 y3 y4 y5 y6 y7, LeO (impl_SetFault.j1 k y0 y1 y2 y3 y4 y5 y6 y7) (impl_SetFault.j1 (k + 1) y0 y1 y2 y3 y4 y5 y6 y7))
 | 0 => ⟨fun _ _ _ _ r h => by simp [impl_SetFault.l0] at h, fun _ _ _ _ _ _ _ _ r h => by simp [impl_SetFault.j1] at h⟩
 | k + 1 => by
  obtain ⟨ih0, ih1⟩ := impl_SetFault.mono_l k
  refine ⟨?_, ?_⟩
  ·intro y0 y1 y2 y3
   unfold impl_SetFault.l0
   repeat' first
   | (with_reducible exact ih0 _ _ _ _)
   | (with_reducible exact ih1 _ _ _ _ _ _ _ _)
   | (with_reducible exact impl_CompareRows.mono _ _ _)
   | (with_reducible exact impl_RowFault.mono _ _)
   | (with_reducible exact LeO.refl _)
   | (with_reducible exact LeO.none _)
   | (with_reducible refine LeO.ite ?_ ?_)
   | (with_reducible refine LeO.bind ?_ (fun _ => ?_))
   | exact ih0 _ _ _ _
   | exact ih1 _ _ _ _ _ _ _ _
   | exact impl_CompareRows.mono _ _ _
   | exact impl_RowFault.mono _ _
   | exact LeO.none _
   | refine LeO.ite ?_ ?_
   | refine LeO.bind ?_ (fun _ => ?_)
  ·intro y0 y1 y2 y3 y4 y5 y6 y7
   unfold impl_SetFault.j1
   repeat' first
   | (with_reducible exact ih0 _ _ _ _)
   | (with_reducible exact ih1 _ _ _ _ _ _ _ _)
   | (with_reducible exact impl_CompareRows.mono _ _ _)
   | (with_reducible exact impl_RowFault.mono _ _)
   | (with_reducible exact LeO.refl _)
   | (with_reducible exact LeO.none _)
   | (with_reducible refine LeO.ite ?_ ?_)
   | (with_reducible refine LeO.bind ?_ (fun _ => ?_))
   | exact ih0 _ _ _ _
   | exact ih1 _ _ _ _ _ _ _ _
   | exact impl_CompareRows.mono _ _ _
   | exact impl_RowFault.mono _ _
   | exact LeO.none _
   | refine LeO.ite ?_ ?_
   | refine LeO.bind ?_ (fun _ => ?_)
theorem impl_SetFault.mono : ∀ a0 k, LeO (impl_SetFault.f k a0) (impl_SetFault.f (k + 1) a0) := by
 intro a0 k
 obtain ⟨ih0, ih1⟩ := impl_SetFault.mono_l k
 unfold impl_SetFault.f
 repeat' first
   | (with_reducible exact ih0 _ _ _ _)
   | (with_reducible exact ih1 _ _ _ _ _ _ _ _)
   | (with_reducible exact impl_CompareRows.mono _ _ _)
   | (with_reducible exact impl_RowFault.mono _ _)
   | (with_reducible exact LeO.refl _)
   | (with_reducible exact LeO.none _)
   | (with_reducible refine LeO.ite ?_ ?_)
   | (with_reducible refine LeO.bind ?_ (fun _ => ?_))
   | exact ih0 _ _ _ _
   | exact ih1 _ _ _ _ _ _ _ _
   | exact impl_CompareRows.mono _ _ _
   | exact impl_RowFault.mono _ _
   | exact LeO.none _
   | refine LeO.ite ?_ ?_
   | refine LeO.bind ?_ (fun _ => ?_)
def impl_SetFault.T11 : Bool × List (List Nat × List Nat) := (true, [([], []), ([0], [0]), ([1], [1]), ([2], [2]), ([2], [2]), ([4, 2], [2, 4]), ([3, 5, 2], [2, 3, 5]), ([6, 2], [2, 6]), ([7, 2], [2, 7]), ([2], [2]), ([9, 2], [2, 9]), ([8, 10, 2, 2], [2, 8, 10]), ([11, 2], [2, 11]), ([2, 12], [2, 12])])
def impl_SetFault.B11 : List Nat := [0, 1, 3, 7, 7, 23, 63, 127, 255, 7, 519, 2047, 4095, 8191]
theorem impl_SetFault.tab11 : rtab .any (opsOf Try.f26 11) = impl_SetFault.T11 := by kernel_rfl
theorem impl_SetFault.bits11 : waitsOk impl_SetFault.T11.2 impl_SetFault.B11 = true := by kernel_rfl
set_option maxHeartbeats 8000000 in
set_option maxRecDepth 100000 in
theorem impl_SetFault.calls (k : Nat) (A0 : Option Addr) (c0 : Nat) (l0 : List (S42)) (r : Int) (w : World) (hr0 : Kd.C k42 w A0 l0.length l0) (hc0 : l0.length ≤ c0) (h : impl_SetFault.f k l0 = some r) :
  Calls Try.prog 26 #[.slice A0 l0.length c0] w fun e w' => e = .returned (.int .i64 r) ∧ Below w.heap.size w w' := by
 have hu42 := Try.underlying42
 have HR0 := Aside0.mk hr0
 have HC0 := Aside0.mk hc0
 clear hr0 hc0
 have HB := Aside0.mk (Below.refl w.heap.size w)
 have H : (if (l0.length : Int) > 200 then (some 2) else (impl_SetFault.l0 k l0 l0 (l0.length : Int) 0)) = some r := h
 clear h
 by_cases c2 : (l0.length : Int) > 200
 ·rw [if_pos c2] at H
  have c2b0 : decide (200 < (l0.length : Int)) = true := decide_eq_true c2
  have c2b1 : decide (200 < l0.length) = true := decide_eq_true (by omega)
  clear c2
  obtain rfl := Option.some.inj H
  go_enter Try.func26, Try.ntmps26
  go_wp2
  go_ret
  exact ⟨q12_1, q12_0⟩
 rw [if_neg c2] at H
 have c2b0 : decide (200 < (l0.length : Int)) = false := decide_eq_false c2
 have c2b1 : decide (200 < l0.length) = false := decide_eq_false (by omega)
 clear c2
 have H' := Aside0.mk H
 clear H
 go_enter Try.func26, Try.ntmps26
 go_wp2
 go_loopg [11] k (fun kq v11 w' => ∃ (x11_1 : Int), v11 = .int .i64 x11_1 ∧ Aside0 (impl_SetFault.l0 kq l0 l0 (l0.length : Int) x11_1 = some r) ∧ Aside0 (kq ≤ k) ∧ Aside0 (Below w.heap.size w w'))
 case atStart => exact ⟨(0), (by first | rfl | (simp; done) | (simp [*]; done)), H', ⟨Nat.le_refl _⟩, ⟨q12_0⟩⟩
 case round =>
  clear H'
  try clear c2
  try clear c2b0
  try clear c2b1
  try clear p2
  obtain ⟨x11_1, rfl, HA, HK1, HB⟩ := hrel
  cases gk with
  | zero => exact absurd HA.out (by simp [impl_SetFault.l0])
  | succ k1 =>
   have H := HA.out
   clear HA
   simp only [impl_SetFault.l0] at H
   by_cases c3 : x11_1 < (l0.length : Int)
   rotate_left
   ·rw [if_neg c3] at H
    have c3b0 : decide (x11_1 < (l0.length : Int)) = false := decide_eq_false c3
    clear c3
    obtain rfl := Option.some.inj H
    go_wp2
    go_ret
    exact ⟨q12_1, q12_0⟩
   rw [if_pos c3] at H
   have c3b0 : decide (x11_1 < (l0.length : Int)) = true := decide_eq_true c3
   clear c3
   by_cases c4 : 0 ≤ x11_1
   rotate_left
   ·rw [if_neg c4] at H
    exact absurd H (by simp)
   rw [if_pos c4] at H
   have c4b0 : decide (0 ≤ x11_1) = true := decide_eq_true c4
   clear c4
   by_cases c5 : x11_1 < (l0.length : Int)
   rotate_left
   ·rw [if_neg c5] at H
    exact absurd H (by simp)
   rw [if_pos c5] at H
   have c5b0 : decide (x11_1 < (l0.length : Int)) = true := decide_eq_true c5
   clear c5
   replace H := Option.bind_eq_some_iff.mp H
   obtain ⟨t249, A60, H⟩ := H
   replace H : (if t249 = 0 then ((impl_isWeight.f ((rd_T42 l0 x11_1).f1)).bind fun t250 => (if t250 = true then (impl_SetFault.j1 k1 l0 x11_1 l0 (l0.length : Int) x11_1 (((rd_T42 l0 x11_1).f1) == 0) ((rd_T42 l0 x11_1).f0) ((rd_T42 l0 x11_1).f1)) else (impl_SetFault.j1 k1 l0 x11_1 l0 (l0.length : Int) x11_1 true ((rd_T42 l0 x11_1).f0) ((rd_T42 l0 x11_1).f1)))) else (some t249)) = some r := H
   have A6 := Aside0.mk A60
   clear A60
   by_cases c7 : t249 = 0
   rotate_left
   ·rw [if_neg c7] at H
    have c7b0 : (t249 == 0) = false := beq_eq_false_iff_ne.mpr c7
    have c7b1 : (t249 != 0) = true := bne_iff_ne.mpr c7
    obtain rfl := Option.some.inj H
    have p247 : 0 ≤ (x11_1 : Int) := of_decide_eq_true b12_2
    have q247 : x11_1 < (l0.length : Int) := of_decide_eq_true b12_2
    obtain ⟨ad247, A247_0, c247_0, e247, hx247_0, hx247_1, hl247_0, hi247_0⟩ := at_T42 HR0.out x11_1 p247 q247
    cases e247
    replace hx247_0 := (HB.out.cell (World.block_lt_of_cell? w _ hx247_0)).trans hx247_0
    replace hx247_1 := (HB.out.cell (World.block_lt_of_cell? w _ hx247_1)).trans hx247_1
    have HR247_0 := Aside0.mk hi247_0
    have HC247_0 := Aside0.mk hl247_0
    clear hi247_0 hl247_0
    replace p247 := eq_true p247
    replace q247 := eq_true q247
    go_wp2_with (first | ((with_reducible refine gate_dst (N := 4) rfl ?_); refine box_event ?hg (N := 4) ?hd (cs := #[.slice none 0 0, .int .i64 0]) (t := 42) ?hr ?_; (case hd => rfl); (case hg => rfl); (case hr => first | (go_simp; done) | (go_simp; rfl)); intro gb248 hg w27 hbox hb; have n0_ := Aside0.mk (below_step b12_0 hb); have n1_ := Aside0.mk (hbox); have n2_ := Aside0.mk ((by rw [hg]; exact (below_size b12_0) : w.heap.size ≤ gb248)); have n3_ := Aside0.mk ((by rw [hg]; exact (below_size b12_0) : w.heap.size ≤ gb248)); clear HB; have HB := n0_; have BK248 := n1_; have GW248 := n2_; have GE248 := n3_; clear n0_ n1_ n2_ n3_; clear hb hbox hg; obtain ⟨hcz28_0, hcz28_1, hfz28_0, hfz28_1⟩ := cells2 BK248.out) | ((with_reducible refine gate_callee (f := 48) rfl ?_); refine goesL_ (some 18) rfl rfl Try.func48 (by kernel_rfl) rfl #[.slice A247_0 ((rd_T42 l0 x11_1).f0).length c247_0] rfl b12_1 ?_; (with_reducible refine (impl_RowFault.calls k1 _ _ ((rd_T42 l0 x11_1).f0) t249 _ ?side1 ?side2 A6.out).mono ?_); (case side1 => exact (by exact Kd.C_below HR247_0.out b12_3)); (case side2 => exact HC247_0.out); rintro e w' ⟨rfl, ⟨nd, rfl⟩⟩; refine ⟨_, rfl, ?_⟩))
    go_ret
    exact ⟨q12_1, by repeat (first | (with_reducible first | exact HB.out | apply below_alloc | apply pw_below_drewN | apply below_drew1 | refine below_set ?_ GE248.out) | exact HB.out)⟩
   rw [if_pos c7] at H
   have c7b0 : (t249 == 0) = true := beq_iff_eq.mpr c7
   have c7b1 : (t249 != 0) = false := bne_eq_false_iff_eq.mpr c7
   clear c7
   have HC8 := Aside0.mk H
   clear H
   have p247 : 0 ≤ (x11_1 : Int) := of_decide_eq_true b12_2
   have q247 : x11_1 < (l0.length : Int) := of_decide_eq_true b12_2
   obtain ⟨ad247, A247_0, c247_0, e247, hx247_0, hx247_1, hl247_0, hi247_0⟩ := at_T42 HR0.out x11_1 p247 q247
   cases e247
   replace hx247_0 := (HB.out.cell (World.block_lt_of_cell? w _ hx247_0)).trans hx247_0
   replace hx247_1 := (HB.out.cell (World.block_lt_of_cell? w _ hx247_1)).trans hx247_1
   have HR247_0 := Aside0.mk hi247_0
   have HC247_0 := Aside0.mk hl247_0
   clear hi247_0 hl247_0
   replace p247 := eq_true p247
   replace q247 := eq_true q247
   go_upto_region 9 with (first | ((with_reducible refine gate_dst (N := 4) rfl ?_); refine box_event ?hg (N := 4) ?hd (cs := #[.slice none 0 0, .int .i64 0]) (t := 42) ?hr ?_; (case hd => rfl); (case hg => rfl); (case hr => first | (go_simp; done) | (go_simp; rfl)); intro gb248 hg w9 hbox hb; have n0_ := Aside0.mk (below_step b12_0 hb); have n1_ := Aside0.mk (hbox); have n2_ := Aside0.mk ((by rw [hg]; exact (below_size b12_0) : w.heap.size ≤ gb248)); have n3_ := Aside0.mk ((by rw [hg]; exact (below_size b12_0) : w.heap.size ≤ gb248)); clear HB; have HB := n0_; have BK248 := n1_; have GW248 := n2_; have GE248 := n3_; clear n0_ n1_ n2_ n3_; clear hb hbox hg; obtain ⟨hcz10_0, hcz10_1, hfz10_0, hfz10_1⟩ := cells2 BK248.out) | ((with_reducible refine gate_callee (f := 48) rfl ?_); refine goesL_ (some 18) rfl rfl Try.func48 (by kernel_rfl) rfl #[.slice A247_0 ((rd_T42 l0 x11_1).f0).length c247_0] rfl b12_1 ?_; (with_reducible refine (impl_RowFault.calls k1 _ _ ((rd_T42 l0 x11_1).f0) t249 _ ?side1 ?side2 A6.out).mono ?_); (case side1 => exact (by exact Kd.C_below HR247_0.out b12_3)); (case side2 => exact HC247_0.out); rintro e w' ⟨rfl, ⟨nd, rfl⟩⟩; refine ⟨_, rfl, ?_⟩))
   (try simp only [Act.put, List.setIfInBounds_toArray, List.set_cons_zero, List.set_cons_succ])
   go_cut [30] (fun v30 wc => ∃ (kq : Nat) (x30_7 : Bool), v30 = .bool x30_7 ∧ Aside0 (impl_SetFault.j1 kq l0 x11_1 l0 (l0.length : Int) x11_1 x30_7 ((rd_T42 l0 x11_1).f0) ((rd_T42 l0 x11_1).f1) = some r) ∧ Aside0 (kq ≤ k1) ∧ Aside0 (wc.heap[gb248]? = some (.cells #[(.slice A247_0 ((rd_T42 l0 x11_1).f0).length c247_0), .int .i64 ((rd_T42 l0 x11_1).f1)] 42 (0, 0))) ∧ Aside0 (Below w.heap.size w wc))
   case first =>
    have H := HC8.out
    clear HC8
    replace H := Option.bind_eq_some_iff.mp H
    obtain ⟨t250, A110, H⟩ := H
    replace H : (if t250 = true then (impl_SetFault.j1 k1 l0 x11_1 l0 (l0.length : Int) x11_1 (((rd_T42 l0 x11_1).f1) == 0) ((rd_T42 l0 x11_1).f0) ((rd_T42 l0 x11_1).f1)) else (impl_SetFault.j1 k1 l0 x11_1 l0 (l0.length : Int) x11_1 true ((rd_T42 l0 x11_1).f0) ((rd_T42 l0 x11_1).f1))) = some r := H
    have A11 := Aside0.mk A110
    clear A110
    by_cases c12 : t250 = true
    ·subst c12
     have H1 : (impl_SetFault.j1 k1 l0 x11_1 l0 (l0.length : Int) x11_1 (((rd_T42 l0 x11_1).f1) == 0) ((rd_T42 l0 x11_1).f0) ((rd_T42 l0 x11_1).f1)) = some r := by rw [if_pos rfl] at H; exact H
     clear H
     have H := H1
     clear H1
     have H' := Aside0.mk H
     clear H
     obtain ⟨hcz13_0, hcz13_1, hfz13_0, hfz13_1⟩ := cells2 BK248.out
     go_wp2_with (first | ((with_reducible refine gate_callee (f := 49) rfl ?_); refine goesL_ (some 24) rfl rfl Try.func49 (by kernel_rfl) rfl #[.int .i64 ((rd_T42 l0 x11_1).f1)] rfl b12_1 ?_; (with_reducible refine (impl_isWeight.calls ((rd_T42 l0 x11_1).f1) true _ A11.out).mono ?_); rintro e w' ⟨rfl, ⟨nd, rfl⟩⟩; refine ⟨_, rfl, ?_⟩))
     go_meet
     case rel => exact ⟨_, ((((rd_T42 l0 x11_1).f1) == 0)), (by first | rfl | (simp; done) | (simp [*]; done)), H', ⟨by have := HK1.out; first | omega | exact Nat.le_refl _⟩, ⟨by (with_reducible repeat (first | refine blk_drewN ?_ _ | refine blk_drew ?_ | refine blk_alloc ?_ _)); refine blk_put (cs := #[.slice A247_0 ((rd_T42 l0 x11_1).f0).length c247_0, .int .i64 0]) ?_ 1 _ rfl; (with_reducible repeat (first | refine blk_drewN ?_ _ | refine blk_drew ?_ | refine blk_alloc ?_ _)); refine blk_put (cs := #[.slice none 0 0, .int .i64 0]) ?_ 0 _ rfl; (with_reducible repeat (first | refine blk_drewN ?_ _ | refine blk_drew ?_ | refine blk_alloc ?_ _)); exact BK248.out⟩, ⟨by repeat (first | (with_reducible first | exact HB.out | apply below_alloc | apply pw_below_drewN | apply below_drew1 | refine below_set ?_ GE248.out) | exact HB.out)⟩⟩
    replace c12 := Bool.eq_false_iff.mpr c12
    subst c12
    have H1 : (impl_SetFault.j1 k1 l0 x11_1 l0 (l0.length : Int) x11_1 true ((rd_T42 l0 x11_1).f0) ((rd_T42 l0 x11_1).f1)) = some r := by rw [if_neg (show ¬ (false = true) by decide)] at H; exact H
    clear H
    have H := H1
    clear H1
    have H' := Aside0.mk H
    clear H
    obtain ⟨hcz14_0, hcz14_1, hfz14_0, hfz14_1⟩ := cells2 BK248.out
    go_wp2_with (first | ((with_reducible refine gate_callee (f := 49) rfl ?_); refine goesL_ (some 24) rfl rfl Try.func49 (by kernel_rfl) rfl #[.int .i64 ((rd_T42 l0 x11_1).f1)] rfl b12_1 ?_; (with_reducible refine (impl_isWeight.calls ((rd_T42 l0 x11_1).f1) false _ A11.out).mono ?_); rintro e w' ⟨rfl, ⟨nd, rfl⟩⟩; refine ⟨_, rfl, ?_⟩))
    go_meet
    case rel => exact ⟨_, (true), (by first | rfl | (simp; done) | (simp [*]; done)), H', ⟨by have := HK1.out; first | omega | exact Nat.le_refl _⟩, ⟨by (with_reducible repeat (first | refine blk_drewN ?_ _ | refine blk_drew ?_ | refine blk_alloc ?_ _)); refine blk_put (cs := #[.slice A247_0 ((rd_T42 l0 x11_1).f0).length c247_0, .int .i64 0]) ?_ 1 _ rfl; (with_reducible repeat (first | refine blk_drewN ?_ _ | refine blk_drew ?_ | refine blk_alloc ?_ _)); refine blk_put (cs := #[.slice none 0 0, .int .i64 0]) ?_ 0 _ rfl; (with_reducible repeat (first | refine blk_drewN ?_ _ | refine blk_drew ?_ | refine blk_alloc ?_ _)); exact BK248.out⟩, ⟨by repeat (first | (with_reducible first | exact HB.out | apply below_alloc | apply pw_below_drewN | apply below_drew1 | refine below_set ?_ GE248.out) | exact HB.out)⟩⟩
   case rest =>
    clear HC8
    try clear c1
    try clear c2
    try clear c2b0
    try clear c2b1
    try clear p2
    try clear q2
    try clear hx2
    try clear c3
    try clear c3b0
    try clear c4
    try clear c4b0
    try clear c5
    try clear c5b0
    try clear c7
    try clear c7b0
    try clear c7b1
    try clear c12
    try clear hcz10_0
    try clear hcz10_1
    try clear hcz13_0
    try clear hcz13_1
    try clear hcz14_0
    try clear hcz14_1
    try clear hfz10_0
    try clear hfz10_1
    try clear hfz13_0
    try clear hfz13_1
    try clear hfz14_0
    try clear hfz14_1
    try clear hx247_0
    try clear hx247_1
    try clear p2
    try clear p247
    try clear q247
    obtain ⟨kq, x30_7, rfl, HA, HJ7, BK248, HB⟩ := hcut
    cases kq with
    | zero => exact absurd HA.out (by simp [impl_SetFault.j1])
    | succ kj7 =>
     have H := HA.out
     clear HA
     simp only [impl_SetFault.j1] at H
     by_cases c15 : x30_7 = true
     ·subst c15
      have H1 : (some 3) = some r := by rw [if_pos rfl] at H; exact H
      clear H
      have H := H1
      clear H1
      obtain rfl := Option.some.inj H
      go_wp2
      go_ret
      exact ⟨q12_1, by repeat (first | (with_reducible first | exact HB.out | apply below_alloc | apply pw_below_drewN | apply below_drew1 | refine below_set ?_ GE248.out) | exact HB.out)⟩
     replace c15 := Bool.eq_false_iff.mpr c15
     subst c15
     have H1 : (if x11_1 > 0 then (if 0 ≤ (wrap64 (x11_1 - 1)) then (if (wrap64 (x11_1 - 1)) < (l0.length : Int) then ((impl_CompareRows.f kj7 ((rd_T42 l0 (wrap64 (x11_1 - 1))).f0) ((rd_T42 l0 x11_1).f0)).bind fun t252 => (if t252 ≥ 0 then (some 1) else (impl_SetFault.l0 kj7 l0 l0 (l0.length : Int) (wrap64 (x11_1 + 1))))) else (none)) else (none)) else (impl_SetFault.l0 kj7 l0 l0 (l0.length : Int) (wrap64 (x11_1 + 1)))) = some r := by rw [if_neg (show ¬ (false = true) by decide)] at H; exact H
     clear H
     have H := H1
     clear H1
     by_cases c16 : x11_1 > 0
     rotate_left
     ·rw [if_neg c16] at H
      have c16b0 : decide (0 < x11_1) = false := decide_eq_false c16
      clear c16
      have H' := Aside0.mk H
      clear H
      try go_wp2
      have n0_ := Aside0.mk (blk_drew BK248.out)
      have n1_ := Aside0.mk (below_drew1 HB.out)
      clear BK248
      clear HB
      have BK248 := n0_
      have HB := n1_
      clear n0_ n1_
      refine start_ (n := 14) (S := fun w' => True) (ds := []) (bl 14 0) (by kernel_rfl) rfl rfl trivial (fun hHeld => ?_); refine with_tabW impl_SetFault.tab11 impl_SetFault.bits11 (fun HT_ HW_ => ?_)
      generalize wc.drew = w26 at BK248 HB hHeld ⊢
      refine pu_ 0 (some 31) (bl 14 1) HT_.out rfl ?_
      refine pu_ 1 (some 32) (bl 14 3) HT_.out rfl ?_
      refine pu_ 2 (some 33) (bl 14 7) HT_.out rfl ?_
      refine un_ 3 (some 34) (bl 14 15) HT_.out rfl ?_
      refine un_ 4 (some 35) (bl 14 31) HT_.out rfl ?_
      refine un_ 5 (some 36) (bl 14 63) HT_.out rfl ?_
      refine un_ 6 (some 37) (bl 14 127) HT_.out rfl ?_
      refine un_ 7 (some 38) (bl 14 255) HT_.out rfl ?_
      refine un_ 8 (some 39) (bl 14 511) HT_.out rfl ?_
      refine un_ 9 (some 40) (bl 14 1023) HT_.out rfl ?_
      refine un_ 10 (some 41) (bl 14 2047) HT_.out rfl ?_
      refine un_ 11 (some 42) (bl 14 4095) HT_.out rfl ?_
      refine un_ 12 (some 43) (bl 14 8191) HT_.out rfl ?_
      refine pu_ 13 (some 44) (bl 14 16383) HT_.out rfl ?_
      refine done_ (done_of HT_.out (by kernel_rfl)) ?_
      try go_wp2
      go_roundg kj7
      case measure => have := HK1.out; have := HJ7.out; omega
      case rel => exact ⟨(wrap64 (x11_1 + 1)), (by first | rfl | (simp; done) | (simp [*]; done)), H', ⟨by have := HK1.out; have := HJ7.out; omega⟩, ⟨by repeat (first | (with_reducible first | exact HB.out | apply below_alloc | apply pw_below_drewN | apply below_drew1 | refine below_set ?_ GE248.out) | exact HB.out)⟩⟩
     rw [if_pos c16] at H
     have c16b0 : decide (0 < x11_1) = true := decide_eq_true c16
     clear c16
     obtain ⟨ji17, hji17⟩ : ∃ j_ : Int, (wrap64 (x11_1 - 1)) = j_ := ⟨_, rfl⟩
     replace H : (if 0 ≤ (ji17) then (if (ji17) < (l0.length : Int) then ((impl_CompareRows.f kj7 ((rd_T42 l0 (ji17)).f0) ((rd_T42 l0 x11_1).f0)).bind fun t252 => (if t252 ≥ 0 then (some 1) else (impl_SetFault.l0 kj7 l0 l0 (l0.length : Int) (wrap64 (x11_1 + 1))))) else (none)) else (none)) = some r := by first | (rw [hji17] at H; exact H) | (simp only [hji17] at H ⊢; exact H)
     have hji17w : (IntKind.i64.wrap (x11_1 - 1)) = ji17 := (i64_w _).trans hji17
     by_cases c18 : 0 ≤ (ji17)
     rotate_left
     ·rw [if_neg c18] at H
      exact absurd H (by simp)
     rw [if_pos c18] at H
     have c18b0 : decide (0 ≤ (ji17)) = true := decide_eq_true c18
     clear c18
     by_cases c19 : (ji17) < (l0.length : Int)
     rotate_left
     ·rw [if_neg c19] at H
      exact absurd H (by simp)
     rw [if_pos c19] at H
     have c19b0 : decide ((ji17) < (l0.length : Int)) = true := decide_eq_true c19
     clear c19
     replace H := Option.bind_eq_some_iff.mp H
     obtain ⟨t252, A200, H⟩ := H
     replace H : (if t252 ≥ 0 then (some 1) else (impl_SetFault.l0 kj7 l0 l0 (l0.length : Int) (wrap64 (x11_1 + 1)))) = some r := H
     have A20 := Aside0.mk A200
     clear A200
     by_cases c21 : t252 ≥ 0
     ·rw [if_pos c21] at H
      have c21b0 : decide (0 ≤ t252) = true := decide_eq_true c21
      clear c21
      obtain rfl := Option.some.inj H
      try go_wp2
      have n0_ := Aside0.mk (blk_drew BK248.out)
      have n1_ := Aside0.mk (below_drew1 HB.out)
      clear BK248
      clear HB
      have BK248 := n0_
      have HB := n1_
      clear n0_ n1_
      have p251 : 0 ≤ ((ji17) : Int) := of_decide_eq_true b12_2
      have q251 : (ji17) < (l0.length : Int) := of_decide_eq_true b12_2
      obtain ⟨ad251, A251_0, c251_0, e251, hx251_0, hx251_1, hl251_0, hi251_0⟩ := at_T42 HR0.out (ji17) p251 q251
      have hw251_1 := hx251_1
      have hw251_0 := hx251_0
      obtain rfl : ad247 = ad251 := (by injection e251)
      replace hx251_0 := (HB.out.cell (World.block_lt_of_cell? w _ hx251_0)).trans hx251_0
      replace hx251_1 := (HB.out.cell (World.block_lt_of_cell? w _ hx251_1)).trans hx251_1
      have HR251_0 := Aside0.mk hi251_0
      have HC251_0 := Aside0.mk hl251_0
      clear hi251_0 hl251_0
      replace p251 := eq_true p251
      replace q251 := eq_true q251
      refine start_ (n := 14) (S := fun w' => w'.cell? ⟨gb248, 0, none⟩ = some (.slice A247_0 ((rd_T42 l0 x11_1).f0).length c247_0) ∧ w'.cell? ⟨gb248, 1, none⟩ = some (.int .i64 ((rd_T42 l0 x11_1).f1)) ∧ w'.cell? (ad247.add (((ji17)).toNat * 2)) = some (.slice A251_0 ((rd_T42 l0 (ji17)).f0).length c251_0) ∧ w'.cell? ⟨(ad247.add (((ji17)).toNat * 2)).block, (ad247.add (((ji17)).toNat * 2)).off + 1, none⟩ = some (.int .i64 ((rd_T42 l0 (ji17)).f1))) (ds := []) (bl 14 0) (by kernel_rfl) rfl rfl ⟨(blk_cell BK248.out 0).trans rfl, (blk_cell BK248.out 1).trans rfl, ((HB.out.cell (World.block_lt_of_cell? w _ hw251_0)).trans hw251_0), ((HB.out.cell (World.block_lt_of_cell? w _ hw251_1)).trans hw251_1)⟩ (fun hHeld => ?_); refine with_tabW impl_SetFault.tab11 impl_SetFault.bits11 (fun HT_ HW_ => ?_)
      generalize wc.drew = w22 at BK248 HB HR251_0 hx251_0 hx251_1 hHeld ⊢
      refine pu_ 0 (some 31) (bl 14 1) HT_.out rfl ?_
      refine pu_ 1 (some 32) (bl 14 3) HT_.out rfl ?_
      refine pu_ 2 (some 33) (bl 14 7) HT_.out rfl ?_
      refine pu_ 3 (some 34) (bl 14 15) HT_.out rfl ?_
      refine pu_ 4 (some 35) (bl 14 31) HT_.out rfl ?_
      refine pu_ 5 (some 36) (bl 14 63) HT_.out rfl ?_
      refine pu_ 6 (some 37) (bl 14 127) HT_.out rfl ?_
      refine pu_ 7 (some 38) (bl 14 255) HT_.out rfl ?_
      refine pu_ 9 (some 40) (bl 14 767) HT_.out rfl ?_
      refine tw_ 8 (some 39) (bl 14 1023) HT_.out HW_.out rfl hHeld (fun w' s_ => by obtain ⟨s0, s1, s2, s3⟩ := s_; go_simp; with_reducible rfl) ?_
      refine tw_ 10 (some 41) (bl 14 2047) HT_.out HW_.out rfl hHeld (fun w' s_ => by obtain ⟨s0, s1, s2, s3⟩ := s_; go_simp; with_reducible rfl) ?_
      refine on_ 11 (some 42) (bl 14 4095) HT_.out rfl (fun K hK => ?_)
      refine goes_ Try.func25 (by kernel_rfl) rfl #[.slice A251_0 ((rd_T42 l0 (ji17)).f0).length c251_0, .slice A247_0 ((rd_T42 l0 x11_1).f0).length c247_0] (by rfl) rfl rfl (by (try simp only [List.map_toArray, List.map_cons, List.map_nil]); first | done | (simp only [hji17]; rfl) | rfl | (simp only [List.length_drop, List.length_take]; rfl)) ?_
      with_reducible refine (impl_CompareRows.calls kj7 _ _ ((rd_T42 l0 (ji17)).f0) _ _ ((rd_T42 l0 x11_1).f0) t252 _ ?side1 ?side2 ?side3 ?side4 A20.out).mono ?_
      (case side1 => exact (by repeat (first | exact (Kd.C_below HR251_0.out HB.out) | (with_reducible refine Kd.C_alloc ?_ _) | (with_reducible refine Kd.C_drewN ?_ _) | (with_reducible refine Kd.C_drew ?_))))
      (case side2 => exact HC251_0.out)
      (case side3 => exact (by repeat (first | exact (Kd.C_below HR247_0.out HB.out) | (with_reducible refine Kd.C_alloc ?_ _) | (with_reducible refine Kd.C_drewN ?_ _) | (with_reducible refine Kd.C_drew ?_))))
      (case side4 => exact HC247_0.out)
      rintro e w23 ⟨rfl, hb⟩
      refine ⟨_, rfl, ?_⟩
      have n0_ := Aside0.mk (blk_below (g := gb248) (o := .cells #[.slice A247_0 ((rd_T42 l0 x11_1).f0).length c247_0, .int .i64 ((rd_T42 l0 x11_1).f1)] 42 (0, 0)) (by (with_reducible repeat (first | refine blk_drewN ?_ _ | refine blk_drew ?_ | refine blk_alloc ?_ _)); exact BK248.out) hb)
      have n1_ := Aside0.mk (below_step b12_3 hb)
      clear BK248
      clear HB
      have BK248 := n0_
      have HB := n1_
      clear n0_ n1_
      (try clear hb)
      (try clear hb2)
      (try clear hk)
      (try clear hi)
      refine hK.out _ _ ⟨(blk_cell BK248.out 0).trans rfl, (blk_cell BK248.out 1).trans rfl, ((HB.out.cell (World.block_lt_of_cell? w _ hw251_0)).trans hw251_0), ((HB.out.cell (World.block_lt_of_cell? w _ hw251_1)).trans hw251_1)⟩ (fun hHeld => ?_)
      clear hK K
      refine norm_ (a' := ?_) ?_ ?_
      rotate_left
      ·show Act.put _ (some 42) _ = _
       simp only [Act.put, List.setIfInBounds_toArray, List.set_cons_zero, List.set_cons_succ, i64_w, i32_w]
       rfl
      refine pu_ 12 (some 43) (bl 14 8191) HT_.out rfl ?_
      refine pu_ 13 (some 44) (bl 14 16383) HT_.out rfl ?_
      refine done_ (done_of HT_.out (by kernel_rfl)) ?_
      try go_wp2
      go_ret
      exact ⟨by first | rfl | (simp [errW_none, errW_some] <;> rfl) | (simp only [← hji17]; first | rfl | (simp [errW_none, errW_some] <;> rfl)) | (simp [*, errW_none, errW_some] <;> rfl), by repeat (first | (with_reducible first | exact HB.out | apply below_alloc | apply pw_below_drewN | apply below_drew1 | refine below_set ?_ GE248.out) | exact HB.out)⟩
     rw [if_neg c21] at H
     have c21b0 : decide (0 ≤ t252) = false := decide_eq_false c21
     clear c21
     have H' := Aside0.mk H
     clear H
     try go_wp2
     have n0_ := Aside0.mk (blk_drew BK248.out)
     have n1_ := Aside0.mk (below_drew1 HB.out)
     clear BK248
     clear HB
     have BK248 := n0_
     have HB := n1_
     clear n0_ n1_
     have p251 : 0 ≤ ((ji17) : Int) := of_decide_eq_true b12_2
     have q251 : (ji17) < (l0.length : Int) := of_decide_eq_true b12_2
     obtain ⟨ad251, A251_0, c251_0, e251, hx251_0, hx251_1, hl251_0, hi251_0⟩ := at_T42 HR0.out (ji17) p251 q251
     have hw251_1 := hx251_1
     have hw251_0 := hx251_0
     obtain rfl : ad247 = ad251 := (by injection e251)
     replace hx251_0 := (HB.out.cell (World.block_lt_of_cell? w _ hx251_0)).trans hx251_0
     replace hx251_1 := (HB.out.cell (World.block_lt_of_cell? w _ hx251_1)).trans hx251_1
     have HR251_0 := Aside0.mk hi251_0
     have HC251_0 := Aside0.mk hl251_0
     clear hi251_0 hl251_0
     replace p251 := eq_true p251
     replace q251 := eq_true q251
     refine start_ (n := 14) (S := fun w' => w'.cell? ⟨gb248, 0, none⟩ = some (.slice A247_0 ((rd_T42 l0 x11_1).f0).length c247_0) ∧ w'.cell? ⟨gb248, 1, none⟩ = some (.int .i64 ((rd_T42 l0 x11_1).f1)) ∧ w'.cell? (ad247.add (((ji17)).toNat * 2)) = some (.slice A251_0 ((rd_T42 l0 (ji17)).f0).length c251_0) ∧ w'.cell? ⟨(ad247.add (((ji17)).toNat * 2)).block, (ad247.add (((ji17)).toNat * 2)).off + 1, none⟩ = some (.int .i64 ((rd_T42 l0 (ji17)).f1))) (ds := []) (bl 14 0) (by kernel_rfl) rfl rfl ⟨(blk_cell BK248.out 0).trans rfl, (blk_cell BK248.out 1).trans rfl, ((HB.out.cell (World.block_lt_of_cell? w _ hw251_0)).trans hw251_0), ((HB.out.cell (World.block_lt_of_cell? w _ hw251_1)).trans hw251_1)⟩ (fun hHeld => ?_); refine with_tabW impl_SetFault.tab11 impl_SetFault.bits11 (fun HT_ HW_ => ?_)
     generalize wc.drew = w24 at BK248 HB HR251_0 hx251_0 hx251_1 hHeld ⊢
     refine pu_ 0 (some 31) (bl 14 1) HT_.out rfl ?_
     refine pu_ 1 (some 32) (bl 14 3) HT_.out rfl ?_
     refine pu_ 2 (some 33) (bl 14 7) HT_.out rfl ?_
     refine pu_ 3 (some 34) (bl 14 15) HT_.out rfl ?_
     refine pu_ 4 (some 35) (bl 14 31) HT_.out rfl ?_
     refine pu_ 5 (some 36) (bl 14 63) HT_.out rfl ?_
     refine pu_ 6 (some 37) (bl 14 127) HT_.out rfl ?_
     refine pu_ 7 (some 38) (bl 14 255) HT_.out rfl ?_
     refine pu_ 9 (some 40) (bl 14 767) HT_.out rfl ?_
     refine tw_ 8 (some 39) (bl 14 1023) HT_.out HW_.out rfl hHeld (fun w' s_ => by obtain ⟨s0, s1, s2, s3⟩ := s_; go_simp; with_reducible rfl) ?_
     refine tw_ 10 (some 41) (bl 14 2047) HT_.out HW_.out rfl hHeld (fun w' s_ => by obtain ⟨s0, s1, s2, s3⟩ := s_; go_simp; with_reducible rfl) ?_
     refine on_ 11 (some 42) (bl 14 4095) HT_.out rfl (fun K hK => ?_)
     refine goes_ Try.func25 (by kernel_rfl) rfl #[.slice A251_0 ((rd_T42 l0 (ji17)).f0).length c251_0, .slice A247_0 ((rd_T42 l0 x11_1).f0).length c247_0] (by rfl) rfl rfl (by (try simp only [List.map_toArray, List.map_cons, List.map_nil]); first | done | (simp only [hji17]; rfl) | rfl | (simp only [List.length_drop, List.length_take]; rfl)) ?_
     with_reducible refine (impl_CompareRows.calls kj7 _ _ ((rd_T42 l0 (ji17)).f0) _ _ ((rd_T42 l0 x11_1).f0) t252 _ ?side1 ?side2 ?side3 ?side4 A20.out).mono ?_
     (case side1 => exact (by repeat (first | exact (Kd.C_below HR251_0.out HB.out) | (with_reducible refine Kd.C_alloc ?_ _) | (with_reducible refine Kd.C_drewN ?_ _) | (with_reducible refine Kd.C_drew ?_))))
     (case side2 => exact HC251_0.out)
     (case side3 => exact (by repeat (first | exact (Kd.C_below HR247_0.out HB.out) | (with_reducible refine Kd.C_alloc ?_ _) | (with_reducible refine Kd.C_drewN ?_ _) | (with_reducible refine Kd.C_drew ?_))))
     (case side4 => exact HC247_0.out)
     rintro e w25 ⟨rfl, hb⟩
     refine ⟨_, rfl, ?_⟩
     have n0_ := Aside0.mk (blk_below (g := gb248) (o := .cells #[.slice A247_0 ((rd_T42 l0 x11_1).f0).length c247_0, .int .i64 ((rd_T42 l0 x11_1).f1)] 42 (0, 0)) (by (with_reducible repeat (first | refine blk_drewN ?_ _ | refine blk_drew ?_ | refine blk_alloc ?_ _)); exact BK248.out) hb)
     have n1_ := Aside0.mk (below_step b12_3 hb)
     clear BK248
     clear HB
     have BK248 := n0_
     have HB := n1_
     clear n0_ n1_
     (try clear hb)
     (try clear hb2)
     (try clear hk)
     (try clear hi)
     refine hK.out _ _ ⟨(blk_cell BK248.out 0).trans rfl, (blk_cell BK248.out 1).trans rfl, ((HB.out.cell (World.block_lt_of_cell? w _ hw251_0)).trans hw251_0), ((HB.out.cell (World.block_lt_of_cell? w _ hw251_1)).trans hw251_1)⟩ (fun hHeld => ?_)
     clear hK K
     refine norm_ (a' := ?_) ?_ ?_
     rotate_left
     ·show Act.put _ (some 42) _ = _
      simp only [Act.put, List.setIfInBounds_toArray, List.set_cons_zero, List.set_cons_succ, i64_w, i32_w]
      rfl
     refine pu_ 12 (some 43) (bl 14 8191) HT_.out rfl ?_
     refine pu_ 13 (some 44) (bl 14 16383) HT_.out rfl ?_
     refine done_ (done_of HT_.out (by kernel_rfl)) ?_
     try go_wp2
     go_roundg kj7
     case measure => have := HK1.out; have := HJ7.out; omega
     case rel => exact ⟨(wrap64 (x11_1 + 1)), (by first | rfl | (simp; done) | (simp [*]; done)), H', ⟨by have := HK1.out; have := HJ7.out; omega⟩, ⟨by repeat (first | (with_reducible first | exact HB.out | apply below_alloc | apply pw_below_drewN | apply below_drew1 | refine below_set ?_ GE248.out) | exact HB.out)⟩⟩

/-! ### impl_setsFault: function 79 -/
def impl_setsFault.l0 : Nat → List (List (S42)) → Int → Int → Option (Int)
 | 0, _, _, _ => none
 | k + 1, x6, x7, x8 => if x8 < x7 then (if 0 ≤ x8 then (if x8 < (x6.length : Int) then ((impl_SetFault.f k (rd_L4 x6 x8)).bind fun t254 => (if t254 = 0 then (impl_setsFault.l0 k x6 x7 (wrap64 (x8 + 1))) else (some t254))) else (none)) else (none)) else (some 0)
def impl_setsFault.f (k : Nat) (l0 : List (List (S42))) : Option (Int) := impl_setsFault.l0 k l0 (l0.length : Int) 0
theorem impl_setsFault.mono_l : ∀ k, (∀ y0 y1 y2, LeO (impl_setsFault.l0 k y0 y1 y2) (impl_setsFault.l0 (k + 1) y0 y1 y2))
 | 0 => fun _ _ _ r h => by simp [impl_setsFault.l0] at h
 | k + 1 => by
  have ih0 := impl_setsFault.mono_l k
  ·intro y0 y1 y2
   unfold impl_setsFault.l0
   repeat' first
   | (with_reducible exact ih0 _ _ _)
   | (with_reducible exact impl_SetFault.mono _ _)
   | (with_reducible exact LeO.refl _)
   | (with_reducible exact LeO.none _)
   | (with_reducible refine LeO.ite ?_ ?_)
   | (with_reducible refine LeO.bind ?_ (fun _ => ?_))
   | exact ih0 _ _ _
   | exact impl_SetFault.mono _ _
   | exact LeO.none _
   | refine LeO.ite ?_ ?_
   | refine LeO.bind ?_ (fun _ => ?_)
theorem impl_setsFault.mono : ∀ a0 k, LeO (impl_setsFault.f k a0) (impl_setsFault.f (k + 1) a0) := by
 intro a0 k
 have ih0 := impl_setsFault.mono_l k
 unfold impl_setsFault.f
 repeat' first
   | (with_reducible exact ih0 _ _ _)
   | (with_reducible exact impl_SetFault.mono _ _)
   | (with_reducible exact LeO.refl _)
   | (with_reducible exact LeO.none _)
   | (with_reducible refine LeO.ite ?_ ?_)
   | (with_reducible refine LeO.bind ?_ (fun _ => ?_))
   | exact ih0 _ _ _
   | exact impl_SetFault.mono _ _
   | exact LeO.none _
   | refine LeO.ite ?_ ?_
   | refine LeO.bind ?_ (fun _ => ?_)
set_option maxHeartbeats 8000000 in
set_option maxRecDepth 100000 in
theorem impl_setsFault.calls (k : Nat) (A0 : Option Addr) (c0 : Nat) (l0 : List (List (S42))) (r : Int) (w : World) (hr0 : Kd.C (Kd.slice 42 k42) w A0 l0.length l0) (hc0 : l0.length ≤ c0) (h : impl_setsFault.f k l0 = some r) :
  Calls Try.prog 79 #[.slice A0 l0.length c0] w fun e w' => e = .returned (.int .i64 r) ∧ Below w.heap.size w w' := by
 have HR0 := Aside0.mk hr0
 have HC0 := Aside0.mk hc0
 clear hr0 hc0
 have HB := Aside0.mk (Below.refl w.heap.size w)
 have H : (impl_setsFault.l0 k l0 (l0.length : Int) 0) = some r := h
 clear h
 have H' := Aside0.mk H
 clear H
 go_enter Try.func79, Try.ntmps79
 go_wp2
 go_loopg [8] k (fun kq v8 w' => ∃ (x8_1 : Int), v8 = .int .i64 x8_1 ∧ Aside0 (impl_setsFault.l0 kq l0 (l0.length : Int) x8_1 = some r) ∧ Aside0 (kq ≤ k) ∧ Aside0 (Below w.heap.size w w'))
 case atStart => exact ⟨(0), (by first | rfl | (simp; done) | (simp [*]; done)), H', ⟨Nat.le_refl _⟩, ⟨q12_0⟩⟩
 case round =>
  clear H'
  obtain ⟨x8_1, rfl, HA, HK1, HB⟩ := hrel
  cases gk with
  | zero => exact absurd HA.out (by simp [impl_setsFault.l0])
  | succ k1 =>
   have H := HA.out
   clear HA
   simp only [impl_setsFault.l0] at H
   by_cases c2 : x8_1 < (l0.length : Int)
   rotate_left
   ·rw [if_neg c2] at H
    have c2b0 : decide (x8_1 < (l0.length : Int)) = false := decide_eq_false c2
    clear c2
    obtain rfl := Option.some.inj H
    go_wp2
    go_ret
    exact ⟨q12_1, q12_0⟩
   rw [if_pos c2] at H
   have c2b0 : decide (x8_1 < (l0.length : Int)) = true := decide_eq_true c2
   clear c2
   by_cases c3 : 0 ≤ x8_1
   rotate_left
   ·rw [if_neg c3] at H
    exact absurd H (by simp)
   rw [if_pos c3] at H
   have c3b0 : decide (0 ≤ x8_1) = true := decide_eq_true c3
   clear c3
   by_cases c4 : x8_1 < (l0.length : Int)
   rotate_left
   ·rw [if_neg c4] at H
    exact absurd H (by simp)
   rw [if_pos c4] at H
   have c4b0 : decide (x8_1 < (l0.length : Int)) = true := decide_eq_true c4
   clear c4
   replace H := Option.bind_eq_some_iff.mp H
   obtain ⟨t254, A50, H⟩ := H
   replace H : (if t254 = 0 then (impl_setsFault.l0 k1 l0 (l0.length : Int) (wrap64 (x8_1 + 1))) else (some t254)) = some r := H
   have A5 := Aside0.mk A50
   clear A50
   by_cases c6 : t254 = 0
   ·rw [if_pos c6] at H
    have c6b0 : (t254 == 0) = true := beq_iff_eq.mpr c6
    have c6b1 : (t254 != 0) = false := bne_eq_false_iff_eq.mpr c6
    clear c6
    have H' := Aside0.mk H
    clear H
    have p253 : 0 ≤ (x8_1 : Int) := of_decide_eq_true b12_2
    have q253 : x8_1 < (l0.length : Int) := of_decide_eq_true b12_2
    obtain ⟨ad253, A253_0, c253_0, e253, hx253_0, hl253_0, hi253_0⟩ := at_L4 HR0.out x8_1 p253 q253
    cases e253
    replace hx253_0 := (HB.out.cell (World.block_lt_of_cell? w _ hx253_0)).trans hx253_0
    have HR253_0 := Aside0.mk hi253_0
    have HC253_0 := Aside0.mk hl253_0
    clear hi253_0 hl253_0
    replace p253 := eq_true p253
    replace q253 := eq_true q253
    go_wp2_with (first | ((with_reducible refine gate_callee (f := 26) rfl ?_); refine goesL_ (some 13) rfl rfl Try.func26 (by kernel_rfl) rfl #[.slice A253_0 (rd_L4 l0 x8_1).length c253_0] rfl b12_1 ?_; (with_reducible refine (impl_SetFault.calls k1 _ _ (rd_L4 l0 x8_1) t254 _ ?side1 ?side2 A5.out).mono ?_); (case side1 => exact (by repeat (first | exact (Kd.C_below HR253_0.out HB.out) | (with_reducible refine Kd.C_alloc ?_ _) | (with_reducible refine Kd.C_drewN ?_ _) | (with_reducible refine Kd.C_drew ?_)))); (case side2 => exact HC253_0.out); rintro e w7 ⟨rfl, hb⟩; refine ⟨_, rfl, ?_⟩; have n0_ := Aside0.mk (below_step b12_0 hb); clear HB; have HB := n0_; clear n0_; (try clear hb); (try clear hb2); (try clear hk); (try clear hi)))
    go_roundg k1
    case measure => have := HK1.out; omega
    case rel => exact ⟨(wrap64 (x8_1 + 1)), (by first | rfl | (simp; done) | (simp [*]; done)), H', ⟨by have := HK1.out; omega⟩, ⟨q12_0⟩⟩
   rw [if_neg c6] at H
   have c6b0 : (t254 == 0) = false := beq_eq_false_iff_ne.mpr c6
   have c6b1 : (t254 != 0) = true := bne_iff_ne.mpr c6
   obtain rfl := Option.some.inj H
   have p253 : 0 ≤ (x8_1 : Int) := of_decide_eq_true b12_2
   have q253 : x8_1 < (l0.length : Int) := of_decide_eq_true b12_2
   obtain ⟨ad253, A253_0, c253_0, e253, hx253_0, hl253_0, hi253_0⟩ := at_L4 HR0.out x8_1 p253 q253
   cases e253
   replace hx253_0 := (HB.out.cell (World.block_lt_of_cell? w _ hx253_0)).trans hx253_0
   have HR253_0 := Aside0.mk hi253_0
   have HC253_0 := Aside0.mk hl253_0
   clear hi253_0 hl253_0
   replace p253 := eq_true p253
   replace q253 := eq_true q253
   go_wp2_with (first | ((with_reducible refine gate_callee (f := 26) rfl ?_); refine goesL_ (some 13) rfl rfl Try.func26 (by kernel_rfl) rfl #[.slice A253_0 (rd_L4 l0 x8_1).length c253_0] rfl b12_1 ?_; (with_reducible refine (impl_SetFault.calls k1 _ _ (rd_L4 l0 x8_1) t254 _ ?side1 ?side2 A5.out).mono ?_); (case side1 => exact (by repeat (first | exact (Kd.C_below HR253_0.out HB.out) | (with_reducible refine Kd.C_alloc ?_ _) | (with_reducible refine Kd.C_drewN ?_ _) | (with_reducible refine Kd.C_drew ?_)))); (case side2 => exact HC253_0.out); rintro e w8 ⟨rfl, hb⟩; refine ⟨_, rfl, ?_⟩; have n0_ := Aside0.mk (below_step b12_0 hb); clear HB; have HB := n0_; clear n0_; (try clear hb); (try clear hb2); (try clear hk); (try clear hi)))
   go_ret
   exact ⟨q12_1, q12_0⟩

end Go.Proofs.Ythgmicingbjemaa.PFnExactJoinSets
