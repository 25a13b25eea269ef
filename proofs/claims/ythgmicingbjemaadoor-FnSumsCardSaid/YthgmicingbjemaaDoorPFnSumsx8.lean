-- Written by fprint, a program of this session, out of Lean's own print of the translation. Lean checks it.
import Derived.Test.YthgmicingbjemaaDoorDense
import Derived.Test.YthgmicingbjemaaDoorShort
import Derived.Test.YthgmicingbjemaaDoorPFnSumsx0
import Derived.Test.YthgmicingbjemaaDoorPFnSumsx2
import Derived.Test.YthgmicingbjemaaDoorPFnSumsx3
namespace Go.Proofs.YthgmicingbjemaaDoor.PFnSums
open Go.RowKit Go.Proofs.YthgmicingbjemaaDoorW.PrintWords Go.Proofs.YthgmicingbjemaaDoorW.PrintLast Go.Proofs.YthgmicingbjemaaDoorW.PrintMore
attribute [local go_sem] max2_int min2_int max_two min_two max_three min_three max_four min_four   -- for this text's walks alone
set_option linter.unusedVariables false
set_option linter.unusedSimpArgs false

theorem q8_0 {p : Prop} (h : p := by first | rfl | (simp [errW_none, errW_some] <;> rfl) | (simp only [← hji6, ← hji7]; first | rfl | (simp [errW_none, errW_some] <;> rfl)) | (simp [*, errW_none, errW_some] <;> rfl)) : p := h
/-! ### impl_SetFault: function 9 -/
mutual
def impl_SetFault.l0 : Nat → List (S31) → List (S31) → Int → Int → Option (Int)
 | 0, _, _, _, _ => none
 | k + 1, x0, x9, x10, x11 => if x11 < x10 then (if 0 ≤ x11 then (if x11 < (x9.length : Int) then ((impl_RowFault.f k ((rd_T31 x9 x11).f0)).bind fun t287 => (if t287 = 0 then ((impl_isWeight.f ((rd_T31 x9 x11).f1)).bind fun t288 => (if t288 = true then (impl_SetFault.j1 k x0 x11 x9 x10 x11 (((rd_T31 x9 x11).f1) == 0) ((rd_T31 x9 x11).f0) ((rd_T31 x9 x11).f1)) else (impl_SetFault.j1 k x0 x11 x9 x10 x11 true ((rd_T31 x9 x11).f0) ((rd_T31 x9 x11).f1)))) else (some t287))) else (none)) else (none)) else (some 0)
def impl_SetFault.j1 : Nat → List (S31) → Int → List (S31) → Int → Int → Bool → List Int → Int → Option (Int)
 | 0, _, _, _, _, _, _, _, _ => none
 | k + 1, x0, x3, x9, x10, x11, x30, x287000, x287001 => if x30 = true then (some 3) else (if x3 > 0 then (if 0 ≤ (wrap64 (x3 - 1)) then (if (wrap64 (x3 - 1)) < (x0.length : Int) then ((impl_CompareRows.f k ((rd_T31 x0 (wrap64 (x3 - 1))).f0) x287000).bind fun t290 => (if t290 ≥ 0 then (some 1) else (impl_SetFault.l0 k x0 x9 x10 (wrap64 (x11 + 1))))) else (none)) else (none)) else (impl_SetFault.l0 k x0 x9 x10 (wrap64 (x11 + 1))))
end
def impl_SetFault.f (k : Nat) (l0 : List (S31)) : Option (Int) := if (l0.length : Int) > 200 then (some 2) else (impl_SetFault.l0 k l0 l0 (l0.length : Int) 0)
theorem impl_SetFault.mono_l : ∀ k, (∀ y0 y1 y2 y3, LeO (impl_SetFault.l0 k y0 y1 y2 y3) (impl_SetFault.l0 (k + 1) y0 y1 y2 y3)) ∧ (∀ y0 y1 y2 y3 y4 y5 y6 y7, LeO (impl_SetFault.j1 k y0 y1 y2 y3 y4 y5 y6 y7) (impl_SetFault.j1 (k + 1) y0 y1 y2 y3 y4 y5 y6 y7))
 | 0 => ⟨fun _ _ _ _ r h => by simp [impl_SetFault.l0] at h, fun _ _ _ _ _ _ _ _ r h => by simp [impl_SetFault.j1] at h⟩
 | k + 1 => by
  obtain ⟨ih0, ih1⟩ := impl_SetFault.mono_l k
  refine ⟨?_, ?_⟩
  ·intro y0 y1 y2 y3
   unfold impl_SetFault.l0
   repeat' first
   | (with_reducible exact ih0 _ _ _ _)
   | (with_reducible exact ih1 _ _ _ _ _ _ _ _)
   | (with_reducible exact impl_CompareRows.mono _ _ _)
   | (with_reducible exact impl_RowFault.mono _ _)
   | (with_reducible exact LeO.refl _)
   | (with_reducible exact LeO.none _)
   | (with_reducible refine LeO.ite ?_ ?_)
   | (with_reducible refine LeO.bind ?_ (fun _ => ?_))
   | exact ih0 _ _ _ _
   | exact ih1 _ _ _ _ _ _ _ _
   | exact impl_CompareRows.mono _ _ _
   | exact impl_RowFault.mono _ _
   | exact LeO.none _
   | refine LeO.ite ?_ ?_
   | refine LeO.bind ?_ (fun _ => ?_)
  ·intro y0 y1 y2 y3 y4 y5 y6 y7
   unfold impl_SetFault.j1
   repeat' first
   | (with_reducible exact ih0 _ _ _ _)
   | (with_reducible exact ih1 _ _ _ _ _ _ _ _)
   | (with_reducible exact impl_CompareRows.mono _ _ _)
   | (with_reducible exact impl_RowFault.mono _ _)
   | (with_reducible exact LeO.refl _)
   | (with_reducible exact LeO.none _)
   | (with_reducible refine LeO.ite ?_ ?_)
   | (with_reducible refine LeO.bind ?_ (fun _ => ?_))
   | exact ih0 _ _ _ _
   | exact ih1 _ _ _ _ _ _ _ _
   | exact impl_CompareRows.mono _ _ _
   | exact impl_RowFault.mono _ _
   | exact LeO.none _
   | refine LeO.ite ?_ ?_
   | refine LeO.bind ?_ (fun _ => ?_)
theorem impl_SetFault.mono : ∀ a0 k, LeO (impl_SetFault.f k a0) (impl_SetFault.f (k + 1) a0) := by
 intro a0 k
 obtain ⟨ih0, ih1⟩ := impl_SetFault.mono_l k
 unfold impl_SetFault.f
 repeat' first
   | (with_reducible exact ih0 _ _ _ _)
   | (with_reducible exact ih1 _ _ _ _ _ _ _ _)
   | (with_reducible exact impl_CompareRows.mono _ _ _)
   | (with_reducible exact impl_RowFault.mono _ _)
   | (with_reducible exact LeO.refl _)
   | (with_reducible exact LeO.none _)
   | (with_reducible refine LeO.ite ?_ ?_)
   | (with_reducible refine LeO.bind ?_ (fun _ => ?_))
   | exact ih0 _ _ _ _
   | exact ih1 _ _ _ _ _ _ _ _
   | exact impl_CompareRows.mono _ _ _
   | exact impl_RowFault.mono _ _
   | exact LeO.none _
   | refine LeO.ite ?_ ?_
   | refine LeO.bind ?_ (fun _ => ?_)
def impl_SetFault.T11 : Bool × List (List Nat × List Nat) := (true, [([], []), ([0], [0]), ([1], [1]), ([2], [2]), ([2], [2]), ([4, 2], [2, 4]), ([3, 5, 2], [2, 3, 5]), ([6, 2], [2, 6]), ([7, 2], [2, 7]), ([2], [2]), ([9, 2], [2, 9]), ([8, 10, 2, 2], [2, 8, 10]), ([11, 2], [2, 11]), ([2, 12], [2, 12])])
def impl_SetFault.B11 : List Nat := [0, 1, 3, 7, 7, 23, 63, 127, 255, 7, 519, 2047, 4095, 8191]
theorem impl_SetFault.tab11 : rtab .any (opsOf Tryd.f9 11) = impl_SetFault.T11 := by kernel_rfl
theorem impl_SetFault.bits11 : waitsOk impl_SetFault.T11.2 impl_SetFault.B11 = true := by kernel_rfl
set_option maxHeartbeats 8000000 in
set_option maxRecDepth 100000 in
theorem impl_SetFault.calls (k : Nat) (A0 : Option Addr) (c0 : Nat) (l0 : List (S31)) (r : Int) (w : World) (hr0 : Kd.C k31 w A0 l0.length l0) (hc0 : l0.length ≤ c0) (h : impl_SetFault.f k l0 = some r) :
  Calls Tryd.prog 9 #[.slice A0 l0.length c0] w fun e w' => e = .returned (.int .i64 r) ∧ Below w.heap.size w w' := by
 have hu31 := Tryd.underlying31
 have HR0 := Aside0.mk hr0
 have HC0 := Aside0.mk hc0
 clear hr0 hc0
 have HB := Aside0.mk (Below.refl w.heap.size w)
 have H : (if (l0.length : Int) > 200 then (some 2) else (impl_SetFault.l0 k l0 l0 (l0.length : Int) 0)) = some r := h
 clear h
 by_cases c2 : (l0.length : Int) > 200
 ·rw [if_pos c2] at H
  have c2b0 : decide (200 < (l0.length : Int)) = true := decide_eq_true c2
  have c2b1 : decide (200 < l0.length) = true := decide_eq_true (by omega)
  clear c2
  obtain rfl := Option.some.inj H
  go_enter Tryd.func9, Tryd.ntmps9
  go_wp2
  go_ret
  exact ⟨ce_, cB0_⟩
 rw [if_neg c2] at H
 have c2b0 : decide (200 < (l0.length : Int)) = false := decide_eq_false c2
 have c2b1 : decide (200 < l0.length) = false := decide_eq_false (by omega)
 clear c2
 have H' := Aside0.mk H
 clear H
 go_enter Tryd.func9, Tryd.ntmps9
 go_wp2
 go_loopg [11] k (fun kq v11 w' => ∃ (x11_1 : Int), v11 = .int .i64 x11_1 ∧ Aside0 (impl_SetFault.l0 kq l0 l0 (l0.length : Int) x11_1 = some r) ∧ Aside0 (kq ≤ k) ∧ Aside0 (Below w.heap.size w w'))
 case atStart => exact ⟨(0), cs_, H', ⟨Nat.le_refl _⟩, ⟨cB0_⟩⟩
 case round =>
  clear H'
  try clear c2
  try clear c2b0
  try clear c2b1
  try clear p2
  obtain ⟨x11_1, rfl, HA, HK1, HB⟩ := hrel
  cases gk with
  | zero => exact absurd HA.out (by simp [impl_SetFault.l0])
  | succ k1 =>
   have H := HA.out
   clear HA
   simp only [impl_SetFault.l0] at H
   by_cases c3 : x11_1 < (l0.length : Int)
   rotate_left
   ·rw [if_neg c3] at H
    have c3b0 : decide (x11_1 < (l0.length : Int)) = false := decide_eq_false c3
    clear c3
    obtain rfl := Option.some.inj H
    go_wp2
    go_ret
    exact ⟨ce_, cB0_⟩
   rw [if_pos c3] at H
   have c3b0 : decide (x11_1 < (l0.length : Int)) = true := decide_eq_true c3
   clear c3
   by_cases c4 : 0 ≤ x11_1
   rotate_left
   ·rw [if_neg c4] at H
    exact absurd H (by simp)
   rw [if_pos c4] at H
   have c4b0 : decide (0 ≤ x11_1) = true := decide_eq_true c4
   clear c4
   by_cases c5 : x11_1 < (l0.length : Int)
   rotate_left
   ·rw [if_neg c5] at H
    exact absurd H (by simp)
   rw [if_pos c5] at H
   have c5b0 : decide (x11_1 < (l0.length : Int)) = true := decide_eq_true c5
   clear c5
   obtain ⟨t287, A6, H⟩ := bnd_ H
   try dsimp only at H
   by_cases c7 : t287 = 0
   rotate_left
   ·rw [if_neg c7] at H
    have c7b0 : (t287 == 0) = false := beq_eq_false_iff_ne.mpr c7
    have c7b1 : (t287 != 0) = true := bne_iff_ne.mpr c7
    obtain rfl := Option.some.inj H
    have p285 : 0 ≤ (x11_1 : Int) := of_decide_eq_true ca_
    have q285 : x11_1 < (l0.length : Int) := of_decide_eq_true ca_
    obtain ⟨ad285, A285_0, c285_0, e285, hx285_0, hx285_1, hl285_0, hi285_0⟩ := at_T31 HR0.out x11_1 p285 q285
    cases e285
    replace hx285_0 := (HB.out.cell (World.block_lt_of_cell? w _ hx285_0)).trans hx285_0
    replace hx285_1 := (HB.out.cell (World.block_lt_of_cell? w _ hx285_1)).trans hx285_1
    have HR285_0 := Aside0.mk hi285_0
    have HC285_0 := Aside0.mk hl285_0
    clear hi285_0 hl285_0
    replace p285 := eq_true p285
    replace q285 := eq_true q285
    go_wp2_with (first | (refine bx_ 4 #[.slice none 0 0, .int .i64 0] 31 ?_; intro gb286 hg w27 hbox hb; have BK286 := Aside0.mk (hbox); have GW286 := Aside0.mk ((by rw [hg]; exact (below_size cB0_) : w.heap.size ≤ gb286)); have GE286 := Aside0.mk ((by rw [hg]; exact (below_size cB0_) : w.heap.size ≤ gb286)); replace HB := Aside0.mk (below_step cB0_ hb); clear hb hbox hg; obtain ⟨hcz28_0, hcz28_1, hfz28_0, hfz28_1⟩ := cells2 BK286.out) | (refine gl_ 19 (some 18) Tryd.func19 #[.slice A285_0 ((rd_T31 l0 x11_1).f0).length c285_0] ?_; (with_reducible refine (impl_RowFault.calls k1 _ _ ((rd_T31 l0 x11_1).f0) t287 _ ?side1 ?side2 A6.out).mono ?_); (case side1 => exact (by exact Kd.C_below HR285_0.out (cB1_ GE286.out))); (case side2 => exact HC285_0.out); rintro e w' ⟨rfl, ⟨nd, rfl⟩⟩; refine ⟨_, rfl, ?_⟩))
    go_ret
    exact ⟨ce_, cB1_ GE286.out⟩
   rw [if_pos c7] at H
   have c7b0 : (t287 == 0) = true := beq_iff_eq.mpr c7
   have c7b1 : (t287 != 0) = false := bne_eq_false_iff_eq.mpr c7
   clear c7
   have HC8 := Aside0.mk H
   clear H
   have p285 : 0 ≤ (x11_1 : Int) := of_decide_eq_true ca_
   have q285 : x11_1 < (l0.length : Int) := of_decide_eq_true ca_
   obtain ⟨ad285, A285_0, c285_0, e285, hx285_0, hx285_1, hl285_0, hi285_0⟩ := at_T31 HR0.out x11_1 p285 q285
   cases e285
   replace hx285_0 := (HB.out.cell (World.block_lt_of_cell? w _ hx285_0)).trans hx285_0
   replace hx285_1 := (HB.out.cell (World.block_lt_of_cell? w _ hx285_1)).trans hx285_1
   have HR285_0 := Aside0.mk hi285_0
   have HC285_0 := Aside0.mk hl285_0
   clear hi285_0 hl285_0
   replace p285 := eq_true p285
   replace q285 := eq_true q285
   go_upto_region 9 with (first | (refine bx_ 4 #[.slice none 0 0, .int .i64 0] 31 ?_; intro gb286 hg w9 hbox hb; have BK286 := Aside0.mk (hbox); have GW286 := Aside0.mk ((by rw [hg]; exact (below_size cB0_) : w.heap.size ≤ gb286)); have GE286 := Aside0.mk ((by rw [hg]; exact (below_size cB0_) : w.heap.size ≤ gb286)); replace HB := Aside0.mk (below_step cB0_ hb); clear hb hbox hg; obtain ⟨hcz10_0, hcz10_1, hfz10_0, hfz10_1⟩ := cells2 BK286.out) | (refine gl_ 19 (some 18) Tryd.func19 #[.slice A285_0 ((rd_T31 l0 x11_1).f0).length c285_0] ?_; (with_reducible refine (impl_RowFault.calls k1 _ _ ((rd_T31 l0 x11_1).f0) t287 _ ?side1 ?side2 A6.out).mono ?_); (case side1 => exact (by exact Kd.C_below HR285_0.out (cB1_ GE286.out))); (case side2 => exact HC285_0.out); rintro e w' ⟨rfl, ⟨nd, rfl⟩⟩; refine ⟨_, rfl, ?_⟩))
   (try simp only [Act.put, List.setIfInBounds_toArray, List.set_cons_zero, List.set_cons_succ])
   go_cut [30] (fun v30 wc => ∃ (kq : Nat) (x30_7 : Bool), v30 = .bool x30_7 ∧ Aside0 (impl_SetFault.j1 kq l0 x11_1 l0 (l0.length : Int) x11_1 x30_7 ((rd_T31 l0 x11_1).f0) ((rd_T31 l0 x11_1).f1) = some r) ∧ Aside0 (kq ≤ k1) ∧ Aside0 (wc.heap[gb286]? = some (.cells #[(.slice A285_0 ((rd_T31 l0 x11_1).f0).length c285_0), .int .i64 ((rd_T31 l0 x11_1).f1)] 31 (0, 0))) ∧ Aside0 (Below w.heap.size w wc))
   case first =>
    have H := HC8.out
    clear HC8
    obtain ⟨t288, A11, H⟩ := bnd_ H
    try dsimp only at H
    by_cases c12 : t288 = true
    ·subst c12
     rw [if_pos rfl] at H
     have H' := Aside0.mk H
     clear H
     obtain ⟨hcz13_0, hcz13_1, hfz13_0, hfz13_1⟩ := cells2 BK286.out
     go_wp2_with (first | (refine gl_ 20 (some 24) Tryd.func20 #[.int .i64 ((rd_T31 l0 x11_1).f1)] ?_; (with_reducible refine (impl_isWeight.calls ((rd_T31 l0 x11_1).f1) true _ A11.out).mono ?_); rintro e w' ⟨rfl, ⟨nd, rfl⟩⟩; refine ⟨_, rfl, ?_⟩))
     go_meet
     case rel => exact ⟨_, ((((rd_T31 l0 x11_1).f1) == 0)), cs_, H', ⟨by have := HK1.out; first | omega | exact Nat.le_refl _⟩, ⟨by refine cO_ ?_; refine blk_put (cs := #[.slice A285_0 ((rd_T31 l0 x11_1).f0).length c285_0, .int .i64 0]) ?_ 1 _ rfl; refine cO_ ?_; refine blk_put (cs := #[.slice none 0 0, .int .i64 0]) ?_ 0 _ rfl; refine cO_ ?_; exact BK286.out⟩, ⟨cB1_ GE286.out⟩⟩
    replace c12 := Bool.eq_false_iff.mpr c12
    subst c12
    rw [if_neg (show ¬ (false = true) by decide)] at H
    have H' := Aside0.mk H
    clear H
    obtain ⟨hcz14_0, hcz14_1, hfz14_0, hfz14_1⟩ := cells2 BK286.out
    go_wp2_with (first | (refine gl_ 20 (some 24) Tryd.func20 #[.int .i64 ((rd_T31 l0 x11_1).f1)] ?_; (with_reducible refine (impl_isWeight.calls ((rd_T31 l0 x11_1).f1) false _ A11.out).mono ?_); rintro e w' ⟨rfl, ⟨nd, rfl⟩⟩; refine ⟨_, rfl, ?_⟩))
    go_meet
    case rel => exact ⟨_, (true), cs_, H', ⟨by have := HK1.out; first | omega | exact Nat.le_refl _⟩, ⟨by refine cO_ ?_; refine blk_put (cs := #[.slice A285_0 ((rd_T31 l0 x11_1).f0).length c285_0, .int .i64 0]) ?_ 1 _ rfl; refine cO_ ?_; refine blk_put (cs := #[.slice none 0 0, .int .i64 0]) ?_ 0 _ rfl; refine cO_ ?_; exact BK286.out⟩, ⟨cB1_ GE286.out⟩⟩
   case rest =>
    clear HC8
    try clear c1
    try clear c2
    try clear c2b0
    try clear c2b1
    try clear p2
    try clear q2
    try clear hx2
    try clear c3
    try clear c3b0
    try clear c4
    try clear c4b0
    try clear c5
    try clear c5b0
    try clear c7
    try clear c7b0
    try clear c7b1
    try clear c9
    try clear c12
    try clear hcz10_0
    try clear hcz10_1
    try clear hcz13_0
    try clear hcz13_1
    try clear hcz14_0
    try clear hcz14_1
    try clear hfz10_0
    try clear hfz10_1
    try clear hfz13_0
    try clear hfz13_1
    try clear hfz14_0
    try clear hfz14_1
    try clear hx285_0
    try clear hx285_1
    try clear p2
    try clear p285
    try clear q285
    obtain ⟨kq, x30_7, rfl, HA, HJ7, BK286, HB⟩ := hcut
    cases kq with
    | zero => exact absurd HA.out (by simp [impl_SetFault.j1])
    | succ kj7 =>
     have H := HA.out
     clear HA
     simp only [impl_SetFault.j1] at H
     by_cases c15 : x30_7 = true
     ·subst c15
      rw [if_pos rfl] at H
      obtain rfl := Option.some.inj H
      go_wp2
      go_ret
      exact ⟨ce_, cB1_ GE286.out⟩
     replace c15 := Bool.eq_false_iff.mpr c15
     subst c15
     rw [if_neg (show ¬ (false = true) by decide)] at H
     by_cases c16 : x11_1 > 0
     rotate_left
     ·rw [if_neg c16] at H
      have c16b0 : decide (0 < x11_1) = false := decide_eq_false c16
      clear c16
      have H' := Aside0.mk H
      clear H
      try go_wp2
      replace BK286 := Aside0.mk (blk_drew BK286.out)
      replace HB := Aside0.mk (below_drew1 HB.out)
      refine start_ (n := 14) (S := fun w' => True) (ds := []) (bl 14 0) (by kernel_rfl) rfl rfl trivial (fun hHeld => ?_); refine with_tabW impl_SetFault.tab11 impl_SetFault.bits11 (fun HT_ HW_ => ?_)
      generalize wc.drew = w26 at BK286 HB hHeld ⊢
      refine pu_ 0 (some 31) (bl 14 1) HT_.out rfl ?_
      refine pu_ 1 (some 32) (bl 14 3) HT_.out rfl ?_
      refine pu_ 2 (some 33) (bl 14 7) HT_.out rfl ?_
      refine un_ 3 (some 34) (bl 14 15) HT_.out rfl ?_
      refine un_ 4 (some 35) (bl 14 31) HT_.out rfl ?_
      refine un_ 5 (some 36) (bl 14 63) HT_.out rfl ?_
      refine un_ 6 (some 37) (bl 14 127) HT_.out rfl ?_
      refine un_ 7 (some 38) (bl 14 255) HT_.out rfl ?_
      refine un_ 8 (some 39) (bl 14 511) HT_.out rfl ?_
      refine un_ 9 (some 40) (bl 14 1023) HT_.out rfl ?_
      refine un_ 10 (some 41) (bl 14 2047) HT_.out rfl ?_
      refine un_ 11 (some 42) (bl 14 4095) HT_.out rfl ?_
      refine un_ 12 (some 43) (bl 14 8191) HT_.out rfl ?_
      refine pu_ 13 (some 44) (bl 14 16383) HT_.out rfl ?_
      refine done_ (done_of HT_.out (by kernel_rfl)) ?_
      try go_wp2
      go_roundg kj7
      case measure => have := HK1.out; have := HJ7.out; omega
      case rel => exact ⟨(wrap64 (x11_1 + 1)), cs_, H', ⟨by have := HK1.out; have := HJ7.out; omega⟩, ⟨cB1_ GE286.out⟩⟩
     rw [if_pos c16] at H
     have c16b0 : decide (0 < x11_1) = true := decide_eq_true c16
     clear c16
     obtain ⟨ji17, hji17⟩ : ∃ j_ : Int, (wrap64 (x11_1 - 1)) = j_ := ⟨_, rfl⟩
     replace H : (if 0 ≤ (ji17) then (if (ji17) < (l0.length : Int) then ((impl_CompareRows.f kj7 ((rd_T31 l0 (ji17)).f0) ((rd_T31 l0 x11_1).f0)).bind fun t290 => (if t290 ≥ 0 then (some 1) else (impl_SetFault.l0 kj7 l0 l0 (l0.length : Int) (wrap64 (x11_1 + 1))))) else (none)) else (none)) = some r := by first | (rw [hji17] at H; exact H) | (simp only [hji17] at H ⊢; exact H)
     have hji17w : (IntKind.i64.wrap (x11_1 - 1)) = ji17 := (i64_w _).trans hji17
     by_cases c18 : 0 ≤ (ji17)
     rotate_left
     ·rw [if_neg c18] at H
      exact absurd H (by simp)
     rw [if_pos c18] at H
     have c18b0 : decide (0 ≤ (ji17)) = true := decide_eq_true c18
     clear c18
     by_cases c19 : (ji17) < (l0.length : Int)
     rotate_left
     ·rw [if_neg c19] at H
      exact absurd H (by simp)
     rw [if_pos c19] at H
     have c19b0 : decide ((ji17) < (l0.length : Int)) = true := decide_eq_true c19
     clear c19
     obtain ⟨t290, A20, H⟩ := bnd_ H
     try dsimp only at H
     by_cases c21 : t290 ≥ 0
     ·rw [if_pos c21] at H
      have c21b0 : decide (0 ≤ t290) = true := decide_eq_true c21
      clear c21
      obtain rfl := Option.some.inj H
      try go_wp2
      replace BK286 := Aside0.mk (blk_drew BK286.out)
      replace HB := Aside0.mk (below_drew1 HB.out)
      have p289 : 0 ≤ ((ji17) : Int) := of_decide_eq_true ca_
      have q289 : (ji17) < (l0.length : Int) := of_decide_eq_true ca_
      obtain ⟨ad289, A289_0, c289_0, e289, hx289_0, hx289_1, hl289_0, hi289_0⟩ := at_T31 HR0.out (ji17) p289 q289
      have hw289_1 := hx289_1
      have hw289_0 := hx289_0
      obtain rfl : ad285 = ad289 := (by injection e289)
      replace hx289_0 := (HB.out.cell (World.block_lt_of_cell? w _ hx289_0)).trans hx289_0
      replace hx289_1 := (HB.out.cell (World.block_lt_of_cell? w _ hx289_1)).trans hx289_1
      have HR289_0 := Aside0.mk hi289_0
      have HC289_0 := Aside0.mk hl289_0
      clear hi289_0 hl289_0
      replace p289 := eq_true p289
      replace q289 := eq_true q289
      refine start_ (n := 14) (S := fun w' => w'.cell? ⟨gb286, 0, none⟩ = some (.slice A285_0 ((rd_T31 l0 x11_1).f0).length c285_0) ∧ w'.cell? ⟨gb286, 1, none⟩ = some (.int .i64 ((rd_T31 l0 x11_1).f1)) ∧ w'.cell? (ad285.add (((ji17)).toNat * 2)) = some (.slice A289_0 ((rd_T31 l0 (ji17)).f0).length c289_0) ∧ w'.cell? ⟨(ad285.add (((ji17)).toNat * 2)).block, (ad285.add (((ji17)).toNat * 2)).off + 1, none⟩ = some (.int .i64 ((rd_T31 l0 (ji17)).f1))) (ds := []) (bl 14 0) (by kernel_rfl) rfl rfl ⟨(blk_cell BK286.out 0).trans rfl, (blk_cell BK286.out 1).trans rfl, ((HB.out.cell (World.block_lt_of_cell? w _ hw289_0)).trans hw289_0), ((HB.out.cell (World.block_lt_of_cell? w _ hw289_1)).trans hw289_1)⟩ (fun hHeld => ?_); refine with_tabW impl_SetFault.tab11 impl_SetFault.bits11 (fun HT_ HW_ => ?_)
      generalize wc.drew = w22 at BK286 HB HR289_0 hx289_0 hx289_1 hHeld ⊢
      refine pu_ 0 (some 31) (bl 14 1) HT_.out rfl ?_
      refine pu_ 1 (some 32) (bl 14 3) HT_.out rfl ?_
      refine pu_ 2 (some 33) (bl 14 7) HT_.out rfl ?_
      refine pu_ 3 (some 34) (bl 14 15) HT_.out rfl ?_
      refine pu_ 4 (some 35) (bl 14 31) HT_.out rfl ?_
      refine pu_ 5 (some 36) (bl 14 63) HT_.out rfl ?_
      refine pu_ 6 (some 37) (bl 14 127) HT_.out rfl ?_
      refine pu_ 7 (some 38) (bl 14 255) HT_.out rfl ?_
      refine pu_ 9 (some 40) (bl 14 767) HT_.out rfl ?_
      refine tw_ 8 (some 39) (bl 14 1023) HT_.out HW_.out rfl hHeld (fun w' s_ => by obtain ⟨s0, s1, s2, s3⟩ := s_; go_simp; with_reducible rfl) ?_
      refine tw_ 10 (some 41) (bl 14 2047) HT_.out HW_.out rfl hHeld (fun w' s_ => by obtain ⟨s0, s1, s2, s3⟩ := s_; go_simp; with_reducible rfl) ?_
      refine on_ 11 (some 42) (bl 14 4095) HT_.out rfl (fun K hK => ?_)
      refine goes_ Tryd.func26 (by kernel_rfl) rfl #[.slice A289_0 ((rd_T31 l0 (ji17)).f0).length c289_0, .slice A285_0 ((rd_T31 l0 x11_1).f0).length c285_0] (by rfl) rfl rfl (by (try simp only [List.map_toArray, List.map_cons, List.map_nil]); first | done | (simp only [hji17]; rfl) | rfl | (simp only [List.length_drop, List.length_take]; rfl)) ?_
      with_reducible refine (impl_CompareRows.calls kj7 _ _ ((rd_T31 l0 (ji17)).f0) _ _ ((rd_T31 l0 x11_1).f0) t290 _ ?side1 ?side2 ?side3 ?side4 A20.out).mono ?_
      (case side1 => exact cC_ (Kd.C_below HR289_0.out HB.out))
      (case side2 => exact HC289_0.out)
      (case side3 => exact cC_ (Kd.C_below HR285_0.out HB.out))
      (case side4 => exact HC285_0.out)
      rintro e w23 ⟨rfl, hb⟩
      refine ⟨_, rfl, ?_⟩
      replace BK286 := Aside0.mk (blk_below (g := gb286) (o := .cells #[.slice A285_0 ((rd_T31 l0 x11_1).f0).length c285_0, .int .i64 ((rd_T31 l0 x11_1).f1)] 31 (0, 0)) (cO_ BK286.out) hb)
      replace HB := Aside0.mk (below_step (cB1_ GE286.out) hb)
      (try clear hb)
      (try clear hb2)
      (try clear hk)
      (try clear hi)
      refine hK.out _ _ ⟨(blk_cell BK286.out 0).trans rfl, (blk_cell BK286.out 1).trans rfl, ((HB.out.cell (World.block_lt_of_cell? w _ hw289_0)).trans hw289_0), ((HB.out.cell (World.block_lt_of_cell? w _ hw289_1)).trans hw289_1)⟩ (fun hHeld => ?_)
      clear hK K
      refine norm_ (a' := ?_) ?_ ?_
      rotate_left
      ·show Act.put _ (some 42) _ = _
       simp only [Act.put, List.setIfInBounds_toArray, List.set_cons_zero, List.set_cons_succ, i64_w, i32_w]
       rfl
      refine pu_ 12 (some 43) (bl 14 8191) HT_.out rfl ?_
      refine pu_ 13 (some 44) (bl 14 16383) HT_.out rfl ?_
      refine done_ (done_of HT_.out (by kernel_rfl)) ?_
      try go_wp2
      go_ret
      exact ⟨by first | rfl | (simp [errW_none, errW_some] <;> rfl) | (simp only [← hji17]; first | rfl | (simp [errW_none, errW_some] <;> rfl)) | (simp [*, errW_none, errW_some] <;> rfl), cB1_ GE286.out⟩
     rw [if_neg c21] at H
     have c21b0 : decide (0 ≤ t290) = false := decide_eq_false c21
     clear c21
     have H' := Aside0.mk H
     clear H
     try go_wp2
     replace BK286 := Aside0.mk (blk_drew BK286.out)
     replace HB := Aside0.mk (below_drew1 HB.out)
     have p289 : 0 ≤ ((ji17) : Int) := of_decide_eq_true ca_
     have q289 : (ji17) < (l0.length : Int) := of_decide_eq_true ca_
     obtain ⟨ad289, A289_0, c289_0, e289, hx289_0, hx289_1, hl289_0, hi289_0⟩ := at_T31 HR0.out (ji17) p289 q289
     have hw289_1 := hx289_1
     have hw289_0 := hx289_0
     obtain rfl : ad285 = ad289 := (by injection e289)
     replace hx289_0 := (HB.out.cell (World.block_lt_of_cell? w _ hx289_0)).trans hx289_0
     replace hx289_1 := (HB.out.cell (World.block_lt_of_cell? w _ hx289_1)).trans hx289_1
     have HR289_0 := Aside0.mk hi289_0
     have HC289_0 := Aside0.mk hl289_0
     clear hi289_0 hl289_0
     replace p289 := eq_true p289
     replace q289 := eq_true q289
     refine start_ (n := 14) (S := fun w' => w'.cell? ⟨gb286, 0, none⟩ = some (.slice A285_0 ((rd_T31 l0 x11_1).f0).length c285_0) ∧ w'.cell? ⟨gb286, 1, none⟩ = some (.int .i64 ((rd_T31 l0 x11_1).f1)) ∧ w'.cell? (ad285.add (((ji17)).toNat * 2)) = some (.slice A289_0 ((rd_T31 l0 (ji17)).f0).length c289_0) ∧ w'.cell? ⟨(ad285.add (((ji17)).toNat * 2)).block, (ad285.add (((ji17)).toNat * 2)).off + 1, none⟩ = some (.int .i64 ((rd_T31 l0 (ji17)).f1))) (ds := []) (bl 14 0) (by kernel_rfl) rfl rfl ⟨(blk_cell BK286.out 0).trans rfl, (blk_cell BK286.out 1).trans rfl, ((HB.out.cell (World.block_lt_of_cell? w _ hw289_0)).trans hw289_0), ((HB.out.cell (World.block_lt_of_cell? w _ hw289_1)).trans hw289_1)⟩ (fun hHeld => ?_); refine with_tabW impl_SetFault.tab11 impl_SetFault.bits11 (fun HT_ HW_ => ?_)
     generalize wc.drew = w24 at BK286 HB HR289_0 hx289_0 hx289_1 hHeld ⊢
     refine pu_ 0 (some 31) (bl 14 1) HT_.out rfl ?_
     refine pu_ 1 (some 32) (bl 14 3) HT_.out rfl ?_
     refine pu_ 2 (some 33) (bl 14 7) HT_.out rfl ?_
     refine pu_ 3 (some 34) (bl 14 15) HT_.out rfl ?_
     refine pu_ 4 (some 35) (bl 14 31) HT_.out rfl ?_
     refine pu_ 5 (some 36) (bl 14 63) HT_.out rfl ?_
     refine pu_ 6 (some 37) (bl 14 127) HT_.out rfl ?_
     refine pu_ 7 (some 38) (bl 14 255) HT_.out rfl ?_
     refine pu_ 9 (some 40) (bl 14 767) HT_.out rfl ?_
     refine tw_ 8 (some 39) (bl 14 1023) HT_.out HW_.out rfl hHeld (fun w' s_ => by obtain ⟨s0, s1, s2, s3⟩ := s_; go_simp; with_reducible rfl) ?_
     refine tw_ 10 (some 41) (bl 14 2047) HT_.out HW_.out rfl hHeld (fun w' s_ => by obtain ⟨s0, s1, s2, s3⟩ := s_; go_simp; with_reducible rfl) ?_
     refine on_ 11 (some 42) (bl 14 4095) HT_.out rfl (fun K hK => ?_)
     refine goes_ Tryd.func26 (by kernel_rfl) rfl #[.slice A289_0 ((rd_T31 l0 (ji17)).f0).length c289_0, .slice A285_0 ((rd_T31 l0 x11_1).f0).length c285_0] (by rfl) rfl rfl (by (try simp only [List.map_toArray, List.map_cons, List.map_nil]); first | done | (simp only [hji17]; rfl) | rfl | (simp only [List.length_drop, List.length_take]; rfl)) ?_
     with_reducible refine (impl_CompareRows.calls kj7 _ _ ((rd_T31 l0 (ji17)).f0) _ _ ((rd_T31 l0 x11_1).f0) t290 _ ?side1 ?side2 ?side3 ?side4 A20.out).mono ?_
     (case side1 => exact cC_ (Kd.C_below HR289_0.out HB.out))
     (case side2 => exact HC289_0.out)
     (case side3 => exact cC_ (Kd.C_below HR285_0.out HB.out))
     (case side4 => exact HC285_0.out)
     rintro e w25 ⟨rfl, hb⟩
     refine ⟨_, rfl, ?_⟩
     replace BK286 := Aside0.mk (blk_below (g := gb286) (o := .cells #[.slice A285_0 ((rd_T31 l0 x11_1).f0).length c285_0, .int .i64 ((rd_T31 l0 x11_1).f1)] 31 (0, 0)) (cO_ BK286.out) hb)
     replace HB := Aside0.mk (below_step (cB1_ GE286.out) hb)
     (try clear hb)
     (try clear hb2)
     (try clear hk)
     (try clear hi)
     refine hK.out _ _ ⟨(blk_cell BK286.out 0).trans rfl, (blk_cell BK286.out 1).trans rfl, ((HB.out.cell (World.block_lt_of_cell? w _ hw289_0)).trans hw289_0), ((HB.out.cell (World.block_lt_of_cell? w _ hw289_1)).trans hw289_1)⟩ (fun hHeld => ?_)
     clear hK K
     refine norm_ (a' := ?_) ?_ ?_
     rotate_left
     ·show Act.put _ (some 42) _ = _
      simp only [Act.put, List.setIfInBounds_toArray, List.set_cons_zero, List.set_cons_succ, i64_w, i32_w]
      rfl
     refine pu_ 12 (some 43) (bl 14 8191) HT_.out rfl ?_
     refine pu_ 13 (some 44) (bl 14 16383) HT_.out rfl ?_
     refine done_ (done_of HT_.out (by kernel_rfl)) ?_
     try go_wp2
     go_roundg kj7
     case measure => have := HK1.out; have := HJ7.out; omega
     case rel => exact ⟨(wrap64 (x11_1 + 1)), cs_, H', ⟨by have := HK1.out; have := HJ7.out; omega⟩, ⟨cB1_ GE286.out⟩⟩

/-! ### impl_mulWeight: function 43 -/
def impl_mulWeight.j0 : Nat → Int → Int → Bool → Option (Int × Bool)
 | 0, _, _, _ => none
 | k + 1, x0, x1, x11 => if x11 = true then (some (0, true)) else (if (mx x1 (wrap64 (-x1))) = 0 then (none) else (if (mx x0 (wrap64 (-x0))) > (wrap64 (Int.tdiv (1000000000000 : Int) (mx x1 (wrap64 (-x1))))) then (some (0, false)) else (some (wrap64 (x0 * x1), true))))
def impl_mulWeight.f (k : Nat) (a0 : Int) (a1 : Int) : Option (Int × Bool) := if a0 = 0 then (impl_mulWeight.j0 k a0 a1 true) else (impl_mulWeight.j0 k a0 a1 (a1 == 0))
theorem impl_mulWeight.mono_l : ∀ k, (∀ y0 y1 y2, LeO (impl_mulWeight.j0 k y0 y1 y2) (impl_mulWeight.j0 (k + 1) y0 y1 y2))
 | 0 => fun _ _ _ r h => by simp [impl_mulWeight.j0] at h
 | k + 1 => by
  have ih0 := impl_mulWeight.mono_l k
  ·intro y0 y1 y2
   unfold impl_mulWeight.j0
   repeat' first
   | (with_reducible exact ih0 _ _ _)
   | (with_reducible exact LeO.refl _)
   | (with_reducible exact LeO.none _)
   | (with_reducible refine LeO.ite ?_ ?_)
   | (with_reducible refine LeO.bind ?_ (fun _ => ?_))
   | exact ih0 _ _ _
   | exact LeO.none _
   | refine LeO.ite ?_ ?_
   | refine LeO.bind ?_ (fun _ => ?_)
theorem impl_mulWeight.mono : ∀ a0 a1 k, LeO (impl_mulWeight.f k a0 a1) (impl_mulWeight.f (k + 1) a0 a1) := by
 intro a0 a1 k
 have ih0 := impl_mulWeight.mono_l k
 unfold impl_mulWeight.f
 repeat' first
   | (with_reducible exact ih0 _ _ _)
   | (with_reducible exact LeO.refl _)
   | (with_reducible exact LeO.none _)
   | (with_reducible refine LeO.ite ?_ ?_)
   | (with_reducible refine LeO.bind ?_ (fun _ => ?_))
   | exact ih0 _ _ _
   | exact LeO.none _
   | refine LeO.ite ?_ ?_
   | refine LeO.bind ?_ (fun _ => ?_)
set_option maxHeartbeats 8000000 in
set_option maxRecDepth 100000 in
theorem impl_mulWeight.calls (k : Nat) (a0 : Int) (a1 : Int) (r1 : Int) (r2 : Bool) (w : World) (h : impl_mulWeight.f k a0 a1 = some (r1, r2)) :
  Calls Tryd.prog 43 #[.int .i64 a0, .int .i64 a1] w fun e w' => e = .returned (.tuple #[.int .i64 r1, .bool r2]) ∧ Below w.heap.size w w' := by
 have HB := Aside0.mk (Below.refl w.heap.size w)
 have H : (if a0 = 0 then (impl_mulWeight.j0 k a0 a1 true) else (impl_mulWeight.j0 k a0 a1 (a1 == 0))) = some (r1, r2) := h
 clear h
 have HC3 := Aside0.mk H
 clear H
 go_enter Tryd.func43, Tryd.ntmps43
 go_upto_region 1 with (fail)
 go_cut [11] (fun v11 wc => ∃ (kq : Nat) (x11_2 : Bool), v11 = .bool x11_2 ∧ Aside0 (impl_mulWeight.j0 kq a0 a1 x11_2 = some (r1, r2)) ∧ Aside0 (kq ≤ k) ∧ Aside0 (Below w.heap.size w wc))
 case first =>
  have H := HC3.out
  clear HC3
  by_cases c4 : a0 = 0
  ·rw [if_pos c4] at H
   have c4b0 : (a0 == 0) = true := beq_iff_eq.mpr c4
   have c4b1 : (a0 != 0) = false := bne_eq_false_iff_eq.mpr c4
   clear c4
   (first | rw [c4b0] | (simp only [i64_w, i32_w]; rw [c4b0]) | skip)
   have H' := Aside0.mk H
   clear H
   go_wp2
   go_meet
   case rel => exact ⟨_, (true), cs_, H', ⟨cm_⟩, ⟨cB0_⟩⟩
  rw [if_neg c4] at H
  have c4b0 : (a0 == 0) = false := beq_eq_false_iff_ne.mpr c4
  have c4b1 : (a0 != 0) = true := bne_iff_ne.mpr c4
  (first | rw [c4b0] | (simp only [i64_w, i32_w]; rw [c4b0]) | skip)
  have H' := Aside0.mk H
  clear H
  go_wp2
  go_meet
  case rel => exact ⟨_, ((a1 == 0)), cs_, H', ⟨cm_⟩, ⟨cB0_⟩⟩
 case rest =>
  clear HC3
  try clear p2
  try clear c4
  try clear c4b0
  try clear c4b1
  obtain ⟨kq, x11_2, rfl, HA, HJ2, HB⟩ := hcut
  cases kq with
  | zero => exact absurd HA.out (by simp [impl_mulWeight.j0])
  | succ kj2 =>
   have H := HA.out
   clear HA
   simp only [impl_mulWeight.j0] at H
   by_cases c5 : x11_2 = true
   ·subst c5
    rw [if_pos rfl] at H
    simp only [Option.some.injEq, Prod.mk.injEq] at H
    obtain ⟨rfl, rfl⟩ := H
    go_wp2
    go_ret2
    exact ⟨ce_, cB0_⟩
   replace c5 := Bool.eq_false_iff.mpr c5
   subst c5
   rw [if_neg (show ¬ (false = true) by decide)] at H
   obtain ⟨ji6, hji6⟩ : ∃ j_ : Int, (mx a0 (wrap64 (-a0))) = j_ := ⟨_, rfl⟩
   replace H : (if (mx a1 (wrap64 (-a1))) = 0 then (none) else (if (ji6) > (wrap64 (Int.tdiv (1000000000000 : Int) (mx a1 (wrap64 (-a1))))) then (some (0, false)) else (some (wrap64 (a0 * a1), true)))) = some (r1, r2) := by first | (rw [hji6] at H; exact H) | (simp only [hji6] at H ⊢; exact H)
   have hji6_ : (if a0 < (wrap64 (-a0)) then (wrap64 (-a0)) else a0) = ji6 := hji6
   obtain ⟨ji7, hji7⟩ : ∃ j_ : Int, (mx a1 (wrap64 (-a1))) = j_ := ⟨_, rfl⟩
   replace H : (if (ji7) = 0 then (none) else (if (ji6) > (wrap64 (Int.tdiv (1000000000000 : Int) (ji7))) then (some (0, false)) else (some (wrap64 (a0 * a1), true)))) = some (r1, r2) := by first | (rw [hji7] at H; exact H) | (simp only [hji7] at H ⊢; exact H)
   have hji7_ : (if a1 < (wrap64 (-a1)) then (wrap64 (-a1)) else a1) = ji7 := hji7
   by_cases c8 : (ji7) = 0
   ·rw [if_pos c8] at H
    exact absurd H (by simp)
   rw [if_neg c8] at H
   have c8b0 : ((ji7) == 0) = false := beq_eq_false_iff_ne.mpr c8
   have c8b1 : ((ji7) != 0) = true := bne_iff_ne.mpr c8
   by_cases c9 : (ji6) > (wrap64 (Int.tdiv (1000000000000 : Int) (ji7)))
   ·rw [if_pos c9] at H
    have c9b0 : decide ((wrap64 (Int.tdiv (1000000000000 : Int) (ji7))) < (ji6)) = true := decide_eq_true c9
    clear c9
    simp only [Option.some.injEq, Prod.mk.injEq] at H
    obtain ⟨rfl, rfl⟩ := H
    go_wp2
    go_ret2
    exact ⟨q8_0, cB0_⟩
   rw [if_neg c9] at H
   have c9b0 : decide ((wrap64 (Int.tdiv (1000000000000 : Int) (ji7))) < (ji6)) = false := decide_eq_false c9
   clear c9
   simp only [Option.some.injEq, Prod.mk.injEq] at H
   obtain ⟨rfl, rfl⟩ := H
   go_wp2
   go_ret2
   exact ⟨q8_0, cB0_⟩

end Go.Proofs.YthgmicingbjemaaDoor.PFnSums
