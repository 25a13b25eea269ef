-- Written by fprint, a program of this session, out of Lean's own print of the translation. Lean checks it.
import Derived.Test.YthgmicingbjemaaDense
import Derived.Test.YthgmicingbjemaaShort
import Derived.Test.YthgmicingbjemaaPFnJoinsx0
import Derived.Test.YthgmicingbjemaaPFnJoinsx1
namespace Go.Proofs.Ythgmicingbjemaa.PFnJoins
open Go.RowKit Go.Proofs.YthgmicingbjemaaW.PrintWords Go.Proofs.YthgmicingbjemaaW.PrintLast Go.Proofs.YthgmicingbjemaaW.PrintMore
attribute [local go_sem] max2_int min2_int max_two min_two max_three min_three max_four min_four
set_option linter.unusedVariables false
set_option maxHeartbeats 8000000
set_option maxRecDepth 100000
set_option linter.unusedSimpArgs false

/-! ### impl_SetFault: function 26 -/
mutual
def impl_SetFault.l0 : Nat → List (S42) → List (S42) → Int → Int → Option (Int)
 | 0, _, _, _, _ => none
 | k + 1, x0, x9, x10, x11 => if x11 < x10 then (if 0 ≤ x11 then (if x11 < (x9.length : Int) then ((impl_RowFault.f k ((rd_T42 x9 x11).f0)).bind fun t114 => (if t114 = 0 then ((impl_isWeight.f ((rd_T42 x9 x11).f1)).bind fun t115 => (if t115 = true then (impl_SetFault.j1 k x0 x11 x9 x10 x11 (((rd_T42 x9 x11).f1) == 0) ((rd_T42 x9 x11).f0) ((rd_T42 x9 x11).f1)) else (impl_SetFault.j1 k x0 x11 x9 x10 x11 true ((rd_T42 x9 x11).f0) ((rd_T42 x9 x11).f1)))) else (some t114))) else (none)) else (none)) else (some 0)
def impl_SetFault.j1 : Nat → List (S42) → Int → List (S42) → Int → Int → Bool → List Int → Int → Option (Int)
 | 0, _, _, _, _, _, _, _, _ => none
 | k + 1, x0, x3, x9, x10, x11, x30, x114000, x114001 => if x30 = true then (some 3) else (if x3 > 0 then (if 0 ≤ (wrap64 (x3 - 1)) then (if (wrap64 (x3 - 1)) < (x0.length : Int) then ((impl_CompareRows.f k ((rd_T42 x0 (wrap64 (x3 - 1))).f0) x114000).bind fun t117 => (if t117 ≥ 0 then (some 1) else (impl_SetFault.l0 k x0 x9 x10 (wrap64 (x11 + 1))))) else (none)) else (none)) else (impl_SetFault.l0 k x0 x9 x10 (wrap64 (x11 + 1))))
end
def impl_SetFault.f (k : Nat) (l0 : List (S42)) : Option (Int) := if (l0.length : Int) > 200 then (some 2) else (impl_SetFault.l0 k l0 l0 (l0.length : Int) 0)
theorem impl_SetFault.mono_l : ∀ k, (∀ y0 y1 y2 y3, LeO (impl_SetFault.l0 k y0 y1 y2 y3) (impl_SetFault.l0 (k + 1) y0 y1 y2 y3)) ∧ (∀ y0 y1 y2 y3 y4 y5 y6 y7, LeO (impl_SetFault.j1 k y0 y1 y2 y3 y4 y5 y6 y7) (impl_SetFault.j1 (k + 1) y0 y1 y2 y3 y4 y5 y6 y7))
 | 0 => ⟨fun _ _ _ _ r h => by simp [impl_SetFault.l0] at h, fun _ _ _ _ _ _ _ _ r h => by simp [impl_SetFault.j1] at h⟩
 | k + 1 => by
  obtain ⟨ih0, ih1⟩ := impl_SetFault.mono_l k
  refine ⟨?_, ?_⟩
  ·intro y0 y1 y2 y3
   unfold impl_SetFault.l0
   repeat' first
   | (with_reducible exact ih0 _ _ _ _)
   | (with_reducible exact ih1 _ _ _ _ _ _ _ _)
   | (with_reducible exact impl_CompareRows.mono _ _ _)
   | (with_reducible exact impl_RowFault.mono _ _)
   | (with_reducible exact LeO.refl _)
   | (with_reducible exact LeO.none _)
   | (with_reducible refine LeO.ite ?_ ?_)
   | (with_reducible refine LeO.bind ?_ (fun _ => ?_))
   | refine LeO.ite ?_ ?_
   | refine LeO.bind ?_ (fun _ => ?_)
  ·intro y0 y1 y2 y3 y4 y5 y6 y7
   unfold impl_SetFault.j1
   repeat' first
   | (with_reducible exact ih0 _ _ _ _)
   | (with_reducible exact ih1 _ _ _ _ _ _ _ _)
   | (with_reducible exact impl_CompareRows.mono _ _ _)
   | (with_reducible exact impl_RowFault.mono _ _)
   | (with_reducible exact LeO.refl _)
   | (with_reducible exact LeO.none _)
   | (with_reducible refine LeO.ite ?_ ?_)
   | (with_reducible refine LeO.bind ?_ (fun _ => ?_))
   | refine LeO.ite ?_ ?_
   | refine LeO.bind ?_ (fun _ => ?_)
theorem impl_SetFault.mono : ∀ a0 k, LeO (impl_SetFault.f k a0) (impl_SetFault.f (k + 1) a0) := by
 intro a0 k
 obtain ⟨ih0, ih1⟩ := impl_SetFault.mono_l k
 unfold impl_SetFault.f
 repeat' first
   | (with_reducible exact ih0 _ _ _ _)
   | (with_reducible exact ih1 _ _ _ _ _ _ _ _)
   | (with_reducible exact impl_CompareRows.mono _ _ _)
   | (with_reducible exact impl_RowFault.mono _ _)
   | (with_reducible exact LeO.refl _)
   | (with_reducible exact LeO.none _)
   | (with_reducible refine LeO.ite ?_ ?_)
   | (with_reducible refine LeO.bind ?_ (fun _ => ?_))
   | refine LeO.ite ?_ ?_
   | refine LeO.bind ?_ (fun _ => ?_)
def impl_SetFault.T11 : Bool × List (List Nat × List Nat) := (true, [([], []), ([0], [0]), ([1], [1]), ([2], [2]), ([2], [2]), ([4, 2], [2, 4]), ([3, 5, 2], [2, 3, 5]), ([6, 2], [2, 6]), ([7, 2], [2, 7]), ([2], [2]), ([9, 2], [2, 9]), ([8, 10, 2, 2], [2, 8, 10]), ([11, 2], [2, 11]), ([2, 12], [2, 12])])
def impl_SetFault.B11 : List Nat := [0, 1, 3, 7, 7, 23, 63, 127, 255, 7, 519, 2047, 4095, 8191]
theorem impl_SetFault.tab11 : rtab .any (opsOf Try.f26 11) = impl_SetFault.T11 := by kernel_rfl
theorem impl_SetFault.bits11 : waitsOk impl_SetFault.T11.2 impl_SetFault.B11 = true := by kernel_rfl
theorem impl_SetFault.calls (k : Nat) (A0 : Option Addr) (c0 : Nat) (l0 : List (S42)) (r : Int) (w : World) (hr0 : Kd.C k42 w A0 l0.length l0) (hc0 : l0.length ≤ c0) (h : impl_SetFault.f k l0 = some r) :
  Calls Try.prog 26 #[.slice A0 l0.length c0] w fun e w' => e = .returned (.int .i64 r) ∧ Below w.heap.size w w' := by
 have hu42 := Try.underlying42
 have HR0 := Aside0.mk hr0
 have HC0 := Aside0.mk hc0
 clear hr0 hc0
 have HB := Aside0.mk (Below.refl w.heap.size w)
 have H : (if (l0.length : Int) > 200 then (some 2) else (impl_SetFault.l0 k l0 l0 (l0.length : Int) 0)) = some r := h
 clear h
 by_cases c2 : (l0.length : Int) > 200
 ·rw [if_pos c2] at H
  have c2b0 : decide (200 < (l0.length : Int)) = true := decide_eq_true c2
  have c2b1 : decide (200 < l0.length) = true := decide_eq_true (by omega)
  clear c2
  obtain rfl := Option.some.inj H
  go_enter Try.func26, Try.ntmps26
  go_wp2
  go_ret
  exact ⟨ce_, cB0_⟩
 rw [if_neg c2] at H
 have c2b0 : decide (200 < (l0.length : Int)) = false := decide_eq_false c2
 have c2b1 : decide (200 < l0.length) = false := decide_eq_false (by omega)
 clear c2
 have H' := Aside0.mk H
 clear H
 go_enter Try.func26, Try.ntmps26
 go_wp2
 go_loopg [11] k (fun kq v11 w' => ∃ (x11_1 : Int), v11 = .int .i64 x11_1 ∧ Aside0 (impl_SetFault.l0 kq l0 l0 (l0.length : Int) x11_1 = some r) ∧ Aside0 (kq ≤ k) ∧ Aside0 (Below w.heap.size w w'))
 case atStart => exact ⟨(0), cs_, H', ⟨Nat.le_refl _⟩, ⟨cB0_⟩⟩
 case round =>
  clear H'
  try clear c2
  try clear c2b0
  try clear c2b1
  try clear p2
  obtain ⟨x11_1, rfl, HA, HK1, HB⟩ := hrel
  cases gk with
  | zero => exact absurd HA.out (by simp [impl_SetFault.l0])
  | succ k1 =>
   have H := HA.out
   clear HA
   simp only [impl_SetFault.l0] at H
   by_cases c3 : x11_1 < (l0.length : Int)
   rotate_left
   ·rw [if_neg c3] at H
    have c3b0 := decide_eq_false c3
    clear c3
    obtain rfl := Option.some.inj H
    go_wp2
    go_ret
    exact ⟨ce_, cB0_⟩
   rw [if_pos c3] at H
   have c3b0 := decide_eq_true c3
   clear c3
   by_cases c4 : 0 ≤ x11_1
   rotate_left
   ·rw [if_neg c4] at H
    exact absurd H (by simp)
   rw [if_pos c4] at H
   have c4b0 := decide_eq_true c4
   clear c4
   by_cases c5 : x11_1 < (l0.length : Int)
   rotate_left
   ·rw [if_neg c5] at H
    exact absurd H (by simp)
   rw [if_pos c5] at H
   have c5b0 := decide_eq_true c5
   clear c5
   obtain ⟨t114, A6, H⟩ := bnd_ H
   try dsimp only at H
   by_cases c7 : t114 = 0
   rotate_left
   ·rw [if_neg c7] at H
    have c7b0 : (t114 == 0) = false := beq_eq_false_iff_ne.mpr c7
    have c7b1 : (t114 != 0) = true := bne_iff_ne.mpr c7
    obtain rfl := Option.some.inj H
    have p112 : 0 ≤ (x11_1 : Int) := cd_
    have q112 : x11_1 < (l0.length : Int) := cd_
    obtain ⟨ad112, A112_0, c112_0, e112, hx112_0, hx112_1, hl112_0, hi112_0⟩ := at_T42 HR0.out x11_1 p112 q112
    cases e112
    replace hx112_0 := pw_cell_below HB.out hx112_0
    replace hx112_1 := pw_cell_below HB.out hx112_1
    have HR112_0 := Aside0.mk hi112_0
    have HC112_0 := Aside0.mk hl112_0
    clear hi112_0 hl112_0
    replace p112 := eq_true p112
    replace q112 := eq_true q112
    go_wp2_with (first | (refine bx_ 4 #[.slice none 0 0, .int .i64 0] 42 ?_; intro gb113 hg w27 hbox hb; have BK113 := Aside0.mk (hbox); have GW113 := Aside0.mk ((by rw [hg]; exact (below_size cB0_) : w.heap.size ≤ gb113)); have GE113 := Aside0.mk ((by rw [hg]; exact (below_size cB0_) : w.heap.size ≤ gb113)); replace HB := Aside0.mk (below_step cB0_ hb); clear hb hbox hg; obtain ⟨hcz28_0, hcz28_1, hfz28_0, hfz28_1⟩ := cells2 BK113.out) | (refine gl_ 48 (some 18) Try.func48 #[.slice A112_0 ((rd_T42 l0 x11_1).f0).length c112_0] ?_; (with_reducible refine (impl_RowFault.calls k1 _ _ ((rd_T42 l0 x11_1).f0) t114 _ ?side1 ?side2 A6.out).mono ?_); (case side1 => exact (by exact Kd.C_below HR112_0.out (cB1_ GE113.out))); (case side2 => exact HC112_0.out); rintro e w' ⟨rfl, ⟨nd, rfl⟩⟩; refine ⟨_, rfl, ?_⟩))
    go_ret
    exact ⟨ce_, cB1_ GE113.out⟩
   rw [if_pos c7] at H
   have c7b0 : (t114 == 0) = true := beq_iff_eq.mpr c7
   have c7b1 : (t114 != 0) = false := bne_eq_false_iff_eq.mpr c7
   clear c7
   have HC8 := Aside0.mk H
   clear H
   have p112 : 0 ≤ (x11_1 : Int) := cd_
   have q112 : x11_1 < (l0.length : Int) := cd_
   obtain ⟨ad112, A112_0, c112_0, e112, hx112_0, hx112_1, hl112_0, hi112_0⟩ := at_T42 HR0.out x11_1 p112 q112
   cases e112
   replace hx112_0 := pw_cell_below HB.out hx112_0
   replace hx112_1 := pw_cell_below HB.out hx112_1
   have HR112_0 := Aside0.mk hi112_0
   have HC112_0 := Aside0.mk hl112_0
   clear hi112_0 hl112_0
   replace p112 := eq_true p112
   replace q112 := eq_true q112
   go_upto_region 9 with (first | (refine bx_ 4 #[.slice none 0 0, .int .i64 0] 42 ?_; intro gb113 hg w9 hbox hb; have BK113 := Aside0.mk (hbox); have GW113 := Aside0.mk ((by rw [hg]; exact (below_size cB0_) : w.heap.size ≤ gb113)); have GE113 := Aside0.mk ((by rw [hg]; exact (below_size cB0_) : w.heap.size ≤ gb113)); replace HB := Aside0.mk (below_step cB0_ hb); clear hb hbox hg; obtain ⟨hcz10_0, hcz10_1, hfz10_0, hfz10_1⟩ := cells2 BK113.out) | (refine gl_ 48 (some 18) Try.func48 #[.slice A112_0 ((rd_T42 l0 x11_1).f0).length c112_0] ?_; (with_reducible refine (impl_RowFault.calls k1 _ _ ((rd_T42 l0 x11_1).f0) t114 _ ?side1 ?side2 A6.out).mono ?_); (case side1 => exact (by exact Kd.C_below HR112_0.out (cB1_ GE113.out))); (case side2 => exact HC112_0.out); rintro e w' ⟨rfl, ⟨nd, rfl⟩⟩; refine ⟨_, rfl, ?_⟩))
   (try simp only [Act.put, List.setIfInBounds_toArray, List.set_cons_zero, List.set_cons_succ])
   go_cut [30] (fun v30 wc => ∃ (kq : Nat) (x30_7 : Bool), v30 = .bool x30_7 ∧ Aside0 (impl_SetFault.j1 kq l0 x11_1 l0 (l0.length : Int) x11_1 x30_7 ((rd_T42 l0 x11_1).f0) ((rd_T42 l0 x11_1).f1) = some r) ∧ Aside0 (kq ≤ k1) ∧ Aside0 (wc.heap[gb113]? = some (.cells #[(.slice A112_0 ((rd_T42 l0 x11_1).f0).length c112_0), .int .i64 ((rd_T42 l0 x11_1).f1)] 42 (0, 0))) ∧ Aside0 (Below w.heap.size w wc))
   case first =>
    have H := HC8.out
    clear HC8
    obtain ⟨t115, A11, H⟩ := bnd_ H
    try dsimp only at H
    by_cases c12 : t115 = true
    ·subst c12
     rw [if_pos rfl] at H
     have H' := Aside0.mk H
     clear H
     obtain ⟨hcz13_0, hcz13_1, hfz13_0, hfz13_1⟩ := cells2 BK113.out
     go_wp2_with (first | (refine gl_ 49 (some 24) Try.func49 #[.int .i64 ((rd_T42 l0 x11_1).f1)] ?_; (with_reducible refine (impl_isWeight.calls ((rd_T42 l0 x11_1).f1) true _ A11.out).mono ?_); rintro e w' ⟨rfl, ⟨nd, rfl⟩⟩; refine ⟨_, rfl, ?_⟩))
     go_meet
     case rel => exact ⟨_, ((((rd_T42 l0 x11_1).f1) == 0)), cs_, H', ⟨by have := HK1.out; first | omega | exact Nat.le_refl _⟩, ⟨by refine cO_ ?_; refine blk_put (cs := #[.slice A112_0 ((rd_T42 l0 x11_1).f0).length c112_0, .int .i64 0]) ?_ 1 _ rfl; refine cO_ ?_; refine blk_put (cs := #[.slice none 0 0, .int .i64 0]) ?_ 0 _ rfl; refine cO_ ?_; exact BK113.out⟩, ⟨cB1_ GE113.out⟩⟩
    replace c12 := Bool.eq_false_iff.mpr c12
    subst c12
    rw [if_neg (show ¬ (false = true) by decide)] at H
    have H' := Aside0.mk H
    clear H
    obtain ⟨hcz14_0, hcz14_1, hfz14_0, hfz14_1⟩ := cells2 BK113.out
    go_wp2_with (first | (refine gl_ 49 (some 24) Try.func49 #[.int .i64 ((rd_T42 l0 x11_1).f1)] ?_; (with_reducible refine (impl_isWeight.calls ((rd_T42 l0 x11_1).f1) false _ A11.out).mono ?_); rintro e w' ⟨rfl, ⟨nd, rfl⟩⟩; refine ⟨_, rfl, ?_⟩))
    go_meet
    case rel => exact ⟨_, (true), cs_, H', ⟨by have := HK1.out; first | omega | exact Nat.le_refl _⟩, ⟨by refine cO_ ?_; refine blk_put (cs := #[.slice A112_0 ((rd_T42 l0 x11_1).f0).length c112_0, .int .i64 0]) ?_ 1 _ rfl; refine cO_ ?_; refine blk_put (cs := #[.slice none 0 0, .int .i64 0]) ?_ 0 _ rfl; refine cO_ ?_; exact BK113.out⟩, ⟨cB1_ GE113.out⟩⟩
   case rest =>
    clear HC8
    try clear c1
    try clear p1
    try clear q1
    try clear hx1
    try clear c2
    try clear c2b0
    try clear c2b1
    try clear p2
    try clear c3
    try clear c3b0
    try clear c4
    try clear c4b0
    try clear c5
    try clear c5b0
    try clear c7
    try clear c7b0
    try clear c7b1
    try clear c11
    try clear p11
    try clear q11
    try clear hx11
    try clear c12
    try clear hcz10_0
    try clear hcz10_1
    try clear hcz13_0
    try clear hcz13_1
    try clear hcz14_0
    try clear hcz14_1
    try clear hfz10_0
    try clear hfz10_1
    try clear hfz13_0
    try clear hfz13_1
    try clear hfz14_0
    try clear hfz14_1
    try clear hx112_0
    try clear hx112_1
    try clear p112
    try clear p2
    try clear q112
    obtain ⟨kq, x30_7, rfl, HA, HJ7, BK113, HB⟩ := hcut
    cases kq with
    | zero => exact absurd HA.out (by simp [impl_SetFault.j1])
    | succ kj7 =>
     have H := HA.out
     clear HA
     simp only [impl_SetFault.j1] at H
     by_cases c15 : x30_7 = true
     ·subst c15
      rw [if_pos rfl] at H
      obtain rfl := Option.some.inj H
      go_wp2
      go_ret
      exact ⟨ce_, cB1_ GE113.out⟩
     replace c15 := Bool.eq_false_iff.mpr c15
     subst c15
     rw [if_neg (show ¬ (false = true) by decide)] at H
     by_cases c16 : x11_1 > 0
     rotate_left
     ·rw [if_neg c16] at H
      have c16b0 : decide (0 < x11_1) = false := decide_eq_false c16
      clear c16
      have H' := Aside0.mk H
      clear H
      try go_wp2
      replace BK113 := Aside0.mk (blk_drew BK113.out)
      replace HB := Aside0.mk (below_drew1 HB.out)
      refine start_ (n := 14) (S := fun w' => True) (ds := []) (bl 14 0) (by kernel_rfl) rfl rfl trivial (fun hHeld => ?_); refine with_tabW impl_SetFault.tab11 impl_SetFault.bits11 (fun HT_ HW_ => ?_)
      generalize wc.drew = w26 at BK113 HB hHeld ⊢
      refine pv_ 0 31 (bl 14 1) ?_
      refine pv_ 1 32 (bl 14 3) ?_
      refine pv_ 2 33 (bl 14 7) ?_
      refine uv_ 3 34 (bl 14 15) ?_
      refine uv_ 4 35 (bl 14 31) ?_
      refine uv_ 5 36 (bl 14 63) ?_
      refine uv_ 6 37 (bl 14 127) ?_
      refine uv_ 7 38 (bl 14 255) ?_
      refine uv_ 8 39 (bl 14 511) ?_
      refine uv_ 9 40 (bl 14 1023) ?_
      refine uv_ 10 41 (bl 14 2047) ?_
      refine uv_ 11 42 (bl 14 4095) ?_
      refine uv_ 12 43 (bl 14 8191) ?_
      refine pv_ 13 44 (bl 14 16383) ?_
      refine done_ (done_of HT_.out (by kernel_rfl)) ?_
      try go_wp2
      go_roundg kj7
      case measure => have := HK1.out; have := HJ7.out; omega
      case rel => exact ⟨(wrap64 (x11_1 + 1)), cs_, H', ⟨by have := HK1.out; have := HJ7.out; omega⟩, ⟨cB1_ GE113.out⟩⟩
     rw [if_pos c16] at H
     have c16b0 : decide (0 < x11_1) = true := decide_eq_true c16
     clear c16
     obtain ⟨ji17, hji17⟩ : ∃ j_ : Int, (wrap64 (x11_1 - 1)) = j_ := ⟨_, rfl⟩
     replace H : (if 0 ≤ (ji17) then (if (ji17) < (l0.length : Int) then ((impl_CompareRows.f kj7 ((rd_T42 l0 (ji17)).f0) ((rd_T42 l0 x11_1).f0)).bind fun t117 => (if t117 ≥ 0 then (some 1) else (impl_SetFault.l0 kj7 l0 l0 (l0.length : Int) (wrap64 (x11_1 + 1))))) else (none)) else (none)) = some r := by first | (rw [hji17] at H; exact H) | (simp only [hji17] at H ⊢; exact H)
     have hji17w : (IntKind.i64.wrap (x11_1 - 1)) = ji17 := (i64_w _).trans hji17
     by_cases c18 : 0 ≤ (ji17)
     rotate_left
     ·rw [if_neg c18] at H
      exact absurd H (by simp)
     rw [if_pos c18] at H
     have c18b0 := decide_eq_true c18
     clear c18
     by_cases c19 : (ji17) < (l0.length : Int)
     rotate_left
     ·rw [if_neg c19] at H
      exact absurd H (by simp)
     rw [if_pos c19] at H
     have c19b0 := decide_eq_true c19
     clear c19
     obtain ⟨t117, A20, H⟩ := bnd_ H
     try dsimp only at H
     by_cases c21 : t117 ≥ 0
     ·rw [if_pos c21] at H
      have c21b0 : decide (0 ≤ t117) = true := decide_eq_true c21
      clear c21
      obtain rfl := Option.some.inj H
      try go_wp2
      replace BK113 := Aside0.mk (blk_drew BK113.out)
      replace HB := Aside0.mk (below_drew1 HB.out)
      have p116 : 0 ≤ ((ji17) : Int) := cd_
      have q116 : (ji17) < (l0.length : Int) := cd_
      obtain ⟨ad116, A116_0, c116_0, e116, hx116_0, hx116_1, hl116_0, hi116_0⟩ := at_T42 HR0.out (ji17) p116 q116
      have hw116_1 := hx116_1
      have hw116_0 := hx116_0
      obtain rfl : ad112 = ad116 := (by injection e116)
      replace hx116_0 := pw_cell_below HB.out hx116_0
      replace hx116_1 := pw_cell_below HB.out hx116_1
      have HR116_0 := Aside0.mk hi116_0
      have HC116_0 := Aside0.mk hl116_0
      clear hi116_0 hl116_0
      replace p116 := eq_true p116
      replace q116 := eq_true q116
      refine start_ (n := 14) (S := fun w' => w'.cell? ⟨gb113, 0, none⟩ = some (.slice A112_0 ((rd_T42 l0 x11_1).f0).length c112_0) ∧ w'.cell? ⟨gb113, 1, none⟩ = some (.int .i64 ((rd_T42 l0 x11_1).f1)) ∧ w'.cell? (ad112.add (((ji17)).toNat * 2)) = some (.slice A116_0 ((rd_T42 l0 (ji17)).f0).length c116_0) ∧ w'.cell? ⟨(ad112.add (((ji17)).toNat * 2)).block, (ad112.add (((ji17)).toNat * 2)).off + 1, none⟩ = some (.int .i64 ((rd_T42 l0 (ji17)).f1))) (ds := []) (bl 14 0) (by kernel_rfl) rfl rfl ⟨(blk_cell BK113.out 0).trans rfl, (blk_cell BK113.out 1).trans rfl, (pw_cell_below HB.out hw116_0), (pw_cell_below HB.out hw116_1)⟩ (fun hHeld => ?_); refine with_tabW impl_SetFault.tab11 impl_SetFault.bits11 (fun HT_ HW_ => ?_)
      generalize wc.drew = w22 at BK113 HB HR116_0 hx116_0 hx116_1 hHeld ⊢
      refine pv_ 0 31 (bl 14 1) ?_
      refine pv_ 1 32 (bl 14 3) ?_
      refine pv_ 2 33 (bl 14 7) ?_
      refine pv_ 3 34 (bl 14 15) ?_
      refine pv_ 4 35 (bl 14 31) ?_
      refine pv_ 5 36 (bl 14 63) ?_
      refine pv_ 6 37 (bl 14 127) ?_
      refine pv_ 7 38 (bl 14 255) ?_
      refine pv_ 9 40 (bl 14 767) ?_
      refine tv_ 8 39 (bl 14 1023) rfl hHeld (fun w' s_ => by obtain ⟨s0, s1, s2, s3⟩ := s_; go_simp; with_reducible rfl) ?_
      refine tv_ 10 41 (bl 14 2047) rfl hHeld (fun w' s_ => by obtain ⟨s0, s1, s2, s3⟩ := s_; go_simp; with_reducible rfl) ?_
      refine ov_ 11 42 (bl 14 4095) (fun K hK => ?_)
      refine goes_ Try.func25 (by kernel_rfl) rfl #[.slice A116_0 ((rd_T42 l0 (ji17)).f0).length c116_0, .slice A112_0 ((rd_T42 l0 x11_1).f0).length c112_0] (by rfl) rfl rfl (by (try simp only [List.map_toArray, List.map_cons, List.map_nil]); first | done | (simp only [hji17]; rfl) | rfl | (simp only [List.length_drop, List.length_take]; rfl)) ?_
      with_reducible refine (impl_CompareRows.calls kj7 _ _ ((rd_T42 l0 (ji17)).f0) _ _ ((rd_T42 l0 x11_1).f0) t117 _ ?side1 ?side2 ?side3 ?side4 A20.out).mono ?_
      (case side1 => exact cC_ (Kd.C_below HR116_0.out HB.out))
      (case side2 => exact HC116_0.out)
      (case side3 => exact cC_ (Kd.C_below HR112_0.out HB.out))
      (case side4 => exact HC112_0.out)
      rintro e w23 ⟨rfl, hb⟩
      refine ⟨_, rfl, ?_⟩
      replace BK113 := Aside0.mk (blk_below (g := gb113) (o := .cells #[.slice A112_0 ((rd_T42 l0 x11_1).f0).length c112_0, .int .i64 ((rd_T42 l0 x11_1).f1)] 42 (0, 0)) (cO_ BK113.out) hb)
      replace HB := Aside0.mk (below_step (cB1_ GE113.out) hb)
      (try clear hb)
      (try clear hb2)
      (try clear hk)
      (try clear hi)
      refine hK.out _ _ ⟨(blk_cell BK113.out 0).trans rfl, (blk_cell BK113.out 1).trans rfl, (pw_cell_below HB.out hw116_0), (pw_cell_below HB.out hw116_1)⟩ (fun hHeld => ?_)
      clear hK K
      refine nm_ (some 42) ?_
      refine pv_ 12 43 (bl 14 8191) ?_
      refine pv_ 13 44 (bl 14 16383) ?_
      refine done_ (done_of HT_.out (by kernel_rfl)) ?_
      try go_wp2
      go_ret
      exact ⟨by first | rfl | (simp [errW_none, errW_some] <;> rfl) | (simp only [← hji17]; first | rfl | (simp [errW_none, errW_some] <;> rfl)) | (simp [*, errW_none, errW_some] <;> rfl), cB1_ GE113.out⟩
     rw [if_neg c21] at H
     have c21b0 : decide (0 ≤ t117) = false := decide_eq_false c21
     clear c21
     have H' := Aside0.mk H
     clear H
     try go_wp2
     replace BK113 := Aside0.mk (blk_drew BK113.out)
     replace HB := Aside0.mk (below_drew1 HB.out)
     have p116 : 0 ≤ ((ji17) : Int) := cd_
     have q116 : (ji17) < (l0.length : Int) := cd_
     obtain ⟨ad116, A116_0, c116_0, e116, hx116_0, hx116_1, hl116_0, hi116_0⟩ := at_T42 HR0.out (ji17) p116 q116
     have hw116_1 := hx116_1
     have hw116_0 := hx116_0
     obtain rfl : ad112 = ad116 := (by injection e116)
     replace hx116_0 := pw_cell_below HB.out hx116_0
     replace hx116_1 := pw_cell_below HB.out hx116_1
     have HR116_0 := Aside0.mk hi116_0
     have HC116_0 := Aside0.mk hl116_0
     clear hi116_0 hl116_0
     replace p116 := eq_true p116
     replace q116 := eq_true q116
     refine start_ (n := 14) (S := fun w' => w'.cell? ⟨gb113, 0, none⟩ = some (.slice A112_0 ((rd_T42 l0 x11_1).f0).length c112_0) ∧ w'.cell? ⟨gb113, 1, none⟩ = some (.int .i64 ((rd_T42 l0 x11_1).f1)) ∧ w'.cell? (ad112.add (((ji17)).toNat * 2)) = some (.slice A116_0 ((rd_T42 l0 (ji17)).f0).length c116_0) ∧ w'.cell? ⟨(ad112.add (((ji17)).toNat * 2)).block, (ad112.add (((ji17)).toNat * 2)).off + 1, none⟩ = some (.int .i64 ((rd_T42 l0 (ji17)).f1))) (ds := []) (bl 14 0) (by kernel_rfl) rfl rfl ⟨(blk_cell BK113.out 0).trans rfl, (blk_cell BK113.out 1).trans rfl, (pw_cell_below HB.out hw116_0), (pw_cell_below HB.out hw116_1)⟩ (fun hHeld => ?_); refine with_tabW impl_SetFault.tab11 impl_SetFault.bits11 (fun HT_ HW_ => ?_)
     generalize wc.drew = w24 at BK113 HB HR116_0 hx116_0 hx116_1 hHeld ⊢
     refine pv_ 0 31 (bl 14 1) ?_
     refine pv_ 1 32 (bl 14 3) ?_
     refine pv_ 2 33 (bl 14 7) ?_
     refine pv_ 3 34 (bl 14 15) ?_
     refine pv_ 4 35 (bl 14 31) ?_
     refine pv_ 5 36 (bl 14 63) ?_
     refine pv_ 6 37 (bl 14 127) ?_
     refine pv_ 7 38 (bl 14 255) ?_
     refine pv_ 9 40 (bl 14 767) ?_
     refine tv_ 8 39 (bl 14 1023) rfl hHeld (fun w' s_ => by obtain ⟨s0, s1, s2, s3⟩ := s_; go_simp; with_reducible rfl) ?_
     refine tv_ 10 41 (bl 14 2047) rfl hHeld (fun w' s_ => by obtain ⟨s0, s1, s2, s3⟩ := s_; go_simp; with_reducible rfl) ?_
     refine ov_ 11 42 (bl 14 4095) (fun K hK => ?_)
     refine goes_ Try.func25 (by kernel_rfl) rfl #[.slice A116_0 ((rd_T42 l0 (ji17)).f0).length c116_0, .slice A112_0 ((rd_T42 l0 x11_1).f0).length c112_0] (by rfl) rfl rfl (by (try simp only [List.map_toArray, List.map_cons, List.map_nil]); first | done | (simp only [hji17]; rfl) | rfl | (simp only [List.length_drop, List.length_take]; rfl)) ?_
     with_reducible refine (impl_CompareRows.calls kj7 _ _ ((rd_T42 l0 (ji17)).f0) _ _ ((rd_T42 l0 x11_1).f0) t117 _ ?side1 ?side2 ?side3 ?side4 A20.out).mono ?_
     (case side1 => exact cC_ (Kd.C_below HR116_0.out HB.out))
     (case side2 => exact HC116_0.out)
     (case side3 => exact cC_ (Kd.C_below HR112_0.out HB.out))
     (case side4 => exact HC112_0.out)
     rintro e w25 ⟨rfl, hb⟩
     refine ⟨_, rfl, ?_⟩
     replace BK113 := Aside0.mk (blk_below (g := gb113) (o := .cells #[.slice A112_0 ((rd_T42 l0 x11_1).f0).length c112_0, .int .i64 ((rd_T42 l0 x11_1).f1)] 42 (0, 0)) (cO_ BK113.out) hb)
     replace HB := Aside0.mk (below_step (cB1_ GE113.out) hb)
     (try clear hb)
     (try clear hb2)
     (try clear hk)
     (try clear hi)
     refine hK.out _ _ ⟨(blk_cell BK113.out 0).trans rfl, (blk_cell BK113.out 1).trans rfl, (pw_cell_below HB.out hw116_0), (pw_cell_below HB.out hw116_1)⟩ (fun hHeld => ?_)
     clear hK K
     refine nm_ (some 42) ?_
     refine pv_ 12 43 (bl 14 8191) ?_
     refine pv_ 13 44 (bl 14 16383) ?_
     refine done_ (done_of HT_.out (by kernel_rfl)) ?_
     try go_wp2
     go_roundg kj7
     case measure => have := HK1.out; have := HJ7.out; omega
     case rel => exact ⟨(wrap64 (x11_1 + 1)), cs_, H', ⟨by have := HK1.out; have := HJ7.out; omega⟩, ⟨cB1_ GE113.out⟩⟩

/-! ### slices_Equal_int64_int64: function 86 -/
def slices_Equal_int64_int64.l0 : Nat → List Int → List Int → Int → Int → Option (Bool)
 | 0, _, _, _, _ => none
 | k + 1, x0, x1, x12, x13 => if x13 < x12 then (if 0 ≤ x13 then (if x13 < (x0.length : Int) then (if x13 < (x1.length : Int) then (if (rd x0 x13) = (rd x1 x13) then (slices_Equal_int64_int64.l0 k x0 x1 x12 (wrap64 (x13 + 1))) else (some false)) else (none)) else (none)) else (none)) else (some true)
def slices_Equal_int64_int64.f (k : Nat) (l0 : List Int) (l1 : List Int) : Option (Bool) := if (l0.length : Int) = (l1.length : Int) then (slices_Equal_int64_int64.l0 k l0 l1 (l0.length : Int) 0) else (some false)
theorem slices_Equal_int64_int64.mono_l : ∀ k, (∀ y0 y1 y2 y3, LeO (slices_Equal_int64_int64.l0 k y0 y1 y2 y3) (slices_Equal_int64_int64.l0 (k + 1) y0 y1 y2 y3))
 | 0 => fun _ _ _ _ r h => by simp [slices_Equal_int64_int64.l0] at h
 | k + 1 => by
  have ih0 := slices_Equal_int64_int64.mono_l k
  ·intro y0 y1 y2 y3
   unfold slices_Equal_int64_int64.l0
   repeat' first
   | (with_reducible exact ih0 _ _ _ _)
   | (with_reducible exact LeO.refl _)
   | (with_reducible exact LeO.none _)
   | (with_reducible refine LeO.ite ?_ ?_)
   | (with_reducible refine LeO.bind ?_ (fun _ => ?_))
   | refine LeO.ite ?_ ?_
   | refine LeO.bind ?_ (fun _ => ?_)
theorem slices_Equal_int64_int64.mono : ∀ a0 a1 k, LeO (slices_Equal_int64_int64.f k a0 a1) (slices_Equal_int64_int64.f (k + 1) a0 a1) := by
 intro a0 a1 k
 have ih0 := slices_Equal_int64_int64.mono_l k
 unfold slices_Equal_int64_int64.f
 repeat' first
   | (with_reducible exact ih0 _ _ _ _)
   | (with_reducible exact LeO.refl _)
   | (with_reducible exact LeO.none _)
   | (with_reducible refine LeO.ite ?_ ?_)
   | (with_reducible refine LeO.bind ?_ (fun _ => ?_))
   | refine LeO.ite ?_ ?_
   | refine LeO.bind ?_ (fun _ => ?_)
theorem slices_Equal_int64_int64.calls (k : Nat) (A0 : Option Addr) (c0 : Nat) (l0 : List Int) (A1 : Option Addr) (c1 : Nat) (l1 : List Int) (r : Bool) (w : World) (hr0 : Kd.C (Kd.int .i64) w A0 l0.length l0) (hc0 : l0.length ≤ c0) (hr1 : Kd.C (Kd.int .i64) w A1 l1.length l1) (hc1 : l1.length ≤ c1) (h : slices_Equal_int64_int64.f k l0 l1 = some r) :
  Calls Try.prog 86 #[.slice A0 l0.length c0, .slice A1 l1.length c1] w fun e w' => e = .returned (.bool r) ∧ Drawn0 w w' := by
 have HR0 := Aside0.mk hr0
 have HC0 := Aside0.mk hc0
 clear hr0 hc0
 have HR1 := Aside0.mk hr1
 have HC1 := Aside0.mk hc1
 clear hr1 hc1
 have H : (if (l0.length : Int) = (l1.length : Int) then (slices_Equal_int64_int64.l0 k l0 l1 (l0.length : Int) 0) else (some false)) = some r := h
 clear h
 by_cases c3 : (l0.length : Int) = (l1.length : Int)
 rotate_left
 ·rw [if_neg c3] at H
  have c3b0 : ((l0.length : Int) == (l1.length : Int)) = false := beq_eq_false_iff_ne.mpr c3
  have c3b1 : ((l0.length : Int) != (l1.length : Int)) = true := bne_iff_ne.mpr c3
  have c3b2 : (l0.length == l1.length) = false := by first | simpa using c3 | (simp at c3 ⊢; omega)
  obtain rfl := Option.some.inj H
  go_enter Try.func86, Try.ntmps86
  go_wp2
  repeat (go_quiet (fail); try go_wp2)
  go_ret
  exact ⟨cs_, cD_⟩
 rw [if_pos c3] at H
 have c3b0 : ((l0.length : Int) == (l1.length : Int)) = true := beq_iff_eq.mpr c3
 have c3b1 : ((l0.length : Int) != (l1.length : Int)) = false := bne_eq_false_iff_eq.mpr c3
 have c3b2 : (l0.length == l1.length) = true := by first | simpa using c3 | (simp at c3 ⊢; omega)
 clear c3
 have H' := Aside0.mk H
 clear H
 go_enter Try.func86, Try.ntmps86
 go_wp2
 repeat (go_quiet (fail); try go_wp2)
 go_loopg [13] k (fun kq v13 w' => ∃ (x13_1 : Int), v13 = .int .i64 x13_1 ∧ Aside0 (slices_Equal_int64_int64.l0 kq l0 l1 (l0.length : Int) x13_1 = some r) ∧ Aside0 (kq ≤ k) ∧ Drawn0 w w')
 case atStart => exact ⟨(0), cs_, H', ⟨Nat.le_refl _⟩, cD_⟩
 case round =>
  clear H'
  try clear c1
  try clear p2
  try clear c3
  try clear c3b0
  try clear c3b1
  try clear c3b2
  obtain ⟨x13_1, rfl, HA, HK1, ⟨m1, rfl⟩⟩ := hrel
  cases gk with
  | zero => exact absurd HA.out (by simp [slices_Equal_int64_int64.l0])
  | succ k1 =>
   have H := HA.out
   clear HA
   simp only [slices_Equal_int64_int64.l0] at H
   by_cases c4 : x13_1 < (l0.length : Int)
   rotate_left
   ·rw [if_neg c4] at H
    have c4b0 := decide_eq_false c4
    clear c4
    obtain rfl := Option.some.inj H
    go_wp2
    repeat (go_quiet (fail); try go_wp2)
    go_ret
    exact ⟨cs_, cD_⟩
   rw [if_pos c4] at H
   have c4b0 := decide_eq_true c4
   clear c4
   by_cases c5 : 0 ≤ x13_1
   rotate_left
   ·rw [if_neg c5] at H
    exact absurd H (by simp)
   rw [if_pos c5] at H
   have c5b0 := decide_eq_true c5
   clear c5
   by_cases c6 : x13_1 < (l0.length : Int)
   rotate_left
   ·rw [if_neg c6] at H
    exact absurd H (by simp)
   rw [if_pos c6] at H
   have c6b0 := decide_eq_true c6
   clear c6
   by_cases c7 : x13_1 < (l1.length : Int)
   rotate_left
   ·rw [if_neg c7] at H
    exact absurd H (by simp)
   rw [if_pos c7] at H
   have c7b0 := decide_eq_true c7
   clear c7
   by_cases c8 : (rd l0 x13_1) = (rd l1 x13_1)
   ·rw [if_pos c8] at H
    have c8b0 : ((rd l0 x13_1) == (rd l1 x13_1)) = true := beq_iff_eq.mpr c8
    have c8b1 : ((rd l0 x13_1) != (rd l1 x13_1)) = false := bne_eq_false_iff_eq.mpr c8
    clear c8
    have H' := Aside0.mk H
    clear H
    have p118 : 0 ≤ (x13_1 : Int) := cd_
    have q118 : x13_1 < (l0.length : Int) := cd_
    obtain ⟨ad118, e118, hx118_0⟩ := Kd.at_int HR0.out x13_1 p118 q118
    cases e118
    replace p118 := eq_true p118
    replace q118 := eq_true q118
    have p119 : 0 ≤ (x13_1 : Int) := cd_
    have q119 : x13_1 < (l1.length : Int) := cd_
    obtain ⟨ad119, e119, hx119_0⟩ := Kd.at_int HR1.out x13_1 p119 q119
    cases e119
    replace p119 := eq_true p119
    replace q119 := eq_true q119
    go_wp2
    repeat (go_quiet (fail); try go_wp2)
    go_roundg k1
    case measure => have := HK1.out; omega
    case rel => exact ⟨(wrap64 (x13_1 + 1)), cs_, H', ⟨co_ HK1.out⟩, cD_⟩
   rw [if_neg c8] at H
   have c8b0 : ((rd l0 x13_1) == (rd l1 x13_1)) = false := beq_eq_false_iff_ne.mpr c8
   have c8b1 : ((rd l0 x13_1) != (rd l1 x13_1)) = true := bne_iff_ne.mpr c8
   obtain rfl := Option.some.inj H
   have p118 : 0 ≤ (x13_1 : Int) := cd_
   have q118 : x13_1 < (l0.length : Int) := cd_
   obtain ⟨ad118, e118, hx118_0⟩ := Kd.at_int HR0.out x13_1 p118 q118
   cases e118
   replace p118 := eq_true p118
   replace q118 := eq_true q118
   have p119 : 0 ≤ (x13_1 : Int) := cd_
   have q119 : x13_1 < (l1.length : Int) := cd_
   obtain ⟨ad119, e119, hx119_0⟩ := Kd.at_int HR1.out x13_1 p119 q119
   cases e119
   replace p119 := eq_true p119
   replace q119 := eq_true q119
   go_wp2
   repeat (go_quiet (fail); try go_wp2)
   go_ret
   exact ⟨cs_, cD_⟩

end Go.Proofs.Ythgmicingbjemaa.PFnJoins
