-- Written by fprint, a program of this session, out of Lean's own print of the translation. Lean checks it.
import Derived.Test.YthgmicingbjemaaDoorDense
import Derived.Test.YthgmicingbjemaaDoorPFnSumsx0
import Derived.Test.YthgmicingbjemaaDoorPFnSumsx2
namespace Go.Proofs.YthgmicingbjemaaDoor.PFnSums
open Go.RowKit Go.Proofs.YthgmicingbjemaaDoorW.PrintWords Go.Proofs.YthgmicingbjemaaDoorW.PrintLast Go.Proofs.YthgmicingbjemaaDoorW.PrintMore
attribute [local go_sem] max2_int min2_int max_two min_two max_three min_three max_four min_four   -- for this text's walks alone
set_option linter.unusedVariables false
set_option linter.unusedSimpArgs false

theorem b3_0 {p : Prop} (h : p := by first | exact ⟨rfl, _, World.drewN_drewN _ _ _⟩ | exact ⟨rfl, _, Eq.trans (World.drewN_drewN _ _ _) (congrArg (World.drewN _) (Nat.add_assoc _ _ _))⟩) : p := h
/-! ### cmp_Compare_int: function 45 -/
def cmp_Compare_int.f (a0 : Int) (a1 : Int) : Option (Int) := (cmp_isNaN_int.f a0).bind fun t221 => ((cmp_isNaN_int.f a1).bind fun t222 => (if t221 = true then (if t222 = true then (some 0) else (some (-1))) else (if t222 = true then (some 1) else (if a0 < a1 then (some (-1)) else (if a0 > a1 then (some 1) else (some 0))))))
set_option maxHeartbeats 8000000 in
set_option maxRecDepth 100000 in
theorem cmp_Compare_int.calls (a0 : Int) (a1 : Int) (r : Int) (w : World) (h : cmp_Compare_int.f a0 a1 = some r) :
  Calls Tryd.prog 45 #[.int .i64 a0, .int .i64 a1] w fun e w' => e = .returned (.int .i64 r) ∧ Drawn0 w w' := by
 have H : ((cmp_isNaN_int.f a0).bind fun t221 => ((cmp_isNaN_int.f a1).bind fun t222 => (if t221 = true then (if t222 = true then (some 0) else (some (-1))) else (if t222 = true then (some 1) else (if a0 < a1 then (some (-1)) else (if a0 > a1 then (some 1) else (some 0))))))) = some r := h
 clear h
 obtain ⟨t221, A3, H⟩ := bnd_ H
 try dsimp only at H
 obtain ⟨t222, A4, H⟩ := bnd_ H
 try dsimp only at H
 by_cases c5 : t221 = true
 ·subst c5
  rw [if_pos rfl] at H
  by_cases c6 : t222 = true
  ·subst c6
   rw [if_pos rfl] at H
   obtain rfl := Option.some.inj H
   go_enter Tryd.func45, Tryd.ntmps45
   go_wp2_with (first | (refine gl_ 59 (some 8) Tryd.func59 #[.int .i64 a0] ?_; (with_reducible refine (cmp_isNaN_int.calls a0 true _ A3.out).mono ?_); rintro e w' ⟨rfl, ⟨nd, rfl⟩⟩; refine ⟨_, rfl, ?_⟩) | (refine gl_ 59 (some 10) Tryd.func59 #[.int .i64 a1] ?_; (with_reducible refine (cmp_isNaN_int.calls a1 true _ A4.out).mono ?_); rintro e w' ⟨rfl, ⟨nd, rfl⟩⟩; refine ⟨_, rfl, ?_⟩))
   go_ret
   exact ⟨cs_, cD_⟩
  replace c6 := Bool.eq_false_iff.mpr c6
  subst c6
  rw [if_neg (show ¬ (false = true) by decide)] at H
  obtain rfl := Option.some.inj H
  go_enter Tryd.func45, Tryd.ntmps45
  go_wp2_with (first | (refine gl_ 59 (some 8) Tryd.func59 #[.int .i64 a0] ?_; (with_reducible refine (cmp_isNaN_int.calls a0 true _ A3.out).mono ?_); rintro e w' ⟨rfl, ⟨nd, rfl⟩⟩; refine ⟨_, rfl, ?_⟩) | (refine gl_ 59 (some 10) Tryd.func59 #[.int .i64 a1] ?_; (with_reducible refine (cmp_isNaN_int.calls a1 false _ A4.out).mono ?_); rintro e w' ⟨rfl, ⟨nd, rfl⟩⟩; refine ⟨_, rfl, ?_⟩))
  go_ret
  exact ⟨cs_, cD_⟩
 replace c5 := Bool.eq_false_iff.mpr c5
 subst c5
 rw [if_neg (show ¬ (false = true) by decide)] at H
 by_cases c7 : t222 = true
 ·subst c7
  rw [if_pos rfl] at H
  obtain rfl := Option.some.inj H
  go_enter Tryd.func45, Tryd.ntmps45
  go_wp2_with (first | (refine gl_ 59 (some 8) Tryd.func59 #[.int .i64 a0] ?_; (with_reducible refine (cmp_isNaN_int.calls a0 false _ A3.out).mono ?_); rintro e w' ⟨rfl, ⟨nd, rfl⟩⟩; refine ⟨_, rfl, ?_⟩) | (refine gl_ 59 (some 10) Tryd.func59 #[.int .i64 a1] ?_; (with_reducible refine (cmp_isNaN_int.calls a1 true _ A4.out).mono ?_); rintro e w' ⟨rfl, ⟨nd, rfl⟩⟩; refine ⟨_, rfl, ?_⟩))
  go_ret
  exact ⟨cs_, cD_⟩
 replace c7 := Bool.eq_false_iff.mpr c7
 subst c7
 rw [if_neg (show ¬ (false = true) by decide)] at H
 by_cases c8 : a0 < a1
 ·rw [if_pos c8] at H
  have c8b0 : decide (a0 < a1) = true := decide_eq_true c8
  clear c8
  obtain rfl := Option.some.inj H
  go_enter Tryd.func45, Tryd.ntmps45
  go_wp2_with (first | (refine gl_ 59 (some 8) Tryd.func59 #[.int .i64 a0] ?_; (with_reducible refine (cmp_isNaN_int.calls a0 false _ A3.out).mono ?_); rintro e w' ⟨rfl, ⟨nd, rfl⟩⟩; refine ⟨_, rfl, ?_⟩) | (refine gl_ 59 (some 10) Tryd.func59 #[.int .i64 a1] ?_; (with_reducible refine (cmp_isNaN_int.calls a1 false _ A4.out).mono ?_); rintro e w' ⟨rfl, ⟨nd, rfl⟩⟩; refine ⟨_, rfl, ?_⟩))
  go_ret
  exact ⟨cs_, cD_⟩
 rw [if_neg c8] at H
 have c8b0 : decide (a0 < a1) = false := decide_eq_false c8
 clear c8
 by_cases c9 : a0 > a1
 ·rw [if_pos c9] at H
  have c9b0 : decide (a1 < a0) = true := decide_eq_true c9
  clear c9
  obtain rfl := Option.some.inj H
  go_enter Tryd.func45, Tryd.ntmps45
  go_wp2_with (first | (refine gl_ 59 (some 8) Tryd.func59 #[.int .i64 a0] ?_; (with_reducible refine (cmp_isNaN_int.calls a0 false _ A3.out).mono ?_); rintro e w' ⟨rfl, ⟨nd, rfl⟩⟩; refine ⟨_, rfl, ?_⟩) | (refine gl_ 59 (some 10) Tryd.func59 #[.int .i64 a1] ?_; (with_reducible refine (cmp_isNaN_int.calls a1 false _ A4.out).mono ?_); rintro e w' ⟨rfl, ⟨nd, rfl⟩⟩; refine ⟨_, rfl, ?_⟩))
  go_ret
  exact ⟨cs_, cD_⟩
 rw [if_neg c9] at H
 have c9b0 : decide (a1 < a0) = false := decide_eq_false c9
 clear c9
 obtain rfl := Option.some.inj H
 go_enter Tryd.func45, Tryd.ntmps45
 go_wp2_with (first | (refine gl_ 59 (some 8) Tryd.func59 #[.int .i64 a0] ?_; (with_reducible refine (cmp_isNaN_int.calls a0 false _ A3.out).mono ?_); rintro e w' ⟨rfl, ⟨nd, rfl⟩⟩; refine ⟨_, rfl, ?_⟩) | (refine gl_ 59 (some 10) Tryd.func59 #[.int .i64 a1] ?_; (with_reducible refine (cmp_isNaN_int.calls a1 false _ A4.out).mono ?_); rintro e w' ⟨rfl, ⟨nd, rfl⟩⟩; refine ⟨_, rfl, ?_⟩))
 go_ret
 exact ⟨cs_, cD_⟩

/-! ### impl_CompareRows: function 26 -/
def impl_CompareRows.l0 : Nat → List Int → List Int → Int → Int → Option (Int)
 | 0, _, _, _, _ => none
 | k + 1, x0, x1, x11, x12 => if x12 < x11 then (if 0 ≤ x12 then (if x12 < (x0.length : Int) then (if x12 < (x1.length : Int) then ((cmp_Compare_int64.f (rd x0 x12) (rd x1 x12)).bind fun t225 => (if t225 = 0 then (impl_CompareRows.l0 k x0 x1 x11 (wrap64 (x12 + 1))) else (some t225))) else (none)) else (none)) else (none)) else ((cmp_Compare_int.f (x0.length : Int) (x1.length : Int)).bind fun t226 => (some t226))
def impl_CompareRows.f (k : Nat) (l0 : List Int) (l1 : List Int) : Option (Int) := if (l1.length : Int) < (l0.length : Int) then (impl_CompareRows.l0 k l0 l1 (l1.length : Int) 0) else (impl_CompareRows.l0 k l0 l1 (l0.length : Int) 0)
theorem impl_CompareRows.mono_l : ∀ k, (∀ y0 y1 y2 y3, LeO (impl_CompareRows.l0 k y0 y1 y2 y3) (impl_CompareRows.l0 (k + 1) y0 y1 y2 y3))
 | 0 => fun _ _ _ _ r h => by simp [impl_CompareRows.l0] at h
 | k + 1 => by
  have ih0 := impl_CompareRows.mono_l k
  ·intro y0 y1 y2 y3
   unfold impl_CompareRows.l0
   repeat' first
   | (with_reducible exact ih0 _ _ _ _)
   | (with_reducible exact LeO.refl _)
   | (with_reducible exact LeO.none _)
   | (with_reducible refine LeO.ite ?_ ?_)
   | (with_reducible refine LeO.bind ?_ (fun _ => ?_))
   | exact ih0 _ _ _ _
   | exact LeO.none _
   | refine LeO.ite ?_ ?_
   | refine LeO.bind ?_ (fun _ => ?_)
theorem impl_CompareRows.mono : ∀ a0 a1 k, LeO (impl_CompareRows.f k a0 a1) (impl_CompareRows.f (k + 1) a0 a1) := by
 intro a0 a1 k
 have ih0 := impl_CompareRows.mono_l k
 unfold impl_CompareRows.f
 repeat' first
   | (with_reducible exact ih0 _ _ _ _)
   | (with_reducible exact LeO.refl _)
   | (with_reducible exact LeO.none _)
   | (with_reducible refine LeO.ite ?_ ?_)
   | (with_reducible refine LeO.bind ?_ (fun _ => ?_))
   | exact ih0 _ _ _ _
   | exact LeO.none _
   | refine LeO.ite ?_ ?_
   | refine LeO.bind ?_ (fun _ => ?_)
set_option maxHeartbeats 8000000 in
set_option maxRecDepth 100000 in
theorem impl_CompareRows.calls (k : Nat) (A0 : Option Addr) (c0 : Nat) (l0 : List Int) (A1 : Option Addr) (c1 : Nat) (l1 : List Int) (r : Int) (w : World) (hr0 : Kd.C (Kd.int .i64) w A0 l0.length l0) (hc0 : l0.length ≤ c0) (hr1 : Kd.C (Kd.int .i64) w A1 l1.length l1) (hc1 : l1.length ≤ c1) (h : impl_CompareRows.f k l0 l1 = some r) :
  Calls Tryd.prog 26 #[.slice A0 l0.length c0, .slice A1 l1.length c1] w fun e w' => e = .returned (.int .i64 r) ∧ Below w.heap.size w w' := by
 have HR0 := Aside0.mk hr0
 have HC0 := Aside0.mk hc0
 clear hr0 hc0
 have HR1 := Aside0.mk hr1
 have HC1 := Aside0.mk hc1
 clear hr1 hc1
 have HB := Aside0.mk (Below.refl w.heap.size w)
 have H : (if (l1.length : Int) < (l0.length : Int) then (impl_CompareRows.l0 k l0 l1 (l1.length : Int) 0) else (impl_CompareRows.l0 k l0 l1 (l0.length : Int) 0)) = some r := h
 clear h
 by_cases c3 : (l1.length : Int) < (l0.length : Int)
 ·rw [if_pos c3] at H
  have c3i := eq_true c3
  have c3b0 : decide ((l1.length : Int) < (l0.length : Int)) = true := decide_eq_true c3
  have c3b1 : decide (l1.length < l0.length) = true := decide_eq_true (Int.ofNat_lt.mp c3)
  clear c3
  have H' := Aside0.mk H
  clear H
  go_enter Tryd.func26, Tryd.ntmps26
  go_wp2
  repeat (go_quiet (fail); try go_wp2)
  go_loopg [12] k (fun kq v12 w' => ∃ (x12_1 : Int), v12 = .int .i64 x12_1 ∧ Aside0 (impl_CompareRows.l0 kq l0 l1 (l1.length : Int) x12_1 = some r) ∧ Aside0 (kq ≤ k) ∧ Aside0 (Below w.heap.size w w'))
  case atStart => exact ⟨(0), cs_, H', ⟨Nat.le_refl _⟩, ⟨cB0_⟩⟩
  case round =>
   clear H'
   try clear c1
   try clear c2
   try clear p2
   try clear c3
   try clear c3b0
   try clear c3b1
   obtain ⟨x12_1, rfl, HA, HK1, HB⟩ := hrel
   cases gk with
   | zero => exact absurd HA.out (by simp [impl_CompareRows.l0])
   | succ k1 =>
    have H := HA.out
    clear HA
    simp only [impl_CompareRows.l0] at H
    by_cases c4 : x12_1 < (l1.length : Int)
    rotate_left
    ·rw [if_neg c4] at H
     have c4b0 : decide (x12_1 < (l1.length : Int)) = false := decide_eq_false c4
     clear c4
     obtain ⟨t226, A10, H⟩ := bnd_ H
     try dsimp only at H
     obtain rfl := Option.some.inj H
     go_wp2_with (first | (go_at_call 45; (with_reducible refine (cmp_Compare_int.calls (l0.length : Int) (l1.length : Int) t226 _ A10.out).mono ?_); rintro e w' ⟨rfl, ⟨nd, rfl⟩⟩; (try exact b3_0)))
     repeat (go_quiet (first | (go_at_call 45; (with_reducible refine (cmp_Compare_int.calls (l0.length : Int) (l1.length : Int) t226 _ A10.out).mono ?_); rintro e w' ⟨rfl, ⟨nd, rfl⟩⟩; (try exact b3_0))); try go_wp2_with (first | (go_at_call 45; (with_reducible refine (cmp_Compare_int.calls (l0.length : Int) (l1.length : Int) t226 _ A10.out).mono ?_); rintro e w' ⟨rfl, ⟨nd, rfl⟩⟩; (try exact b3_0))))
     go_ret
     exact ⟨ce_, cB0_⟩
    rw [if_pos c4] at H
    have c4b0 : decide (x12_1 < (l1.length : Int)) = true := decide_eq_true c4
    clear c4
    by_cases c5 : 0 ≤ x12_1
    rotate_left
    ·rw [if_neg c5] at H
     exact absurd H (by simp)
    rw [if_pos c5] at H
    have c5b0 : decide (0 ≤ x12_1) = true := decide_eq_true c5
    clear c5
    by_cases c6 : x12_1 < (l0.length : Int)
    rotate_left
    ·rw [if_neg c6] at H
     exact absurd H (by simp)
    rw [if_pos c6] at H
    have c6b0 : decide (x12_1 < (l0.length : Int)) = true := decide_eq_true c6
    clear c6
    by_cases c7 : x12_1 < (l1.length : Int)
    rotate_left
    ·rw [if_neg c7] at H
     exact absurd H (by simp)
    rw [if_pos c7] at H
    have c7b0 : decide (x12_1 < (l1.length : Int)) = true := decide_eq_true c7
    clear c7
    obtain ⟨t225, A8, H⟩ := bnd_ H
    try dsimp only at H
    by_cases c9 : t225 = 0
    ·rw [if_pos c9] at H
     have c9b0 : (t225 == 0) = true := beq_iff_eq.mpr c9
     have c9b1 : (t225 != 0) = false := bne_eq_false_iff_eq.mpr c9
     clear c9
     have H' := Aside0.mk H
     clear H
     have p223 : 0 ≤ (x12_1 : Int) := of_decide_eq_true ca_
     have q223 : x12_1 < (l0.length : Int) := of_decide_eq_true ca_
     obtain ⟨ad223, e223, hx223_0⟩ := Kd.at_int HR0.out x12_1 p223 q223
     cases e223
     replace hx223_0 := (HB.out.cell (World.block_lt_of_cell? w _ hx223_0)).trans hx223_0
     replace p223 := eq_true p223
     replace q223 := eq_true q223
     have p224 : 0 ≤ (x12_1 : Int) := of_decide_eq_true ca_
     have q224 : x12_1 < (l1.length : Int) := of_decide_eq_true ca_
     obtain ⟨ad224, e224, hx224_0⟩ := Kd.at_int HR1.out x12_1 p224 q224
     cases e224
     replace hx224_0 := (HB.out.cell (World.block_lt_of_cell? w _ hx224_0)).trans hx224_0
     replace p224 := eq_true p224
     replace q224 := eq_true q224
     go_wp2_with (first | (go_at_call 44; (with_reducible refine (cmp_Compare_int64.calls (rd l0 x12_1) (rd l1 x12_1) t225 _ A8.out).mono ?_); rintro e w' ⟨rfl, ⟨nd, rfl⟩⟩; (try exact b3_0)))
     repeat (go_quiet (first | (go_at_call 44; (with_reducible refine (cmp_Compare_int64.calls (rd l0 x12_1) (rd l1 x12_1) t225 _ A8.out).mono ?_); rintro e w' ⟨rfl, ⟨nd, rfl⟩⟩; (try exact b3_0))); try go_wp2_with (first | (go_at_call 44; (with_reducible refine (cmp_Compare_int64.calls (rd l0 x12_1) (rd l1 x12_1) t225 _ A8.out).mono ?_); rintro e w' ⟨rfl, ⟨nd, rfl⟩⟩; (try exact b3_0))))
     go_roundg k1
     case measure => have := HK1.out; omega
     case rel => exact ⟨(wrap64 (x12_1 + 1)), cs_, H', ⟨co_ HK1.out⟩, ⟨cB0_⟩⟩
    rw [if_neg c9] at H
    have c9b0 : (t225 == 0) = false := beq_eq_false_iff_ne.mpr c9
    have c9b1 : (t225 != 0) = true := bne_iff_ne.mpr c9
    obtain rfl := Option.some.inj H
    have p223 : 0 ≤ (x12_1 : Int) := of_decide_eq_true ca_
    have q223 : x12_1 < (l0.length : Int) := of_decide_eq_true ca_
    obtain ⟨ad223, e223, hx223_0⟩ := Kd.at_int HR0.out x12_1 p223 q223
    cases e223
    replace hx223_0 := (HB.out.cell (World.block_lt_of_cell? w _ hx223_0)).trans hx223_0
    replace p223 := eq_true p223
    replace q223 := eq_true q223
    have p224 : 0 ≤ (x12_1 : Int) := of_decide_eq_true ca_
    have q224 : x12_1 < (l1.length : Int) := of_decide_eq_true ca_
    obtain ⟨ad224, e224, hx224_0⟩ := Kd.at_int HR1.out x12_1 p224 q224
    cases e224
    replace hx224_0 := (HB.out.cell (World.block_lt_of_cell? w _ hx224_0)).trans hx224_0
    replace p224 := eq_true p224
    replace q224 := eq_true q224
    go_wp2_with (first | (go_at_call 44; (with_reducible refine (cmp_Compare_int64.calls (rd l0 x12_1) (rd l1 x12_1) t225 _ A8.out).mono ?_); rintro e w' ⟨rfl, ⟨nd, rfl⟩⟩; (try exact b3_0)))
    repeat (go_quiet (first | (go_at_call 44; (with_reducible refine (cmp_Compare_int64.calls (rd l0 x12_1) (rd l1 x12_1) t225 _ A8.out).mono ?_); rintro e w' ⟨rfl, ⟨nd, rfl⟩⟩; (try exact b3_0))); try go_wp2_with (first | (go_at_call 44; (with_reducible refine (cmp_Compare_int64.calls (rd l0 x12_1) (rd l1 x12_1) t225 _ A8.out).mono ?_); rintro e w' ⟨rfl, ⟨nd, rfl⟩⟩; (try exact b3_0))))
    go_ret
    exact ⟨ce_, cB0_⟩
 rw [if_neg c3] at H
 have c3i := eq_false c3
 have c3b0 : decide ((l1.length : Int) < (l0.length : Int)) = false := decide_eq_false c3
 have c3b1 : decide (l1.length < l0.length) = false := decide_eq_false (fun h => c3 (Int.ofNat_lt.mpr h))
 clear c3
 have H' := Aside0.mk H
 clear H
 go_enter Tryd.func26, Tryd.ntmps26
 go_wp2
 repeat (go_quiet (fail); try go_wp2)
 go_loopg [12] k (fun kq v12 w' => ∃ (x12_1 : Int), v12 = .int .i64 x12_1 ∧ Aside0 (impl_CompareRows.l0 kq l0 l1 (l0.length : Int) x12_1 = some r) ∧ Aside0 (kq ≤ k) ∧ Aside0 (Below w.heap.size w w'))
 case atStart => exact ⟨(0), cs_, H', ⟨Nat.le_refl _⟩, ⟨cB0_⟩⟩
 case round =>
  clear H'
  try clear c1
  try clear c2
  try clear p2
  try clear q2
  try clear hx2
  try clear c3
  try clear c3b0
  try clear c3b1
  try clear c4
  try clear c4b0
  try clear c5
  try clear c5b0
  try clear c6
  try clear c6b0
  try clear p6
  try clear c7
  try clear c7b0
  try clear c9
  try clear c9b0
  try clear c9b1
  try clear hx223_0
  try clear hx224_0
  try clear p2
  try clear p223
  try clear p224
  try clear q223
  try clear q224
  obtain ⟨x12_1, rfl, HA, HK1, HB⟩ := hrel
  cases gk with
  | zero => exact absurd HA.out (by simp [impl_CompareRows.l0])
  | succ k1 =>
   have H := HA.out
   clear HA
   simp only [impl_CompareRows.l0] at H
   by_cases c11 : x12_1 < (l0.length : Int)
   rotate_left
   ·rw [if_neg c11] at H
    have c11b0 : decide (x12_1 < (l0.length : Int)) = false := decide_eq_false c11
    clear c11
    obtain ⟨t226, A17, H⟩ := bnd_ H
    try dsimp only at H
    obtain rfl := Option.some.inj H
    go_wp2_with (first | (go_at_call 45; (with_reducible refine (cmp_Compare_int.calls (l0.length : Int) (l1.length : Int) t226 _ A17.out).mono ?_); rintro e w' ⟨rfl, ⟨nd, rfl⟩⟩; (try exact b3_0)))
    repeat (go_quiet (first | (go_at_call 45; (with_reducible refine (cmp_Compare_int.calls (l0.length : Int) (l1.length : Int) t226 _ A17.out).mono ?_); rintro e w' ⟨rfl, ⟨nd, rfl⟩⟩; (try exact b3_0))); try go_wp2_with (first | (go_at_call 45; (with_reducible refine (cmp_Compare_int.calls (l0.length : Int) (l1.length : Int) t226 _ A17.out).mono ?_); rintro e w' ⟨rfl, ⟨nd, rfl⟩⟩; (try exact b3_0))))
    go_ret
    exact ⟨ce_, cB0_⟩
   rw [if_pos c11] at H
   have c11b0 : decide (x12_1 < (l0.length : Int)) = true := decide_eq_true c11
   clear c11
   by_cases c12 : 0 ≤ x12_1
   rotate_left
   ·rw [if_neg c12] at H
    exact absurd H (by simp)
   rw [if_pos c12] at H
   have c12b0 : decide (0 ≤ x12_1) = true := decide_eq_true c12
   clear c12
   by_cases c13 : x12_1 < (l0.length : Int)
   rotate_left
   ·rw [if_neg c13] at H
    exact absurd H (by simp)
   rw [if_pos c13] at H
   have c13b0 : decide (x12_1 < (l0.length : Int)) = true := decide_eq_true c13
   clear c13
   by_cases c14 : x12_1 < (l1.length : Int)
   rotate_left
   ·rw [if_neg c14] at H
    exact absurd H (by simp)
   rw [if_pos c14] at H
   have c14b0 : decide (x12_1 < (l1.length : Int)) = true := decide_eq_true c14
   clear c14
   obtain ⟨t225, A15, H⟩ := bnd_ H
   try dsimp only at H
   by_cases c16 : t225 = 0
   ·rw [if_pos c16] at H
    have c16b0 : (t225 == 0) = true := beq_iff_eq.mpr c16
    have c16b1 : (t225 != 0) = false := bne_eq_false_iff_eq.mpr c16
    clear c16
    have H' := Aside0.mk H
    clear H
    have p223 : 0 ≤ (x12_1 : Int) := of_decide_eq_true ca_
    have q223 : x12_1 < (l0.length : Int) := of_decide_eq_true ca_
    obtain ⟨ad223, e223, hx223_0⟩ := Kd.at_int HR0.out x12_1 p223 q223
    cases e223
    replace hx223_0 := (HB.out.cell (World.block_lt_of_cell? w _ hx223_0)).trans hx223_0
    replace p223 := eq_true p223
    replace q223 := eq_true q223
    have p224 : 0 ≤ (x12_1 : Int) := of_decide_eq_true ca_
    have q224 : x12_1 < (l1.length : Int) := of_decide_eq_true ca_
    obtain ⟨ad224, e224, hx224_0⟩ := Kd.at_int HR1.out x12_1 p224 q224
    cases e224
    replace hx224_0 := (HB.out.cell (World.block_lt_of_cell? w _ hx224_0)).trans hx224_0
    replace p224 := eq_true p224
    replace q224 := eq_true q224
    go_wp2_with (first | (go_at_call 44; (with_reducible refine (cmp_Compare_int64.calls (rd l0 x12_1) (rd l1 x12_1) t225 _ A15.out).mono ?_); rintro e w' ⟨rfl, ⟨nd, rfl⟩⟩; (try exact b3_0)))
    repeat (go_quiet (first | (go_at_call 44; (with_reducible refine (cmp_Compare_int64.calls (rd l0 x12_1) (rd l1 x12_1) t225 _ A15.out).mono ?_); rintro e w' ⟨rfl, ⟨nd, rfl⟩⟩; (try exact b3_0))); try go_wp2_with (first | (go_at_call 44; (with_reducible refine (cmp_Compare_int64.calls (rd l0 x12_1) (rd l1 x12_1) t225 _ A15.out).mono ?_); rintro e w' ⟨rfl, ⟨nd, rfl⟩⟩; (try exact b3_0))))
    go_roundg k1
    case measure => have := HK1.out; omega
    case rel => exact ⟨(wrap64 (x12_1 + 1)), cs_, H', ⟨co_ HK1.out⟩, ⟨cB0_⟩⟩
   rw [if_neg c16] at H
   have c16b0 : (t225 == 0) = false := beq_eq_false_iff_ne.mpr c16
   have c16b1 : (t225 != 0) = true := bne_iff_ne.mpr c16
   obtain rfl := Option.some.inj H
   have p223 : 0 ≤ (x12_1 : Int) := of_decide_eq_true ca_
   have q223 : x12_1 < (l0.length : Int) := of_decide_eq_true ca_
   obtain ⟨ad223, e223, hx223_0⟩ := Kd.at_int HR0.out x12_1 p223 q223
   cases e223
   replace hx223_0 := (HB.out.cell (World.block_lt_of_cell? w _ hx223_0)).trans hx223_0
   replace p223 := eq_true p223
   replace q223 := eq_true q223
   have p224 : 0 ≤ (x12_1 : Int) := of_decide_eq_true ca_
   have q224 : x12_1 < (l1.length : Int) := of_decide_eq_true ca_
   obtain ⟨ad224, e224, hx224_0⟩ := Kd.at_int HR1.out x12_1 p224 q224
   cases e224
   replace hx224_0 := (HB.out.cell (World.block_lt_of_cell? w _ hx224_0)).trans hx224_0
   replace p224 := eq_true p224
   replace q224 := eq_true q224
   go_wp2_with (first | (go_at_call 44; (with_reducible refine (cmp_Compare_int64.calls (rd l0 x12_1) (rd l1 x12_1) t225 _ A15.out).mono ?_); rintro e w' ⟨rfl, ⟨nd, rfl⟩⟩; (try exact b3_0)))
   repeat (go_quiet (first | (go_at_call 44; (with_reducible refine (cmp_Compare_int64.calls (rd l0 x12_1) (rd l1 x12_1) t225 _ A15.out).mono ?_); rintro e w' ⟨rfl, ⟨nd, rfl⟩⟩; (try exact b3_0))); try go_wp2_with (first | (go_at_call 44; (with_reducible refine (cmp_Compare_int64.calls (rd l0 x12_1) (rd l1 x12_1) t225 _ A15.out).mono ?_); rintro e w' ⟨rfl, ⟨nd, rfl⟩⟩; (try exact b3_0))))
   go_ret
   exact ⟨ce_, cB0_⟩

/-! ### impl_byRow: function 35 -/
def impl_byRow.f (k : Nat) (l0_0 : List Int) (a0_1 : Int) (l1_0 : List Int) (a1_1 : Int) : Option (Int) := (impl_CompareRows.f k l0_0 l1_0).bind fun t229 => (some t229)
theorem impl_byRow.mono : ∀ a0 a1 a2 a3 k, LeO (impl_byRow.f k a0 a1 a2 a3) (impl_byRow.f (k + 1) a0 a1 a2 a3) := by
 intro a0 a1 a2 a3 k
 unfold impl_byRow.f
 repeat' first
   | (with_reducible exact impl_CompareRows.mono _ _ _)
   | (with_reducible exact LeO.refl _)
   | (with_reducible exact LeO.none _)
   | (with_reducible refine LeO.ite ?_ ?_)
   | (with_reducible refine LeO.bind ?_ (fun _ => ?_))
   | exact impl_CompareRows.mono _ _ _
   | exact LeO.none _
   | refine LeO.ite ?_ ?_
   | refine LeO.bind ?_ (fun _ => ?_)
set_option maxHeartbeats 8000000 in
set_option maxRecDepth 100000 in
theorem impl_byRow.calls (k : Nat) (A0_0 : Option Addr) (c0_0 : Nat) (l0_0 : List Int) (a0_1 : Int) (A1_0 : Option Addr) (c1_0 : Nat) (l1_0 : List Int) (a1_1 : Int) (r : Int) (w : World) (hr0_0 : Kd.C (Kd.int .i64) w A0_0 l0_0.length l0_0) (hc0_0 : l0_0.length ≤ c0_0) (hr1_0 : Kd.C (Kd.int .i64) w A1_0 l1_0.length l1_0) (hc1_0 : l1_0.length ≤ c1_0) (h : impl_byRow.f k l0_0 a0_1 l1_0 a1_1 = some r) :
  Calls Tryd.prog 35 #[.agg #[.slice A0_0 l0_0.length c0_0, .int .i64 a0_1], .agg #[.slice A1_0 l1_0.length c1_0, .int .i64 a1_1]] w fun e w' => e = .returned (.int .i64 r) ∧ Below w.heap.size w w' := by
 have hu31 := Tryd.underlying31
 have HR0_0 := Aside0.mk hr0_0
 have HC0_0 := Aside0.mk hc0_0
 clear hr0_0 hc0_0
 have HR1_0 := Aside0.mk hr1_0
 have HC1_0 := Aside0.mk hc1_0
 clear hr1_0 hc1_0
 have HB := Aside0.mk (Below.refl w.heap.size w)
 have H : ((impl_CompareRows.f k l0_0 l1_0).bind fun t229 => (some t229)) = some r := h
 clear h
 obtain ⟨t229, A3, H⟩ := bnd_ H
 try dsimp only at H
 obtain rfl := Option.some.inj H
 go_enter Tryd.func35, Tryd.ntmps35
 go_wp2_with (first | (refine bx_ 2 #[.slice A0_0 l0_0.length c0_0, .int .i64 a0_1] 31 ?_; intro gb227 hg w4 hbox hb; have BK227 := Aside0.mk (hbox); have GW227 := Aside0.mk ((by rw [hg]; exact (below_size cB0_) : w.heap.size ≤ gb227)); have GE227 := Aside0.mk ((by rw [hg]; exact (below_size cB0_) : w.heap.size ≤ gb227)); replace HB := Aside0.mk (below_step cB0_ hb); clear hb hbox hg) | (refine bx_ 3 #[.slice A1_0 l1_0.length c1_0, .int .i64 a1_1] 31 ?_; intro gb228 hg w5 hbox hb; have BK228 := Aside0.mk (hbox); have GW228 := Aside0.mk ((by rw [hg]; exact (below_size (cB1_ GE227.out)) : w.heap.size ≤ gb228)); have GE228 := Aside0.mk ((by rw [hg]; exact (below_size (cB1_ GE227.out)) : w.heap.size ≤ gb228)); replace HB := Aside0.mk (below_step (cB1_ GE227.out) hb); have NB227_228 := Aside0.mk ((by rw [hg]; exact Nat.ne_of_lt (blk_lt (g := gb227) (o := .cells #[.slice A0_0 l0_0.length c0_0, .int .i64 a0_1] 31 (0, 0)) (cO_ BK227.out)) : gb227 ≠ gb228)); have NB228_227 := Aside0.mk ((by rw [hg]; exact Nat.ne_of_gt (blk_lt (g := gb227) (o := .cells #[.slice A0_0 l0_0.length c0_0, .int .i64 a0_1] 31 (0, 0)) (cO_ BK227.out)) : gb228 ≠ gb227)); replace BK227 := Aside0.mk (blk_below (g := gb227) (o := .cells #[.slice A0_0 l0_0.length c0_0, .int .i64 a0_1] 31 (0, 0)) (cO_ BK227.out) hb); clear hb hbox hg; have hnb6 := NB227_228.out; have hnc6 := NB228_227.out; obtain ⟨hcz7_0, hcz7_1, hfz7_0, hfz7_1⟩ := cells2 BK227.out; obtain ⟨hcz8_0, hcz8_1, hfz8_0, hfz8_1⟩ := cells2 BK228.out) | (refine gl_ 26 (some 9) Tryd.func26 #[.slice A0_0 l0_0.length c0_0, .slice A1_0 l1_0.length c1_0] ?_; (with_reducible refine (impl_CompareRows.calls k _ _ l0_0 _ _ l1_0 t229 _ ?side1 ?side2 ?side3 ?side4 A3.out).mono ?_); (case side1 => exact cC_ (Kd.C_below HR0_0.out HB.out)); (case side2 => exact HC0_0.out); (case side3 => exact cC_ (Kd.C_below HR1_0.out HB.out)); (case side4 => exact HC1_0.out); rintro e w9 ⟨rfl, hb⟩; refine ⟨_, rfl, ?_⟩; replace BK227 := Aside0.mk (blk_below (g := gb227) (o := .cells #[.slice A0_0 l0_0.length c0_0, .int .i64 a0_1] 31 (0, 0)) (cO_ BK227.out) hb); replace BK228 := Aside0.mk (blk_below (g := gb228) (o := .cells #[.slice A1_0 l1_0.length c1_0, .int .i64 a1_1] 31 (0, 0)) (cO_ BK228.out) hb); replace HB := Aside0.mk (below_step (cB2_ GE227.out GE228.out) hb); (try clear hb); (try clear hb2); (try clear hk); (try clear hi)))
 go_ret
 exact ⟨ce_, cB2_ GE227.out GE228.out⟩

/-! ### slices_Clone_int64_int64: function 36 -/
def slices_Clone_int64_int64.f (l0 : List Int) : Option (List Int) := if l0.length < 17592186044416 then some l0 else none
set_option maxHeartbeats 8000000 in
set_option maxRecDepth 100000 in
theorem slices_Clone_int64_int64.calls (A0 : Option Addr) (c0 : Nat) (l0 : List Int) (r : List Int) (w : World) (hr0 : Kd.C (Kd.int .i64) w A0 l0.length l0) (hc0 : l0.length ≤ c0) (h : slices_Clone_int64_int64.f l0 = some r) :
  Calls Tryd.prog 36 #[.slice A0 l0.length c0] w fun e w' => ∃ v0_ : Value, e = .returned (v0_) ∧ Kd.R (Kd.int .i64) 2 w' w.heap.size (fun _ => True) v0_ r ∧ Below w.heap.size w w' := by
 have hq_ : ∀ (w : World) (a : Option Addr) (n c n' c' : Nat), (binOp .eql 29 (.slice a n c) (.slice none n' c')).run Tryd.prog w = .ok (.bool a.isNone) w := by
  intro w a n c n' c'
  have h1 : ∀ d : Nat, (Op.equalIn (d + 1) 29 (.slice a n c) (.slice none n' c')).run Tryd.prog w = .ok a.isNone w := by
   intro d
   cases a <;> simp [Op.equalIn, run_underlying Tryd.underlying29]
  simp only [binOp]
  simp [Op.equal, Op.maxDepth, h1 9999]
 have hlim : l0.length < 17592186044416 ∧ l0 = r := by
  unfold slices_Clone_int64_int64.f at h
  by_cases c : l0.length < 17592186044416
  ·rw [if_pos c] at h; exact ⟨c, Option.some.inj h⟩
  ·rw [if_neg c] at h; exact absurd h (by simp)
 obtain ⟨hl, rfl⟩ := hlim
 clear h
 have hnil : A0 = none → l0 = [] := by
  intro h0
  by_cases hp : 0 < l0.length
  ·obtain ⟨ad, h1, _⟩ := hr0.2.2 hp
   rw [h0] at h1; cases h1
  ·exact List.eq_nil_of_length_eq_zero (by omega)
 cases A0 with
 | none =>
  have h0 := hnil rfl
  subst h0
  clear hnil hr0 hc0 hl
  have HB := Aside0.mk (Below.refl w.heap.size w)
  go_enter Tryd.func36, Tryd.ntmps36
  go_wp2
  go_ret
  exact ⟨_, rfl, Kd.R_nil _ _ _ _ _, HB.out⟩
 | some ad =>
  clear hnil
  have HR0 := Aside0.mk hr0
  have HC0 := Aside0.mk hc0
  have HL_ := Aside0.mk hl
  clear hr0 hc0 hl
  have HB := Aside0.mk (Below.refl w.heap.size w)
  go_enter Tryd.func36, Tryd.ntmps36
  go_wp2_with (first | ((with_reducible refine gate_dst (N := 5) rfl ?_); refine Kd.R_lit (Kd.int .i64) _ 2 ?hg (N := 5) ?hd (xs := ([] : List Int)) (inner := []) (ok := fun _ => True) (okp := fun _ => True) ?hr ?hp (fun _ hk => hk) trivial (Below.refl _ _) (Nat.le_refl _) (by simp) ?_; (case hd => rfl); (case hg => rfl); (case hr => first | (go_simp; done) | (go_simp; rfl)); (case hp => exact (Reps.none _ _)); intro v161 w3 ho4 hb hg_ hnew_; clear hg_ hnew_; have HO162 := Aside0.mk (Kd.R_lower ho4 (below_size HB.out)); replace HB := Aside0.mk (below_step HB.out hb); clear hb ho4) | ((with_reducible refine gate_builtin (b := .append) (xs := #[.tmp 5, .tmp 6]) rfl ?_); at_builtin; refine Kd.R_append_rows (Kd.int .i64) (w0 := w) w.heap.size rfl (.tmp 5) (.tmp 6) 29 2 (.int .i64 0) 8 rfl Tryd.underlying29 info2 rfl (by decide) (by omega) v161 ([] : List Int) l0 _ _ _ (fun _ => True) (fun _ => False) rfl rfl ?aO ?aR (fun _ _ h => h) (fun _ h => h.elim) ?aF ?aB ?aS ?aL ?_; (case aR => exact (Kd.C_below HR0.out HB.out)); (case aB => exact HB.out); (case aF => exact (fun _ _ => trivial)); (case aO => exact HO162.out); (case aS => exact (below_size HB.out)); (case aL => have := HL_.out; simp only [List.length_nil]; omega); intro v164 w5 ho hb hg hat; rw [List.nil_append] at ho; replace HB := Aside0.mk (hb); have HO165 := Aside0.mk (ho); clear HO162; clear ho hb hg hat))
  go_ret
  exact ⟨_, rfl, HO165.out, HB.out⟩

/-! ### impl_summed_1: function 38 -/
def impl_summed_1.f (l0_0 : List Int) (a0_1 : Int) : Option (Bool) := some (a0_1 == 0)
set_option maxHeartbeats 8000000 in
set_option maxRecDepth 100000 in
theorem impl_summed_1.calls (A0_0 : Option Addr) (c0_0 : Nat) (l0_0 : List Int) (a0_1 : Int) (r : Bool) (w : World) (hr0_0 : Kd.C (Kd.int .i64) w A0_0 l0_0.length l0_0) (hc0_0 : l0_0.length ≤ c0_0) (h : impl_summed_1.f l0_0 a0_1 = some r) :
  Calls Tryd.prog 38 #[.agg #[.slice A0_0 l0_0.length c0_0, .int .i64 a0_1]] w fun e w' => e = .returned (.bool r) ∧ Below w.heap.size w w' := by
 have hu31 := Tryd.underlying31
 have HR0_0 := Aside0.mk hr0_0
 have HC0_0 := Aside0.mk hc0_0
 clear hr0_0 hc0_0
 have HB := Aside0.mk (Below.refl w.heap.size w)
 have H : (some (a0_1 == 0)) = some r := h
 clear h
 obtain rfl := Option.some.inj H
 go_enter Tryd.func38, Tryd.ntmps38
 go_wp2_with (first | (refine bx_ 1 #[.slice A0_0 l0_0.length c0_0, .int .i64 a0_1] 31 ?_; intro gb230 hg w2 hbox hb; have BK230 := Aside0.mk (hbox); have GW230 := Aside0.mk ((by rw [hg]; exact (below_size cB0_) : w.heap.size ≤ gb230)); have GE230 := Aside0.mk ((by rw [hg]; exact (below_size cB0_) : w.heap.size ≤ gb230)); replace HB := Aside0.mk (below_step cB0_ hb); clear hb hbox hg; obtain ⟨hcz3_0, hcz3_1, hfz3_0, hfz3_1⟩ := cells2 BK230.out))
 go_ret
 exact ⟨ce_, cB1_ GE230.out⟩

/-! ### impl_summed_2: function 40 -/
def impl_summed_2.f (l0_0 : List Int) (a0_1 : Int) : Option (Bool) := (impl_isWeight.f a0_1).bind fun t232 => (some (!t232))
set_option maxHeartbeats 8000000 in
set_option maxRecDepth 100000 in
theorem impl_summed_2.calls (A0_0 : Option Addr) (c0_0 : Nat) (l0_0 : List Int) (a0_1 : Int) (r : Bool) (w : World) (hr0_0 : Kd.C (Kd.int .i64) w A0_0 l0_0.length l0_0) (hc0_0 : l0_0.length ≤ c0_0) (h : impl_summed_2.f l0_0 a0_1 = some r) :
  Calls Tryd.prog 40 #[.agg #[.slice A0_0 l0_0.length c0_0, .int .i64 a0_1]] w fun e w' => e = .returned (.bool r) ∧ Below w.heap.size w w' := by
 have hu31 := Tryd.underlying31
 have HR0_0 := Aside0.mk hr0_0
 have HC0_0 := Aside0.mk hc0_0
 clear hr0_0 hc0_0
 have HB := Aside0.mk (Below.refl w.heap.size w)
 have H : ((impl_isWeight.f a0_1).bind fun t232 => (some (!t232))) = some r := h
 clear h
 obtain ⟨t232, A2, H⟩ := bnd_ H
 try dsimp only at H
 obtain rfl := Option.some.inj H
 go_enter Tryd.func40, Tryd.ntmps40
 go_wp2_with (first | (refine bx_ 1 #[.slice A0_0 l0_0.length c0_0, .int .i64 a0_1] 31 ?_; intro gb231 hg w3 hbox hb; have BK231 := Aside0.mk (hbox); have GW231 := Aside0.mk ((by rw [hg]; exact (below_size cB0_) : w.heap.size ≤ gb231)); have GE231 := Aside0.mk ((by rw [hg]; exact (below_size cB0_) : w.heap.size ≤ gb231)); replace HB := Aside0.mk (below_step cB0_ hb); clear hb hbox hg; obtain ⟨hcz4_0, hcz4_1, hfz4_0, hfz4_1⟩ := cells2 BK231.out) | (refine gl_ 20 (some 5) Tryd.func20 #[.int .i64 a0_1] ?_; (with_reducible refine (impl_isWeight.calls a0_1 t232 _ A2.out).mono ?_); rintro e w' ⟨rfl, ⟨nd, rfl⟩⟩; refine ⟨_, rfl, ?_⟩))
 go_ret
 exact ⟨ce_, cB1_ GE231.out⟩

-- NOT PRINTED: function 9000003 (slices_insertionSortCmpFunc_impl_byRow)

-- NOT PRINTED: function 9000006 (slices_swapRangeCmpFunc_impl_byRow)

-- NOT PRINTED: function 9000005 (slices_rotateCmpFunc_impl_byRow)

-- NOT PRINTED: function 9000004 (slices_symMergeCmpFunc_impl_byRow)

-- NOT PRINTED: function 9000002 (slices_stableCmpFunc_impl_byRow)

-- NOT PRINTED: function 9000001 (slices_SortStableFunc_impl_byRow)

/-! ### slices_IndexFunc_impl_summed_1: function 55 -/
def slices_IndexFunc_impl_summed_1.l0 : Nat → List (S31) → Int → Int → Option (Int)
 | 0, _, _, _ => none
 | k + 1, x0, x7, x8 => if x8 < x7 then (if 0 ≤ x8 then (if x8 < (x0.length : Int) then ((impl_summed_1.f ((rd_T31 x0 x8).f0) ((rd_T31 x0 x8).f1)).bind fun t246 => (if t246 = true then (some x8) else (slices_IndexFunc_impl_summed_1.l0 k x0 x7 (wrap64 (x8 + 1))))) else (none)) else (none)) else (some (-1))
def slices_IndexFunc_impl_summed_1.f (k : Nat) (l0 : List (S31)) (a1 : Unit) : Option (Int) := slices_IndexFunc_impl_summed_1.l0 k l0 (l0.length : Int) 0
theorem slices_IndexFunc_impl_summed_1.mono_l : ∀ k, (∀ y0 y1 y2, LeO (slices_IndexFunc_impl_summed_1.l0 k y0 y1 y2) (slices_IndexFunc_impl_summed_1.l0 (k + 1) y0 y1 y2))
 | 0 => fun _ _ _ r h => by simp [slices_IndexFunc_impl_summed_1.l0] at h
 | k + 1 => by
  have ih0 := slices_IndexFunc_impl_summed_1.mono_l k
  ·intro y0 y1 y2
   unfold slices_IndexFunc_impl_summed_1.l0
   repeat' first
   | (with_reducible exact ih0 _ _ _)
   | (with_reducible exact LeO.refl _)
   | (with_reducible exact LeO.none _)
   | (with_reducible refine LeO.ite ?_ ?_)
   | (with_reducible refine LeO.bind ?_ (fun _ => ?_))
   | exact ih0 _ _ _
   | exact LeO.none _
   | refine LeO.ite ?_ ?_
   | refine LeO.bind ?_ (fun _ => ?_)
theorem slices_IndexFunc_impl_summed_1.mono : ∀ a0 a1 k, LeO (slices_IndexFunc_impl_summed_1.f k a0 a1) (slices_IndexFunc_impl_summed_1.f (k + 1) a0 a1) := by
 intro a0 a1 k
 have ih0 := slices_IndexFunc_impl_summed_1.mono_l k
 unfold slices_IndexFunc_impl_summed_1.f
 repeat' first
   | (with_reducible exact ih0 _ _ _)
   | (with_reducible exact LeO.refl _)
   | (with_reducible exact LeO.none _)
   | (with_reducible refine LeO.ite ?_ ?_)
   | (with_reducible refine LeO.bind ?_ (fun _ => ?_))
   | exact ih0 _ _ _
   | exact LeO.none _
   | refine LeO.ite ?_ ?_
   | refine LeO.bind ?_ (fun _ => ?_)
set_option maxHeartbeats 8000000 in
set_option maxRecDepth 100000 in
theorem slices_IndexFunc_impl_summed_1.calls (k : Nat) (A0 : Option Addr) (c0 : Nat) (l0 : List (S31)) (a1 : Unit) (r : Int) (w : World) (hr0 : Kd.C k31 w A0 l0.length l0) (hc0 : l0.length ≤ c0) (h : slices_IndexFunc_impl_summed_1.f k l0 a1 = some r) :
  Calls Tryd.prog 55 #[.slice A0 l0.length c0, .func (.func 38) #[] #[]] w fun e w' => e = .returned (.int .i64 r) ∧ Below w.heap.size w w' := by
 have hu31 := Tryd.underlying31
 have HR0 := Aside0.mk hr0
 have HC0 := Aside0.mk hc0
 clear hr0 hc0
 have HB := Aside0.mk (Below.refl w.heap.size w)
 have H : (slices_IndexFunc_impl_summed_1.l0 k l0 (l0.length : Int) 0) = some r := h
 clear h
 have H' := Aside0.mk H
 clear H
 go_enter Tryd.func55, Tryd.ntmps55
 go_wp2
 go_loopg [8] k (fun kq v8 w' => ∃ (x8_1 : Int), v8 = .int .i64 x8_1 ∧ Aside0 (slices_IndexFunc_impl_summed_1.l0 kq l0 (l0.length : Int) x8_1 = some r) ∧ Aside0 (kq ≤ k) ∧ Aside0 (Below w.heap.size w w'))
 case atStart => exact ⟨(0), cs_, H', ⟨Nat.le_refl _⟩, ⟨cB0_⟩⟩
 case round =>
  clear H'
  try clear p2
  obtain ⟨x8_1, rfl, HA, HK1, HB⟩ := hrel
  cases gk with
  | zero => exact absurd HA.out (by simp [slices_IndexFunc_impl_summed_1.l0])
  | succ k1 =>
   have H := HA.out
   clear HA
   simp only [slices_IndexFunc_impl_summed_1.l0] at H
   by_cases c3 : x8_1 < (l0.length : Int)
   rotate_left
   ·rw [if_neg c3] at H
    have c3b0 : decide (x8_1 < (l0.length : Int)) = false := decide_eq_false c3
    clear c3
    obtain rfl := Option.some.inj H
    go_wp2
    go_ret
    exact ⟨ce_, cB0_⟩
   rw [if_pos c3] at H
   have c3b0 : decide (x8_1 < (l0.length : Int)) = true := decide_eq_true c3
   clear c3
   by_cases c4 : 0 ≤ x8_1
   rotate_left
   ·rw [if_neg c4] at H
    exact absurd H (by simp)
   rw [if_pos c4] at H
   have c4b0 : decide (0 ≤ x8_1) = true := decide_eq_true c4
   clear c4
   by_cases c5 : x8_1 < (l0.length : Int)
   rotate_left
   ·rw [if_neg c5] at H
    exact absurd H (by simp)
   rw [if_pos c5] at H
   have c5b0 : decide (x8_1 < (l0.length : Int)) = true := decide_eq_true c5
   clear c5
   obtain ⟨t246, A6, H⟩ := bnd_ H
   try dsimp only at H
   by_cases c7 : t246 = true
   ·subst c7
    rw [if_pos rfl] at H
    obtain rfl := Option.some.inj H
    have p245 : 0 ≤ (x8_1 : Int) := of_decide_eq_true ca_
    have q245 : x8_1 < (l0.length : Int) := of_decide_eq_true ca_
    obtain ⟨ad245, A245_0, c245_0, e245, hx245_0, hx245_1, hl245_0, hi245_0⟩ := at_T31 HR0.out x8_1 p245 q245
    cases e245
    replace hx245_0 := (HB.out.cell (World.block_lt_of_cell? w _ hx245_0)).trans hx245_0
    replace hx245_1 := (HB.out.cell (World.block_lt_of_cell? w _ hx245_1)).trans hx245_1
    have HR245_0 := Aside0.mk hi245_0
    have HC245_0 := Aside0.mk hl245_0
    clear hi245_0 hl245_0
    replace p245 := eq_true p245
    replace q245 := eq_true q245
    go_wp2_with (first | ((refine gate_fn_ (f := 38) (by with_reducible rfl) (by rfl) ?_); refine goesF_ (some 16) rfl rfl Tryd.func38 (by kernel_rfl) rfl #[.agg #[.slice A245_0 ((rd_T31 l0 x8_1).f0).length c245_0, .int .i64 ((rd_T31 l0 x8_1).f1)]] rfl (by rfl) cx_ ?_; (with_reducible refine (impl_summed_1.calls _ _ ((rd_T31 l0 x8_1).f0) ((rd_T31 l0 x8_1).f1) true _ ?side1 ?side2 A6.out).mono ?_); (case side1 => exact cC_ (Kd.C_below HR245_0.out HB.out)); (case side2 => exact HC245_0.out); rintro e w8 ⟨rfl, hb⟩; refine ⟨_, rfl, ?_⟩; replace HB := Aside0.mk (below_step cB0_ hb); (try clear hb); (try clear hb2); (try clear hk); (try clear hi)))
    go_ret
    exact ⟨ce_, cB0_⟩
   replace c7 := Bool.eq_false_iff.mpr c7
   subst c7
   rw [if_neg (show ¬ (false = true) by decide)] at H
   have H' := Aside0.mk H
   clear H
   have p245 : 0 ≤ (x8_1 : Int) := of_decide_eq_true ca_
   have q245 : x8_1 < (l0.length : Int) := of_decide_eq_true ca_
   obtain ⟨ad245, A245_0, c245_0, e245, hx245_0, hx245_1, hl245_0, hi245_0⟩ := at_T31 HR0.out x8_1 p245 q245
   cases e245
   replace hx245_0 := (HB.out.cell (World.block_lt_of_cell? w _ hx245_0)).trans hx245_0
   replace hx245_1 := (HB.out.cell (World.block_lt_of_cell? w _ hx245_1)).trans hx245_1
   have HR245_0 := Aside0.mk hi245_0
   have HC245_0 := Aside0.mk hl245_0
   clear hi245_0 hl245_0
   replace p245 := eq_true p245
   replace q245 := eq_true q245
   go_wp2_with (first | ((refine gate_fn_ (f := 38) (by with_reducible rfl) (by rfl) ?_); refine goesF_ (some 16) rfl rfl Tryd.func38 (by kernel_rfl) rfl #[.agg #[.slice A245_0 ((rd_T31 l0 x8_1).f0).length c245_0, .int .i64 ((rd_T31 l0 x8_1).f1)]] rfl (by rfl) cx_ ?_; (with_reducible refine (impl_summed_1.calls _ _ ((rd_T31 l0 x8_1).f0) ((rd_T31 l0 x8_1).f1) false _ ?side1 ?side2 A6.out).mono ?_); (case side1 => exact cC_ (Kd.C_below HR245_0.out HB.out)); (case side2 => exact HC245_0.out); rintro e w9 ⟨rfl, hb⟩; refine ⟨_, rfl, ?_⟩; replace HB := Aside0.mk (below_step cB0_ hb); (try clear hb); (try clear hb2); (try clear hk); (try clear hi)))
   go_roundg k1
   case measure => have := HK1.out; omega
   case rel => exact ⟨(wrap64 (x8_1 + 1)), cs_, H', ⟨co_ HK1.out⟩, ⟨cB0_⟩⟩

-- NOT PRINTED: function 9000007 (slices_DeleteFunc_impl_summed_1)

/-! ### slices_IndexFunc_impl_summed_2: function 55 -/
def slices_IndexFunc_impl_summed_2.l0 : Nat → List (S31) → Int → Int → Option (Int)
 | 0, _, _, _ => none
 | k + 1, x0, x7, x8 => if x8 < x7 then (if 0 ≤ x8 then (if x8 < (x0.length : Int) then ((impl_summed_2.f ((rd_T31 x0 x8).f0) ((rd_T31 x0 x8).f1)).bind fun t252 => (if t252 = true then (some x8) else (slices_IndexFunc_impl_summed_2.l0 k x0 x7 (wrap64 (x8 + 1))))) else (none)) else (none)) else (some (-1))
def slices_IndexFunc_impl_summed_2.f (k : Nat) (l0 : List (S31)) (a1 : Unit) : Option (Int) := slices_IndexFunc_impl_summed_2.l0 k l0 (l0.length : Int) 0
theorem slices_IndexFunc_impl_summed_2.mono_l : ∀ k, (∀ y0 y1 y2, LeO (slices_IndexFunc_impl_summed_2.l0 k y0 y1 y2) (slices_IndexFunc_impl_summed_2.l0 (k + 1) y0 y1 y2))
 | 0 => fun _ _ _ r h => by simp [slices_IndexFunc_impl_summed_2.l0] at h
 | k + 1 => by
  have ih0 := slices_IndexFunc_impl_summed_2.mono_l k
  ·intro y0 y1 y2
   unfold slices_IndexFunc_impl_summed_2.l0
   repeat' first
   | (with_reducible exact ih0 _ _ _)
   | (with_reducible exact LeO.refl _)
   | (with_reducible exact LeO.none _)
   | (with_reducible refine LeO.ite ?_ ?_)
   | (with_reducible refine LeO.bind ?_ (fun _ => ?_))
   | exact ih0 _ _ _
   | exact LeO.none _
   | refine LeO.ite ?_ ?_
   | refine LeO.bind ?_ (fun _ => ?_)
theorem slices_IndexFunc_impl_summed_2.mono : ∀ a0 a1 k, LeO (slices_IndexFunc_impl_summed_2.f k a0 a1) (slices_IndexFunc_impl_summed_2.f (k + 1) a0 a1) := by
 intro a0 a1 k
 have ih0 := slices_IndexFunc_impl_summed_2.mono_l k
 unfold slices_IndexFunc_impl_summed_2.f
 repeat' first
   | (with_reducible exact ih0 _ _ _)
   | (with_reducible exact LeO.refl _)
   | (with_reducible exact LeO.none _)
   | (with_reducible refine LeO.ite ?_ ?_)
   | (with_reducible refine LeO.bind ?_ (fun _ => ?_))
   | exact ih0 _ _ _
   | exact LeO.none _
   | refine LeO.ite ?_ ?_
   | refine LeO.bind ?_ (fun _ => ?_)
set_option maxHeartbeats 8000000 in
set_option maxRecDepth 100000 in
theorem slices_IndexFunc_impl_summed_2.calls (k : Nat) (A0 : Option Addr) (c0 : Nat) (l0 : List (S31)) (a1 : Unit) (r : Int) (w : World) (hr0 : Kd.C k31 w A0 l0.length l0) (hc0 : l0.length ≤ c0) (h : slices_IndexFunc_impl_summed_2.f k l0 a1 = some r) :
  Calls Tryd.prog 55 #[.slice A0 l0.length c0, .func (.func 40) #[] #[]] w fun e w' => e = .returned (.int .i64 r) ∧ Below w.heap.size w w' := by
 have hu31 := Tryd.underlying31
 have HR0 := Aside0.mk hr0
 have HC0 := Aside0.mk hc0
 clear hr0 hc0
 have HB := Aside0.mk (Below.refl w.heap.size w)
 have H : (slices_IndexFunc_impl_summed_2.l0 k l0 (l0.length : Int) 0) = some r := h
 clear h
 have H' := Aside0.mk H
 clear H
 go_enter Tryd.func55, Tryd.ntmps55
 go_wp2
 go_loopg [8] k (fun kq v8 w' => ∃ (x8_1 : Int), v8 = .int .i64 x8_1 ∧ Aside0 (slices_IndexFunc_impl_summed_2.l0 kq l0 (l0.length : Int) x8_1 = some r) ∧ Aside0 (kq ≤ k) ∧ Aside0 (Below w.heap.size w w'))
 case atStart => exact ⟨(0), cs_, H', ⟨Nat.le_refl _⟩, ⟨cB0_⟩⟩
 case round =>
  clear H'
  try clear p2
  obtain ⟨x8_1, rfl, HA, HK1, HB⟩ := hrel
  cases gk with
  | zero => exact absurd HA.out (by simp [slices_IndexFunc_impl_summed_2.l0])
  | succ k1 =>
   have H := HA.out
   clear HA
   simp only [slices_IndexFunc_impl_summed_2.l0] at H
   by_cases c3 : x8_1 < (l0.length : Int)
   rotate_left
   ·rw [if_neg c3] at H
    have c3b0 : decide (x8_1 < (l0.length : Int)) = false := decide_eq_false c3
    clear c3
    obtain rfl := Option.some.inj H
    go_wp2
    go_ret
    exact ⟨ce_, cB0_⟩
   rw [if_pos c3] at H
   have c3b0 : decide (x8_1 < (l0.length : Int)) = true := decide_eq_true c3
   clear c3
   by_cases c4 : 0 ≤ x8_1
   rotate_left
   ·rw [if_neg c4] at H
    exact absurd H (by simp)
   rw [if_pos c4] at H
   have c4b0 : decide (0 ≤ x8_1) = true := decide_eq_true c4
   clear c4
   by_cases c5 : x8_1 < (l0.length : Int)
   rotate_left
   ·rw [if_neg c5] at H
    exact absurd H (by simp)
   rw [if_pos c5] at H
   have c5b0 : decide (x8_1 < (l0.length : Int)) = true := decide_eq_true c5
   clear c5
   obtain ⟨t252, A6, H⟩ := bnd_ H
   try dsimp only at H
   by_cases c7 : t252 = true
   ·subst c7
    rw [if_pos rfl] at H
    obtain rfl := Option.some.inj H
    have p251 : 0 ≤ (x8_1 : Int) := of_decide_eq_true ca_
    have q251 : x8_1 < (l0.length : Int) := of_decide_eq_true ca_
    obtain ⟨ad251, A251_0, c251_0, e251, hx251_0, hx251_1, hl251_0, hi251_0⟩ := at_T31 HR0.out x8_1 p251 q251
    cases e251
    replace hx251_0 := (HB.out.cell (World.block_lt_of_cell? w _ hx251_0)).trans hx251_0
    replace hx251_1 := (HB.out.cell (World.block_lt_of_cell? w _ hx251_1)).trans hx251_1
    have HR251_0 := Aside0.mk hi251_0
    have HC251_0 := Aside0.mk hl251_0
    clear hi251_0 hl251_0
    replace p251 := eq_true p251
    replace q251 := eq_true q251
    go_wp2_with (first | ((refine gate_fn_ (f := 40) (by with_reducible rfl) (by rfl) ?_); refine goesF_ (some 16) rfl rfl Tryd.func40 (by kernel_rfl) rfl #[.agg #[.slice A251_0 ((rd_T31 l0 x8_1).f0).length c251_0, .int .i64 ((rd_T31 l0 x8_1).f1)]] rfl (by rfl) cx_ ?_; (with_reducible refine (impl_summed_2.calls _ _ ((rd_T31 l0 x8_1).f0) ((rd_T31 l0 x8_1).f1) true _ ?side1 ?side2 A6.out).mono ?_); (case side1 => exact cC_ (Kd.C_below HR251_0.out HB.out)); (case side2 => exact HC251_0.out); rintro e w8 ⟨rfl, hb⟩; refine ⟨_, rfl, ?_⟩; replace HB := Aside0.mk (below_step cB0_ hb); (try clear hb); (try clear hb2); (try clear hk); (try clear hi)))
    go_ret
    exact ⟨ce_, cB0_⟩
   replace c7 := Bool.eq_false_iff.mpr c7
   subst c7
   rw [if_neg (show ¬ (false = true) by decide)] at H
   have H' := Aside0.mk H
   clear H
   have p251 : 0 ≤ (x8_1 : Int) := of_decide_eq_true ca_
   have q251 : x8_1 < (l0.length : Int) := of_decide_eq_true ca_
   obtain ⟨ad251, A251_0, c251_0, e251, hx251_0, hx251_1, hl251_0, hi251_0⟩ := at_T31 HR0.out x8_1 p251 q251
   cases e251
   replace hx251_0 := (HB.out.cell (World.block_lt_of_cell? w _ hx251_0)).trans hx251_0
   replace hx251_1 := (HB.out.cell (World.block_lt_of_cell? w _ hx251_1)).trans hx251_1
   have HR251_0 := Aside0.mk hi251_0
   have HC251_0 := Aside0.mk hl251_0
   clear hi251_0 hl251_0
   replace p251 := eq_true p251
   replace q251 := eq_true q251
   go_wp2_with (first | ((refine gate_fn_ (f := 40) (by with_reducible rfl) (by rfl) ?_); refine goesF_ (some 16) rfl rfl Tryd.func40 (by kernel_rfl) rfl #[.agg #[.slice A251_0 ((rd_T31 l0 x8_1).f0).length c251_0, .int .i64 ((rd_T31 l0 x8_1).f1)]] rfl (by rfl) cx_ ?_; (with_reducible refine (impl_summed_2.calls _ _ ((rd_T31 l0 x8_1).f0) ((rd_T31 l0 x8_1).f1) false _ ?side1 ?side2 A6.out).mono ?_); (case side1 => exact cC_ (Kd.C_below HR251_0.out HB.out)); (case side2 => exact HC251_0.out); rintro e w9 ⟨rfl, hb⟩; refine ⟨_, rfl, ?_⟩; replace HB := Aside0.mk (below_step cB0_ hb); (try clear hb); (try clear hb2); (try clear hk); (try clear hi)))
   go_roundg k1
   case measure => have := HK1.out; omega
   case rel => exact ⟨(wrap64 (x8_1 + 1)), cs_, H', ⟨co_ HK1.out⟩, ⟨cB0_⟩⟩

/-! ### slices_ContainsFunc_impl_summed_2: function 39 -/
def slices_ContainsFunc_impl_summed_2.f (k : Nat) (l0 : List (S31)) (a1 : Unit) : Option (Bool) := (slices_IndexFunc_impl_summed_2.f k l0 a1).bind fun t253 => (some (decide (t253 ≥ 0)))
theorem slices_ContainsFunc_impl_summed_2.mono : ∀ a0 a1 k, LeO (slices_ContainsFunc_impl_summed_2.f k a0 a1) (slices_ContainsFunc_impl_summed_2.f (k + 1) a0 a1) := by
 intro a0 a1 k
 unfold slices_ContainsFunc_impl_summed_2.f
 repeat' first
   | (with_reducible exact slices_IndexFunc_impl_summed_2.mono _ _ _)
   | (with_reducible exact LeO.refl _)
   | (with_reducible exact LeO.none _)
   | (with_reducible refine LeO.ite ?_ ?_)
   | (with_reducible refine LeO.bind ?_ (fun _ => ?_))
   | exact slices_IndexFunc_impl_summed_2.mono _ _ _
   | exact LeO.none _
   | refine LeO.ite ?_ ?_
   | refine LeO.bind ?_ (fun _ => ?_)
set_option maxHeartbeats 8000000 in
set_option maxRecDepth 100000 in
theorem slices_ContainsFunc_impl_summed_2.calls (k : Nat) (A0 : Option Addr) (c0 : Nat) (l0 : List (S31)) (a1 : Unit) (r : Bool) (w : World) (hr0 : Kd.C k31 w A0 l0.length l0) (hc0 : l0.length ≤ c0) (h : slices_ContainsFunc_impl_summed_2.f k l0 a1 = some r) :
  Calls Tryd.prog 39 #[.slice A0 l0.length c0, .func (.func 40) #[] #[]] w fun e w' => e = .returned (.bool r) ∧ Below w.heap.size w w' := by
 have HR0 := Aside0.mk hr0
 have HC0 := Aside0.mk hc0
 clear hr0 hc0
 have HB := Aside0.mk (Below.refl w.heap.size w)
 have H : ((slices_IndexFunc_impl_summed_2.f k l0 a1).bind fun t253 => (some (decide (t253 ≥ 0)))) = some r := h
 clear h
 obtain ⟨t253, A3, H⟩ := bnd_ H
 try dsimp only at H
 obtain rfl := Option.some.inj H
 go_enter Tryd.func39, Tryd.ntmps39
 go_wp2_with (first | (refine gl_ 55 (some 7) Tryd.func55 #[.slice A0 l0.length c0, .func (.func 40) #[] #[]] ?_; (with_reducible refine (slices_IndexFunc_impl_summed_2.calls k _ _ l0 a1 t253 _ ?side1 ?side2 A3.out).mono ?_); (case side1 => exact cC_ HR0.out); (case side2 => exact HC0.out); rintro e w4 ⟨rfl, hb⟩; refine ⟨_, rfl, ?_⟩; replace HB := Aside0.mk (below_step cB0_ hb); (try clear hb); (try clear hb2); (try clear hk); (try clear hi)))
 go_ret
 exact ⟨ce_, cB0_⟩

end Go.Proofs.YthgmicingbjemaaDoor.PFnSums
