-- Written by fprint, a program of this session, out of Lean's own print of the translation. Lean checks it.
import Derived.Test.YthgmicingbjemaaPFnExactJoinSetsx0
namespace Go.Proofs.Ythgmicingbjemaa.PFnExactJoinSets
open Go.RowKit Go.Proofs.YthgmicingbjemaaW.PrintWords Go.Proofs.YthgmicingbjemaaW.PrintLast Go.Proofs.YthgmicingbjemaaW.PrintMore
attribute [local go_sem] max2_int min2_int max_two min_two max_three min_three max_four min_four   -- for this text's walks alone
set_option linter.unusedVariables false
set_option linter.unusedSimpArgs false

theorem b3_0 {p : Prop} (h : p := by first | exact ⟨rfl, _, World.drewN_drewN _ _ _⟩ | exact ⟨rfl, _, Eq.trans (World.drewN_drewN _ _ _) (congrArg (World.drewN _) (Nat.add_assoc _ _ _))⟩) : p := h
theorem b3_1 {p : Prop} (h : p := by first | (with_reducible assumption) | assumption) : p := h
theorem b3_2 {p : Prop} (h : p := by repeat (first | exact HR152_0.out | (with_reducible refine Kd.C_alloc ?_ _) | (with_reducible refine Kd.C_drewN ?_ _) | (with_reducible refine Kd.C_drew ?_))) : p := h
theorem b3_3 {p : Prop} (h : p := by repeat (first | exact HR157_0.out | (with_reducible refine Kd.C_alloc ?_ _) | (with_reducible refine Kd.C_drewN ?_ _) | (with_reducible refine Kd.C_drew ?_))) : p := h
theorem b3_4 {p : Prop} (h : p := by repeat (first | exact HR158_0.out | (with_reducible refine Kd.C_alloc ?_ _) | (with_reducible refine Kd.C_drewN ?_ _) | (with_reducible refine Kd.C_drew ?_))) : p := h
theorem q3_0 {p : Prop} (h : p := by repeat (first | exact Drawn0.refl _ | apply Drawn0.step)) : p := h
theorem q3_1 {p : Prop} (h : p := by first | rfl | (simp; done) | (simp [*]; done)) : p := h
theorem q3_2 {p : Prop} (h : p := by have := HK1.out; first | omega | exact Nat.le_refl _) : p := h
/-! ### spec_l1In: function 54 -/
def spec_l1In.f (a0 : Int) (a1 : Int) (a2 : Int) : Option (Bool) := if a0 ≥ a1 then (some (decide (a0 ≤ a2))) else (some false)
set_option maxHeartbeats 8000000 in
set_option maxRecDepth 100000 in
theorem spec_l1In.calls (a0 : Int) (a1 : Int) (a2 : Int) (r : Bool) (w : World) (h : spec_l1In.f a0 a1 a2 = some r) :
  Calls Try.prog 54 #[.int .i64 a0, .int .i64 a1, .int .i64 a2] w fun e w' => e = .returned (.bool r) ∧ Drawn0 w w' := by
 have H : (if a0 ≥ a1 then (some (decide (a0 ≤ a2))) else (some false)) = some r := h
 clear h
 by_cases c4 : a0 ≥ a1
 ·rw [if_pos c4] at H
  have c4b0 : decide (a1 ≤ a0) = true := decide_eq_true c4
  clear c4
  obtain rfl := Option.some.inj H
  go_enter Try.func54, Try.ntmps54
  go_wp2
  go_ret
  exact ⟨q3_1, q3_0⟩
 rw [if_neg c4] at H
 have c4b0 : decide (a1 ≤ a0) = false := decide_eq_false c4
 clear c4
 obtain rfl := Option.some.inj H
 go_enter Try.func54, Try.ntmps54
 go_wp2
 go_ret
 exact ⟨q3_1, q3_0⟩

/-! ### spec_RowFault: function 44 -/
def spec_RowFault.l0 : Nat → List Int → Int → Option (Int)
 | 0, _, _ => none
 | k + 1, x0, x3 => if x3 < (x0.length : Int) then (if 0 ≤ x3 then ((spec_l1In.f (rd x0 x3) (-1000000000) 1000000000).bind fun t146 => (if t146 = true then (spec_RowFault.l0 k x0 (wrap64 (x3 + 1))) else (some 3))) else (none)) else (some 0)
def spec_RowFault.f (k : Nat) (l0 : List Int) : Option (Int) := if (l0.length : Int) > 4 then (some 2) else (spec_RowFault.l0 k l0 0)
theorem spec_RowFault.mono_l : ∀ k, (∀ y0 y1, LeO (spec_RowFault.l0 k y0 y1) (spec_RowFault.l0 (k + 1) y0 y1))
 | 0 => fun _ _ r h => by simp [spec_RowFault.l0] at h
 | k + 1 => by
  have ih0 := spec_RowFault.mono_l k
  ·intro y0 y1
   unfold spec_RowFault.l0
   repeat' first
   | (with_reducible exact ih0 _ _)
   | (with_reducible exact LeO.refl _)
   | (with_reducible exact LeO.none _)
   | (with_reducible refine LeO.ite ?_ ?_)
   | (with_reducible refine LeO.bind ?_ (fun _ => ?_))
   | exact ih0 _ _
   | exact LeO.none _
   | refine LeO.ite ?_ ?_
   | refine LeO.bind ?_ (fun _ => ?_)
theorem spec_RowFault.mono : ∀ a0 k, LeO (spec_RowFault.f k a0) (spec_RowFault.f (k + 1) a0) := by
 intro a0 k
 have ih0 := spec_RowFault.mono_l k
 unfold spec_RowFault.f
 repeat' first
   | (with_reducible exact ih0 _ _)
   | (with_reducible exact LeO.refl _)
   | (with_reducible exact LeO.none _)
   | (with_reducible refine LeO.ite ?_ ?_)
   | (with_reducible refine LeO.bind ?_ (fun _ => ?_))
   | exact ih0 _ _
   | exact LeO.none _
   | refine LeO.ite ?_ ?_
   | refine LeO.bind ?_ (fun _ => ?_)
set_option maxHeartbeats 8000000 in
set_option maxRecDepth 100000 in
theorem spec_RowFault.calls (k : Nat) (A0 : Option Addr) (c0 : Nat) (l0 : List Int) (r : Int) (w : World) (hr0 : Kd.C (Kd.int .i64) w A0 l0.length l0) (hc0 : l0.length ≤ c0) (h : spec_RowFault.f k l0 = some r) :
  Calls Try.prog 44 #[.slice A0 l0.length c0] w fun e w' => e = .returned (.int .i64 r) ∧ Drawn0 w w' := by
 have HR0 := Aside0.mk hr0
 have HC0 := Aside0.mk hc0
 clear hr0 hc0
 have H : (if (l0.length : Int) > 4 then (some 2) else (spec_RowFault.l0 k l0 0)) = some r := h
 clear h
 by_cases c2 : (l0.length : Int) > 4
 ·rw [if_pos c2] at H
  have c2b0 : decide (4 < (l0.length : Int)) = true := decide_eq_true c2
  have c2b1 : decide (4 < l0.length) = true := decide_eq_true (by omega)
  clear c2
  obtain rfl := Option.some.inj H
  go_enter Try.func44, Try.ntmps44
  go_wp2
  go_ret
  exact ⟨q3_1, q3_0⟩
 rw [if_neg c2] at H
 have c2b0 : decide (4 < (l0.length : Int)) = false := decide_eq_false c2
 have c2b1 : decide (4 < l0.length) = false := decide_eq_false (by omega)
 clear c2
 have H' := Aside0.mk H
 clear H
 go_enter Try.func44, Try.ntmps44
 go_wp2
 go_loopg [3] k (fun kq v3 w' => ∃ (x3_1 : Int), v3 = .int .i64 x3_1 ∧ Aside0 (spec_RowFault.l0 kq l0 x3_1 = some r) ∧ Aside0 (kq ≤ k) ∧ Drawn0 w w')
 case atStart => exact ⟨(0), (by first | rfl | (simp; done) | (simp [*]; done)), H', ⟨Nat.le_refl _⟩, q3_0⟩
 case round =>
  clear H'
  try clear c2
  try clear c2b0
  try clear c2b1
  try clear p2
  obtain ⟨x3_1, rfl, HA, HK1, ⟨m1, rfl⟩⟩ := hrel
  cases gk with
  | zero => exact absurd HA.out (by simp [spec_RowFault.l0])
  | succ k1 =>
   have H := HA.out
   clear HA
   simp only [spec_RowFault.l0] at H
   by_cases c3 : x3_1 < (l0.length : Int)
   rotate_left
   ·rw [if_neg c3] at H
    have c3b0 : decide (x3_1 < (l0.length : Int)) = false := decide_eq_false c3
    clear c3
    obtain rfl := Option.some.inj H
    go_wp2
    go_ret
    exact ⟨q3_1, q3_0⟩
   rw [if_pos c3] at H
   have c3b0 : decide (x3_1 < (l0.length : Int)) = true := decide_eq_true c3
   clear c3
   by_cases c4 : 0 ≤ x3_1
   rotate_left
   ·rw [if_neg c4] at H
    exact absurd H (by simp)
   rw [if_pos c4] at H
   have c4b0 : decide (0 ≤ x3_1) = true := decide_eq_true c4
   clear c4
   replace H := Option.bind_eq_some_iff.mp H
   obtain ⟨t146, A50, H⟩ := H
   replace H : (if t146 = true then (spec_RowFault.l0 k1 l0 (wrap64 (x3_1 + 1))) else (some 3)) = some r := H
   have A5 := Aside0.mk A50
   clear A50
   by_cases c6 : t146 = true
   ·subst c6
    have H1 : (spec_RowFault.l0 k1 l0 (wrap64 (x3_1 + 1))) = some r := by rw [if_pos rfl] at H; exact H
    clear H
    have H := H1
    clear H1
    have H' := Aside0.mk H
    clear H
    have p145 : 0 ≤ (x3_1 : Int) := of_decide_eq_true b3_1
    have q145 : x3_1 < (l0.length : Int) := of_decide_eq_true b3_1
    obtain ⟨ad145, e145, hx145_0⟩ := Kd.at_int HR0.out x3_1 p145 q145
    cases e145
    replace p145 := eq_true p145
    replace q145 := eq_true q145
    go_wp2_with (first | ((with_reducible refine gate_callee (f := 54) rfl ?_); refine goesL_ (some 17) rfl rfl Try.func54 (by kernel_rfl) rfl #[.int .i64 (rd l0 x3_1), .int .i64 (-1000000000), .int .i64 1000000000] rfl (by (try simp only [List.map_toArray, List.map_cons, List.map_nil]); first | done | rfl | (simp only [List.length_drop, List.length_take]; rfl)) ?_; (with_reducible refine (spec_l1In.calls (rd l0 x3_1) (-1000000000) 1000000000 true _ A5.out).mono ?_); rintro e w' ⟨rfl, ⟨nd, rfl⟩⟩; refine ⟨_, rfl, ?_⟩))
    go_roundg k1
    case measure => have := HK1.out; omega
    case rel => exact ⟨(wrap64 (x3_1 + 1)), (by first | rfl | (simp; done) | (simp [*]; done)), H', ⟨by have := HK1.out; omega⟩, q3_0⟩
   replace c6 := Bool.eq_false_iff.mpr c6
   subst c6
   have H1 : (some 3) = some r := by rw [if_neg (show ¬ (false = true) by decide)] at H; exact H
   clear H
   have H := H1
   clear H1
   obtain rfl := Option.some.inj H
   have p145 : 0 ≤ (x3_1 : Int) := of_decide_eq_true b3_1
   have q145 : x3_1 < (l0.length : Int) := of_decide_eq_true b3_1
   obtain ⟨ad145, e145, hx145_0⟩ := Kd.at_int HR0.out x3_1 p145 q145
   cases e145
   replace p145 := eq_true p145
   replace q145 := eq_true q145
   go_wp2_with (first | ((with_reducible refine gate_callee (f := 54) rfl ?_); refine goesL_ (some 17) rfl rfl Try.func54 (by kernel_rfl) rfl #[.int .i64 (rd l0 x3_1), .int .i64 (-1000000000), .int .i64 1000000000] rfl (by (try simp only [List.map_toArray, List.map_cons, List.map_nil]); first | done | rfl | (simp only [List.length_drop, List.length_take]; rfl)) ?_; (with_reducible refine (spec_l1In.calls (rd l0 x3_1) (-1000000000) 1000000000 false _ A5.out).mono ?_); rintro e w' ⟨rfl, ⟨nd, rfl⟩⟩; refine ⟨_, rfl, ?_⟩))
   go_ret
   exact ⟨q3_1, q3_0⟩

/-! ### spec_l1Weight: function 45 -/
def spec_l1Weight.f (a0 : Int) : Option (Bool) := (spec_l1In.f a0 (-1000000000000) 1000000000000).bind fun t147 => (some t147)
set_option maxHeartbeats 8000000 in
set_option maxRecDepth 100000 in
theorem spec_l1Weight.calls (a0 : Int) (r : Bool) (w : World) (h : spec_l1Weight.f a0 = some r) :
  Calls Try.prog 45 #[.int .i64 a0] w fun e w' => e = .returned (.bool r) ∧ Drawn0 w w' := by
 have H : ((spec_l1In.f a0 (-1000000000000) 1000000000000).bind fun t147 => (some t147)) = some r := h
 clear h
 replace H := Option.bind_eq_some_iff.mp H
 obtain ⟨t147, A20, H⟩ := H
 replace H : (some t147) = some r := H
 have A2 := Aside0.mk A20
 clear A20
 obtain rfl := Option.some.inj H
 go_enter Try.func45, Try.ntmps45
 go_wp2_with (first | ((with_reducible refine gate_callee (f := 54) rfl ?_); refine goesL_ (some 4) rfl rfl Try.func54 (by kernel_rfl) rfl #[.int .i64 a0, .int .i64 (-1000000000000), .int .i64 1000000000000] rfl (by (try simp only [List.map_toArray, List.map_cons, List.map_nil]); first | done | rfl | (simp only [List.length_drop, List.length_take]; rfl)) ?_; (with_reducible refine (spec_l1In.calls a0 (-1000000000000) 1000000000000 t147 _ A2.out).mono ?_); rintro e w' ⟨rfl, ⟨nd, rfl⟩⟩; refine ⟨_, rfl, ?_⟩))
 go_ret
 exact ⟨q3_1, q3_0⟩

/-! ### spec_CompareRows: function 99 -/
mutual
def spec_CompareRows.l0 : Nat → List Int → List Int → Int → Option (Int)
 | 0, _, _, _ => none
 | k + 1, x0, x1, x5 => if x5 < (x0.length : Int) then (spec_CompareRows.j1 k x0 x1 x5 (decide (x5 < (x1.length : Int)))) else (spec_CompareRows.j1 k x0 x1 x5 false)
def spec_CompareRows.j1 : Nat → List Int → List Int → Int → Bool → Option (Int)
 | 0, _, _, _, _ => none
 | k + 1, x0, x1, x5, x15 => if x15 = true then (if 0 ≤ x5 then (if x5 < (x0.length : Int) then (if x5 < (x1.length : Int) then (if (rd x0 x5) < (rd x1 x5) then (some (-1)) else (if (rd x0 x5) > (rd x1 x5) then (some 1) else (spec_CompareRows.l0 k x0 x1 (wrap64 (x5 + 1))))) else (none)) else (none)) else (none)) else (if (x0.length : Int) < (x1.length : Int) then (some (-1)) else (if (x0.length : Int) > (x1.length : Int) then (some 1) else (some 0)))
end
def spec_CompareRows.f (k : Nat) (l0 : List Int) (l1 : List Int) : Option (Int) := spec_CompareRows.l0 k l0 l1 0
theorem spec_CompareRows.mono_l : ∀ k, (∀ y0 y1 y2, LeO (spec_CompareRows.l0 k y0 y1 y2) (spec_CompareRows.l0 (k + 1) y0 y1 y2)) ∧ (∀ y0 y1 y2 y3, LeO (spec_CompareRows.j1 k y0 y1 y2 y3) (spec_CompareRows.j1 (k + 1) y0 y1 y2 y3))
 | 0 => ⟨fun _ _ _ r h => by simp [spec_CompareRows.l0] at h, fun _ _ _ _ r h => by simp [spec_CompareRows.j1] at h⟩
 | k + 1 => by
  obtain ⟨ih0, ih1⟩ := spec_CompareRows.mono_l k
  refine ⟨?_, ?_⟩
  ·intro y0 y1 y2
   unfold spec_CompareRows.l0
   repeat' first
   | (with_reducible exact ih0 _ _ _)
   | (with_reducible exact ih1 _ _ _ _)
   | (with_reducible exact LeO.refl _)
   | (with_reducible exact LeO.none _)
   | (with_reducible refine LeO.ite ?_ ?_)
   | (with_reducible refine LeO.bind ?_ (fun _ => ?_))
   | exact ih0 _ _ _
   | exact ih1 _ _ _ _
   | exact LeO.none _
   | refine LeO.ite ?_ ?_
   | refine LeO.bind ?_ (fun _ => ?_)
  ·intro y0 y1 y2 y3
   unfold spec_CompareRows.j1
   repeat' first
   | (with_reducible exact ih0 _ _ _)
   | (with_reducible exact ih1 _ _ _ _)
   | (with_reducible exact LeO.refl _)
   | (with_reducible exact LeO.none _)
   | (with_reducible refine LeO.ite ?_ ?_)
   | (with_reducible refine LeO.bind ?_ (fun _ => ?_))
   | exact ih0 _ _ _
   | exact ih1 _ _ _ _
   | exact LeO.none _
   | refine LeO.ite ?_ ?_
   | refine LeO.bind ?_ (fun _ => ?_)
theorem spec_CompareRows.mono : ∀ a0 a1 k, LeO (spec_CompareRows.f k a0 a1) (spec_CompareRows.f (k + 1) a0 a1) := by
 intro a0 a1 k
 obtain ⟨ih0, ih1⟩ := spec_CompareRows.mono_l k
 unfold spec_CompareRows.f
 repeat' first
   | (with_reducible exact ih0 _ _ _)
   | (with_reducible exact ih1 _ _ _ _)
   | (with_reducible exact LeO.refl _)
   | (with_reducible exact LeO.none _)
   | (with_reducible refine LeO.ite ?_ ?_)
   | (with_reducible refine LeO.bind ?_ (fun _ => ?_))
   | exact ih0 _ _ _
   | exact ih1 _ _ _ _
   | exact LeO.none _
   | refine LeO.ite ?_ ?_
   | refine LeO.bind ?_ (fun _ => ?_)
set_option maxHeartbeats 8000000 in
set_option maxRecDepth 100000 in
theorem spec_CompareRows.calls (k : Nat) (A0 : Option Addr) (c0 : Nat) (l0 : List Int) (A1 : Option Addr) (c1 : Nat) (l1 : List Int) (r : Int) (w : World) (hr0 : Kd.C (Kd.int .i64) w A0 l0.length l0) (hc0 : l0.length ≤ c0) (hr1 : Kd.C (Kd.int .i64) w A1 l1.length l1) (hc1 : l1.length ≤ c1) (h : spec_CompareRows.f k l0 l1 = some r) :
  Calls Try.prog 99 #[.slice A0 l0.length c0, .slice A1 l1.length c1] w fun e w' => e = .returned (.int .i64 r) ∧ Drawn0 w w' := by
 have HR0 := Aside0.mk hr0
 have HC0 := Aside0.mk hc0
 clear hr0 hc0
 have HR1 := Aside0.mk hr1
 have HC1 := Aside0.mk hc1
 clear hr1 hc1
 have H : (spec_CompareRows.l0 k l0 l1 0) = some r := h
 clear h
 have H' := Aside0.mk H
 clear H
 go_enter Try.func99, Try.ntmps99
 go_wp2
 repeat (go_quiet (fail); try go_wp2)
 go_loopg [5] k (fun kq v5 w' => ∃ (x5_1 : Int), v5 = .int .i64 x5_1 ∧ Aside0 (spec_CompareRows.l0 kq l0 l1 x5_1 = some r) ∧ Aside0 (kq ≤ k) ∧ Drawn0 w w')
 case atStart => exact ⟨(0), (by first | rfl | (simp; done) | (simp [*]; done)), H', ⟨Nat.le_refl _⟩, q3_0⟩
 case round =>
  clear H'
  try clear c1
  try clear p2
  obtain ⟨x5_1, rfl, HA, HK1, ⟨m1, rfl⟩⟩ := hrel
  cases gk with
  | zero => exact absurd HA.out (by simp [spec_CompareRows.l0])
  | succ k1 =>
   have H := HA.out
   clear HA
   simp only [spec_CompareRows.l0] at H
   have HC3 := Aside0.mk H
   clear H
   go_upto_region 2 with (fail)
   repeat (go_quiet (fail); go_upto_region 2 with (fail))
   go_cut [15] (fun v15 wc => ∃ (kq : Nat) (x15_2 : Bool), v15 = .bool x15_2 ∧ Aside0 (spec_CompareRows.j1 kq l0 l1 x5_1 x15_2 = some r) ∧ Aside0 (kq ≤ k1) ∧ Drawn0 w wc)
   case first =>
    have H := HC3.out
    clear HC3
    by_cases c4 : x5_1 < (l0.length : Int)
    ·rw [if_pos c4] at H
     have c4b0 : decide (x5_1 < (l0.length : Int)) = true := decide_eq_true c4
     clear c4
     (first | rw [c4b0] | (simp only [i64_w, i32_w]; rw [c4b0]) | skip)
     have H' := Aside0.mk H
     clear H
     go_wp2
     repeat (go_quiet (fail); try go_wp2)
     go_meet
     case rel => exact ⟨_, (decide (x5_1 < (l1.length : Int))), (by first | rfl | (simp; done) | (simp [*]; done)), H', ⟨q3_2⟩, q3_0⟩
    rw [if_neg c4] at H
    have c4b0 : decide (x5_1 < (l0.length : Int)) = false := decide_eq_false c4
    clear c4
    (first | rw [c4b0] | (simp only [i64_w, i32_w]; rw [c4b0]) | skip)
    have H' := Aside0.mk H
    clear H
    go_wp2
    repeat (go_quiet (fail); try go_wp2)
    go_meet
    case rel => exact ⟨_, (false), (by first | rfl | (simp; done) | (simp [*]; done)), H', ⟨q3_2⟩, q3_0⟩
   case rest =>
    clear HC3
    try clear c1
    try clear p2
    try clear c4
    try clear c4b0
    try clear p2
    obtain ⟨kq, x15_2, rfl, HA, HJ2, ⟨mc2, rfl⟩⟩ := hcut
    cases kq with
    | zero => exact absurd HA.out (by simp [spec_CompareRows.j1])
    | succ kj2 =>
     have H := HA.out
     clear HA
     simp only [spec_CompareRows.j1] at H
     by_cases c5 : x15_2 = true
     rotate_left
     ·replace c5 := Bool.eq_false_iff.mpr c5
      subst c5
      have H1 : (if (l0.length : Int) < (l1.length : Int) then (some (-1)) else (if (l0.length : Int) > (l1.length : Int) then (some 1) else (some 0))) = some r := by rw [if_neg (show ¬ (false = true) by decide)] at H; exact H
      clear H
      have H := H1
      clear H1
      by_cases c11 : (l0.length : Int) < (l1.length : Int)
      ·rw [if_pos c11] at H
       have c11b0 : decide ((l0.length : Int) < (l1.length : Int)) = true := decide_eq_true c11
       have c11b1 : decide (l0.length < l1.length) = true := decide_eq_true (Int.ofNat_lt.mp c11)
       clear c11
       obtain rfl := Option.some.inj H
       go_wp2
       repeat (go_quiet (fail); try go_wp2)
       go_ret
       exact ⟨q3_1, q3_0⟩
      rw [if_neg c11] at H
      have c11b0 : decide ((l0.length : Int) < (l1.length : Int)) = false := decide_eq_false c11
      have c11b1 : decide (l0.length < l1.length) = false := decide_eq_false (fun h => c11 (Int.ofNat_lt.mpr h))
      clear c11
      by_cases c12 : (l0.length : Int) > (l1.length : Int)
      ·rw [if_pos c12] at H
       have c12b0 : decide ((l1.length : Int) < (l0.length : Int)) = true := decide_eq_true c12
       have c12b1 : decide (l1.length < l0.length) = true := decide_eq_true (Int.ofNat_lt.mp c12)
       clear c12
       obtain rfl := Option.some.inj H
       go_wp2
       repeat (go_quiet (fail); try go_wp2)
       go_ret
       exact ⟨q3_1, q3_0⟩
      rw [if_neg c12] at H
      have c12b0 : decide ((l1.length : Int) < (l0.length : Int)) = false := decide_eq_false c12
      have c12b1 : decide (l1.length < l0.length) = false := decide_eq_false (fun h => c12 (Int.ofNat_lt.mpr h))
      clear c12
      obtain rfl := Option.some.inj H
      go_wp2
      repeat (go_quiet (fail); try go_wp2)
      go_ret
      exact ⟨q3_1, q3_0⟩
     subst c5
     have H1 : (if 0 ≤ x5_1 then (if x5_1 < (l0.length : Int) then (if x5_1 < (l1.length : Int) then (if (rd l0 x5_1) < (rd l1 x5_1) then (some (-1)) else (if (rd l0 x5_1) > (rd l1 x5_1) then (some 1) else (spec_CompareRows.l0 kj2 l0 l1 (wrap64 (x5_1 + 1))))) else (none)) else (none)) else (none)) = some r := by rw [if_pos rfl] at H; exact H
     clear H
     have H := H1
     clear H1
     by_cases c6 : 0 ≤ x5_1
     rotate_left
     ·rw [if_neg c6] at H
      exact absurd H (by simp)
     rw [if_pos c6] at H
     have c6b0 : decide (0 ≤ x5_1) = true := decide_eq_true c6
     clear c6
     by_cases c7 : x5_1 < (l0.length : Int)
     rotate_left
     ·rw [if_neg c7] at H
      exact absurd H (by simp)
     rw [if_pos c7] at H
     have c7b0 : decide (x5_1 < (l0.length : Int)) = true := decide_eq_true c7
     clear c7
     by_cases c8 : x5_1 < (l1.length : Int)
     rotate_left
     ·rw [if_neg c8] at H
      exact absurd H (by simp)
     rw [if_pos c8] at H
     have c8b0 : decide (x5_1 < (l1.length : Int)) = true := decide_eq_true c8
     clear c8
     by_cases c9 : (rd l0 x5_1) < (rd l1 x5_1)
     ·rw [if_pos c9] at H
      have c9b0 : decide ((rd l0 x5_1) < (rd l1 x5_1)) = true := decide_eq_true c9
      clear c9
      obtain rfl := Option.some.inj H
      have p148 : 0 ≤ (x5_1 : Int) := of_decide_eq_true b3_1
      have q148 : x5_1 < (l0.length : Int) := of_decide_eq_true b3_1
      obtain ⟨ad148, e148, hx148_0⟩ := Kd.at_int HR0.out x5_1 p148 q148
      cases e148
      replace p148 := eq_true p148
      replace q148 := eq_true q148
      have p149 : 0 ≤ (x5_1 : Int) := of_decide_eq_true b3_1
      have q149 : x5_1 < (l1.length : Int) := of_decide_eq_true b3_1
      obtain ⟨ad149, e149, hx149_0⟩ := Kd.at_int HR1.out x5_1 p149 q149
      cases e149
      replace p149 := eq_true p149
      replace q149 := eq_true q149
      go_wp2
      repeat (go_quiet (fail); try go_wp2)
      go_ret
      exact ⟨q3_1, q3_0⟩
     rw [if_neg c9] at H
     have c9b0 : decide ((rd l0 x5_1) < (rd l1 x5_1)) = false := decide_eq_false c9
     clear c9
     by_cases c10 : (rd l0 x5_1) > (rd l1 x5_1)
     ·rw [if_pos c10] at H
      have c10b0 : decide ((rd l1 x5_1) < (rd l0 x5_1)) = true := decide_eq_true c10
      clear c10
      obtain rfl := Option.some.inj H
      have p148 : 0 ≤ (x5_1 : Int) := of_decide_eq_true b3_1
      have q148 : x5_1 < (l0.length : Int) := of_decide_eq_true b3_1
      obtain ⟨ad148, e148, hx148_0⟩ := Kd.at_int HR0.out x5_1 p148 q148
      cases e148
      replace p148 := eq_true p148
      replace q148 := eq_true q148
      have p149 : 0 ≤ (x5_1 : Int) := of_decide_eq_true b3_1
      have q149 : x5_1 < (l1.length : Int) := of_decide_eq_true b3_1
      obtain ⟨ad149, e149, hx149_0⟩ := Kd.at_int HR1.out x5_1 p149 q149
      cases e149
      replace p149 := eq_true p149
      replace q149 := eq_true q149
      have p150 : 0 ≤ (x5_1 : Int) := of_decide_eq_true b3_1
      have q150 : x5_1 < (l0.length : Int) := of_decide_eq_true b3_1
      obtain ⟨ad150, e150, hx150_0⟩ := Kd.at_int HR0.out x5_1 p150 q150
      obtain rfl : ad148 = ad150 := (by injection e150)
      replace p150 := eq_true p150
      replace q150 := eq_true q150
      have p151 : 0 ≤ (x5_1 : Int) := of_decide_eq_true b3_1
      have q151 : x5_1 < (l1.length : Int) := of_decide_eq_true b3_1
      obtain ⟨ad151, e151, hx151_0⟩ := Kd.at_int HR1.out x5_1 p151 q151
      obtain rfl : ad149 = ad151 := (by injection e151)
      replace p151 := eq_true p151
      replace q151 := eq_true q151
      go_wp2
      repeat (go_quiet (fail); try go_wp2)
      go_ret
      exact ⟨q3_1, q3_0⟩
     rw [if_neg c10] at H
     have c10b0 : decide ((rd l1 x5_1) < (rd l0 x5_1)) = false := decide_eq_false c10
     clear c10
     have H' := Aside0.mk H
     clear H
     have p148 : 0 ≤ (x5_1 : Int) := of_decide_eq_true b3_1
     have q148 : x5_1 < (l0.length : Int) := of_decide_eq_true b3_1
     obtain ⟨ad148, e148, hx148_0⟩ := Kd.at_int HR0.out x5_1 p148 q148
     cases e148
     replace p148 := eq_true p148
     replace q148 := eq_true q148
     have p149 : 0 ≤ (x5_1 : Int) := of_decide_eq_true b3_1
     have q149 : x5_1 < (l1.length : Int) := of_decide_eq_true b3_1
     obtain ⟨ad149, e149, hx149_0⟩ := Kd.at_int HR1.out x5_1 p149 q149
     cases e149
     replace p149 := eq_true p149
     replace q149 := eq_true q149
     have p150 : 0 ≤ (x5_1 : Int) := of_decide_eq_true b3_1
     have q150 : x5_1 < (l0.length : Int) := of_decide_eq_true b3_1
     obtain ⟨ad150, e150, hx150_0⟩ := Kd.at_int HR0.out x5_1 p150 q150
     obtain rfl : ad148 = ad150 := (by injection e150)
     replace p150 := eq_true p150
     replace q150 := eq_true q150
     have p151 : 0 ≤ (x5_1 : Int) := of_decide_eq_true b3_1
     have q151 : x5_1 < (l1.length : Int) := of_decide_eq_true b3_1
     obtain ⟨ad151, e151, hx151_0⟩ := Kd.at_int HR1.out x5_1 p151 q151
     obtain rfl : ad149 = ad151 := (by injection e151)
     replace p151 := eq_true p151
     replace q151 := eq_true q151
     go_wp2
     repeat (go_quiet (fail); try go_wp2)
     go_roundg kj2
     case measure => have := HK1.out; have := HJ2.out; omega
     case rel => exact ⟨(wrap64 (x5_1 + 1)), (by first | rfl | (simp; done) | (simp [*]; done)), H', ⟨by have := HK1.out; have := HJ2.out; omega⟩, q3_0⟩

/-! ### spec_SetFault: function 55 -/
mutual
def spec_SetFault.l0 : Nat → List (S42) → Int → Option (Int)
 | 0, _, _ => none
 | k + 1, x0, x3 => if x3 < (x0.length : Int) then (if 0 ≤ x3 then ((spec_RowFault.f k ((rd_T42 x0 x3).f0)).bind fun t153 => (if t153 = 0 then ((spec_l1Weight.f ((rd_T42 x0 x3).f1)).bind fun t155 => (if t155 = true then (spec_SetFault.j1 k x0 x3 (((rd_T42 x0 x3).f1) == 0)) else (spec_SetFault.j1 k x0 x3 true))) else (some t153))) else (none)) else (some 0)
def spec_SetFault.j1 : Nat → List (S42) → Int → Bool → Option (Int)
 | 0, _, _, _ => none
 | k + 1, x0, x3, x37 => if x37 = true then (some 3) else (if x3 > 0 then (if 0 ≤ x3 then (if x3 < (x0.length : Int) then (if 0 ≤ (wrap64 (x3 - 1)) then (if (wrap64 (x3 - 1)) < (x0.length : Int) then ((spec_CompareRows.f k ((rd_T42 x0 x3).f0) ((rd_T42 x0 (wrap64 (x3 - 1))).f0)).bind fun t159 => (if t159 ≤ 0 then (some 1) else (spec_SetFault.l0 k x0 (wrap64 (x3 + 1))))) else (none)) else (none)) else (none)) else (none)) else (spec_SetFault.l0 k x0 (wrap64 (x3 + 1))))
end
def spec_SetFault.f (k : Nat) (l0 : List (S42)) : Option (Int) := if (l0.length : Int) > 200 then (some 2) else (spec_SetFault.l0 k l0 0)
theorem spec_SetFault.mono_l : ∀ k, (∀ y0 y1, LeO (spec_SetFault.l0 k y0 y1) (spec_SetFault.l0 (k + 1) y0 y1)) ∧ (∀ y0 y1 y2, LeO (spec_SetFault.j1 k y0 y1 y2) (spec_SetFault.j1 (k + 1) y0 y1 y2))
 | 0 => ⟨fun _ _ r h => by simp [spec_SetFault.l0] at h, fun _ _ _ r h => by simp [spec_SetFault.j1] at h⟩
 | k + 1 => by
  obtain ⟨ih0, ih1⟩ := spec_SetFault.mono_l k
  refine ⟨?_, ?_⟩
  ·intro y0 y1
   unfold spec_SetFault.l0
   repeat' first
   | (with_reducible exact ih0 _ _)
   | (with_reducible exact ih1 _ _ _)
   | (with_reducible exact spec_CompareRows.mono _ _ _)
   | (with_reducible exact spec_RowFault.mono _ _)
   | (with_reducible exact LeO.refl _)
   | (with_reducible exact LeO.none _)
   | (with_reducible refine LeO.ite ?_ ?_)
   | (with_reducible refine LeO.bind ?_ (fun _ => ?_))
   | exact ih0 _ _
   | exact ih1 _ _ _
   | exact spec_CompareRows.mono _ _ _
   | exact spec_RowFault.mono _ _
   | exact LeO.none _
   | refine LeO.ite ?_ ?_
   | refine LeO.bind ?_ (fun _ => ?_)
  ·intro y0 y1 y2
   unfold spec_SetFault.j1
   repeat' first
   | (with_reducible exact ih0 _ _)
   | (with_reducible exact ih1 _ _ _)
   | (with_reducible exact spec_CompareRows.mono _ _ _)
   | (with_reducible exact spec_RowFault.mono _ _)
   | (with_reducible exact LeO.refl _)
   | (with_reducible exact LeO.none _)
   | (with_reducible refine LeO.ite ?_ ?_)
   | (with_reducible refine LeO.bind ?_ (fun _ => ?_))
   | exact ih0 _ _
   | exact ih1 _ _ _
   | exact spec_CompareRows.mono _ _ _
   | exact spec_RowFault.mono _ _
   | exact LeO.none _
   | refine LeO.ite ?_ ?_
   | refine LeO.bind ?_ (fun _ => ?_)
theorem spec_SetFault.mono : ∀ a0 k, LeO (spec_SetFault.f k a0) (spec_SetFault.f (k + 1) a0) := by
 intro a0 k
 obtain ⟨ih0, ih1⟩ := spec_SetFault.mono_l k
 unfold spec_SetFault.f
 repeat' first
   | (with_reducible exact ih0 _ _)
   | (with_reducible exact ih1 _ _ _)
   | (with_reducible exact spec_CompareRows.mono _ _ _)
   | (with_reducible exact spec_RowFault.mono _ _)
   | (with_reducible exact LeO.refl _)
   | (with_reducible exact LeO.none _)
   | (with_reducible refine LeO.ite ?_ ?_)
   | (with_reducible refine LeO.bind ?_ (fun _ => ?_))
   | exact ih0 _ _
   | exact ih1 _ _ _
   | exact spec_CompareRows.mono _ _ _
   | exact spec_RowFault.mono _ _
   | exact LeO.none _
   | refine LeO.ite ?_ ?_
   | refine LeO.bind ?_ (fun _ => ?_)
set_option maxHeartbeats 8000000 in
set_option maxRecDepth 100000 in
theorem spec_SetFault.calls (k : Nat) (A0 : Option Addr) (c0 : Nat) (l0 : List (S42)) (r : Int) (w : World) (hr0 : Kd.C k42 w A0 l0.length l0) (hc0 : l0.length ≤ c0) (h : spec_SetFault.f k l0 = some r) :
  Calls Try.prog 55 #[.slice A0 l0.length c0] w fun e w' => e = .returned (.int .i64 r) ∧ Drawn0 w w' := by
 have HR0 := Aside0.mk hr0
 have HC0 := Aside0.mk hc0
 clear hr0 hc0
 have H : (if (l0.length : Int) > 200 then (some 2) else (spec_SetFault.l0 k l0 0)) = some r := h
 clear h
 by_cases c2 : (l0.length : Int) > 200
 ·rw [if_pos c2] at H
  have c2b0 : decide (200 < (l0.length : Int)) = true := decide_eq_true c2
  have c2b1 : decide (200 < l0.length) = true := decide_eq_true (by omega)
  clear c2
  obtain rfl := Option.some.inj H
  go_enter Try.func55, Try.ntmps55
  go_wp2
  repeat (go_quiet (fail); try go_wp2)
  go_ret
  exact ⟨q3_1, q3_0⟩
 rw [if_neg c2] at H
 have c2b0 : decide (200 < (l0.length : Int)) = false := decide_eq_false c2
 have c2b1 : decide (200 < l0.length) = false := decide_eq_false (by omega)
 clear c2
 have H' := Aside0.mk H
 clear H
 go_enter Try.func55, Try.ntmps55
 go_wp2
 repeat (go_quiet (fail); try go_wp2)
 go_loopg [3] k (fun kq v3 w' => ∃ (x3_1 : Int), v3 = .int .i64 x3_1 ∧ Aside0 (spec_SetFault.l0 kq l0 x3_1 = some r) ∧ Aside0 (kq ≤ k) ∧ Drawn0 w w')
 case atStart => exact ⟨(0), (by first | rfl | (simp; done) | (simp [*]; done)), H', ⟨Nat.le_refl _⟩, q3_0⟩
 case round =>
  clear H'
  try clear c2
  try clear c2b0
  try clear c2b1
  try clear p2
  obtain ⟨x3_1, rfl, HA, HK1, ⟨m1, rfl⟩⟩ := hrel
  cases gk with
  | zero => exact absurd HA.out (by simp [spec_SetFault.l0])
  | succ k1 =>
   have H := HA.out
   clear HA
   simp only [spec_SetFault.l0] at H
   by_cases c3 : x3_1 < (l0.length : Int)
   rotate_left
   ·rw [if_neg c3] at H
    have c3b0 : decide (x3_1 < (l0.length : Int)) = false := decide_eq_false c3
    clear c3
    obtain rfl := Option.some.inj H
    go_wp2
    repeat (go_quiet (fail); try go_wp2)
    go_ret
    exact ⟨q3_1, q3_0⟩
   rw [if_pos c3] at H
   have c3b0 : decide (x3_1 < (l0.length : Int)) = true := decide_eq_true c3
   clear c3
   by_cases c4 : 0 ≤ x3_1
   rotate_left
   ·rw [if_neg c4] at H
    exact absurd H (by simp)
   rw [if_pos c4] at H
   have c4b0 : decide (0 ≤ x3_1) = true := decide_eq_true c4
   clear c4
   replace H := Option.bind_eq_some_iff.mp H
   obtain ⟨t153, A50, H⟩ := H
   replace H : (if t153 = 0 then ((spec_l1Weight.f ((rd_T42 l0 x3_1).f1)).bind fun t155 => (if t155 = true then (spec_SetFault.j1 k1 l0 x3_1 (((rd_T42 l0 x3_1).f1) == 0)) else (spec_SetFault.j1 k1 l0 x3_1 true))) else (some t153)) = some r := H
   have A5 := Aside0.mk A50
   clear A50
   by_cases c6 : t153 = 0
   rotate_left
   ·rw [if_neg c6] at H
    have c6b0 : (t153 == 0) = false := beq_eq_false_iff_ne.mpr c6
    have c6b1 : (t153 != 0) = true := bne_iff_ne.mpr c6
    obtain rfl := Option.some.inj H
    have p152 : 0 ≤ (x3_1 : Int) := of_decide_eq_true b3_1
    have q152 : x3_1 < (l0.length : Int) := of_decide_eq_true b3_1
    obtain ⟨ad152, A152_0, c152_0, e152, hx152_0, hx152_1, hl152_0, hi152_0⟩ := at_T42 HR0.out x3_1 p152 q152
    cases e152
    have HR152_0 := Aside0.mk hi152_0
    have HC152_0 := Aside0.mk hl152_0
    clear hi152_0 hl152_0
    replace p152 := eq_true p152
    replace q152 := eq_true q152
    go_wp2_with (first | (go_at_call 44; (with_reducible refine (spec_RowFault.calls k1 _ _ ((rd_T42 l0 x3_1).f0) t153 _ ?side1 ?side2 A5.out).mono ?_); (case side1 => exact b3_2); (case side2 => exact HC152_0.out); rintro e w' ⟨rfl, ⟨nd, rfl⟩⟩; (try exact b3_0)))
    repeat (go_quiet (fail); try go_wp2)
    go_ret
    exact ⟨q3_1, q3_0⟩
   rw [if_pos c6] at H
   have c6b0 : (t153 == 0) = true := beq_iff_eq.mpr c6
   have c6b1 : (t153 != 0) = false := bne_eq_false_iff_eq.mpr c6
   clear c6
   have HC7 := Aside0.mk H
   clear H
   have p152 : 0 ≤ (x3_1 : Int) := of_decide_eq_true b3_1
   have q152 : x3_1 < (l0.length : Int) := of_decide_eq_true b3_1
   obtain ⟨ad152, A152_0, c152_0, e152, hx152_0, hx152_1, hl152_0, hi152_0⟩ := at_T42 HR0.out x3_1 p152 q152
   cases e152
   have HR152_0 := Aside0.mk hi152_0
   have HC152_0 := Aside0.mk hl152_0
   clear hi152_0 hl152_0
   replace p152 := eq_true p152
   replace q152 := eq_true q152
   go_upto_region 9 with (first | (go_at_call 44; (with_reducible refine (spec_RowFault.calls k1 _ _ ((rd_T42 l0 x3_1).f0) t153 _ ?side1 ?side2 A5.out).mono ?_); (case side1 => exact b3_2); (case side2 => exact HC152_0.out); rintro e w' ⟨rfl, ⟨nd, rfl⟩⟩; (try exact b3_0)))
   repeat (go_quiet (fail); go_upto_region 9 with (first | (go_at_call 44; (with_reducible refine (spec_RowFault.calls k1 _ _ ((rd_T42 l0 x3_1).f0) t153 _ ?side1 ?side2 A5.out).mono ?_); (case side1 => exact b3_2); (case side2 => exact HC152_0.out); rintro e w' ⟨rfl, ⟨nd, rfl⟩⟩; (try exact b3_0))))
   (try simp only [Act.put, List.setIfInBounds_toArray, List.set_cons_zero, List.set_cons_succ])
   go_cut [37] (fun v37 wc => ∃ (kq : Nat) (x37_6 : Bool), v37 = .bool x37_6 ∧ Aside0 (spec_SetFault.j1 kq l0 x3_1 x37_6 = some r) ∧ Aside0 (kq ≤ k1) ∧ Drawn0 w wc)
   case first =>
    have H := HC7.out
    clear HC7
    replace H := Option.bind_eq_some_iff.mp H
    obtain ⟨t155, A80, H⟩ := H
    replace H : (if t155 = true then (spec_SetFault.j1 k1 l0 x3_1 (((rd_T42 l0 x3_1).f1) == 0)) else (spec_SetFault.j1 k1 l0 x3_1 true)) = some r := H
    have A8 := Aside0.mk A80
    clear A80
    by_cases c9 : t155 = true
    ·subst c9
     have H1 : (spec_SetFault.j1 k1 l0 x3_1 (((rd_T42 l0 x3_1).f1) == 0)) = some r := by rw [if_pos rfl] at H; exact H
     clear H
     have H := H1
     clear H1
     have H' := Aside0.mk H
     clear H
     have p154 : 0 ≤ (x3_1 : Int) := of_decide_eq_true b3_1
     have q154 : x3_1 < (l0.length : Int) := of_decide_eq_true b3_1
     obtain ⟨ad154, A154_0, c154_0, e154, hx154_0, hx154_1, hl154_0, hi154_0⟩ := at_T42 HR0.out x3_1 p154 q154
     obtain rfl : ad152 = ad154 := (by injection e154)
     have HR154_0 := Aside0.mk hi154_0
     have HC154_0 := Aside0.mk hl154_0
     clear hi154_0 hl154_0
     replace p154 := eq_true p154
     replace q154 := eq_true q154
     go_wp2_with (first | (go_at_call 45; (with_reducible refine (spec_l1Weight.calls ((rd_T42 l0 x3_1).f1) true _ A8.out).mono ?_); rintro e w' ⟨rfl, ⟨nd, rfl⟩⟩; (try exact b3_0); have p156 : 0 ≤ (x3_1 : Int) := of_decide_eq_true b3_1; have q156 : x3_1 < (l0.length : Int) := of_decide_eq_true b3_1; obtain ⟨ad156, A156_0, c156_0, e156, hx156_0, hx156_1, hl156_0, hi156_0⟩ := at_T42 HR0.out x3_1 p156 q156; obtain rfl : ad152 = ad156 := (by injection e156); have HR156_0 := Aside0.mk hi156_0; have HC156_0 := Aside0.mk hl156_0; clear hi156_0 hl156_0; replace p156 := eq_true p156; replace q156 := eq_true q156; have ea_ := Option.some.inj (hx154_0.symm.trans hx156_0); injection ea_ with ea_ en_ ec_; subst ea_; subst ec_; clear en_))
     repeat (go_quiet (fail); try go_wp2)
     go_meet
     case rel => exact ⟨_, ((((rd_T42 l0 x3_1).f1) == 0)), (by first | rfl | (simp; done) | (simp [*]; done)), H', ⟨q3_2⟩, q3_0⟩
    replace c9 := Bool.eq_false_iff.mpr c9
    subst c9
    have H1 : (spec_SetFault.j1 k1 l0 x3_1 true) = some r := by rw [if_neg (show ¬ (false = true) by decide)] at H; exact H
    clear H
    have H := H1
    clear H1
    have H' := Aside0.mk H
    clear H
    have p154 : 0 ≤ (x3_1 : Int) := of_decide_eq_true b3_1
    have q154 : x3_1 < (l0.length : Int) := of_decide_eq_true b3_1
    obtain ⟨ad154, A154_0, c154_0, e154, hx154_0, hx154_1, hl154_0, hi154_0⟩ := at_T42 HR0.out x3_1 p154 q154
    obtain rfl : ad152 = ad154 := (by injection e154)
    have HR154_0 := Aside0.mk hi154_0
    have HC154_0 := Aside0.mk hl154_0
    clear hi154_0 hl154_0
    replace p154 := eq_true p154
    replace q154 := eq_true q154
    go_wp2_with (first | (go_at_call 45; (with_reducible refine (spec_l1Weight.calls ((rd_T42 l0 x3_1).f1) false _ A8.out).mono ?_); rintro e w' ⟨rfl, ⟨nd, rfl⟩⟩; (try exact b3_0)))
    repeat (go_quiet (fail); try go_wp2)
    go_meet
    case rel => exact ⟨_, (true), (by first | rfl | (simp; done) | (simp [*]; done)), H', ⟨q3_2⟩, q3_0⟩
   case rest =>
    clear HC7
    try clear c1
    try clear p1
    try clear q1
    try clear hx1
    try clear c2
    try clear c2b0
    try clear c2b1
    try clear p2
    try clear c3
    try clear c3b0
    try clear c4
    try clear c4b0
    try clear c5
    try clear c6
    try clear c6b0
    try clear c6b1
    try clear c9
    try clear hx152_0
    try clear hx152_1
    try clear hx154_0
    try clear hx154_1
    try clear hx156_0
    try clear hx156_1
    try clear p152
    try clear p154
    try clear p156
    try clear p2
    try clear q152
    try clear q154
    try clear q156
    obtain ⟨kq, x37_6, rfl, HA, HJ6, ⟨mc6, rfl⟩⟩ := hcut
    cases kq with
    | zero => exact absurd HA.out (by simp [spec_SetFault.j1])
    | succ kj6 =>
     have H := HA.out
     clear HA
     simp only [spec_SetFault.j1] at H
     by_cases c10 : x37_6 = true
     ·subst c10
      have H1 : (some 3) = some r := by rw [if_pos rfl] at H; exact H
      clear H
      have H := H1
      clear H1
      obtain rfl := Option.some.inj H
      go_wp2
      repeat (go_quiet (fail); try go_wp2)
      go_ret
      exact ⟨q3_1, q3_0⟩
     replace c10 := Bool.eq_false_iff.mpr c10
     subst c10
     have H1 : (if x3_1 > 0 then (if 0 ≤ x3_1 then (if x3_1 < (l0.length : Int) then (if 0 ≤ (wrap64 (x3_1 - 1)) then (if (wrap64 (x3_1 - 1)) < (l0.length : Int) then ((spec_CompareRows.f kj6 ((rd_T42 l0 x3_1).f0) ((rd_T42 l0 (wrap64 (x3_1 - 1))).f0)).bind fun t159 => (if t159 ≤ 0 then (some 1) else (spec_SetFault.l0 kj6 l0 (wrap64 (x3_1 + 1))))) else (none)) else (none)) else (none)) else (none)) else (spec_SetFault.l0 kj6 l0 (wrap64 (x3_1 + 1)))) = some r := by rw [if_neg (show ¬ (false = true) by decide)] at H; exact H
     clear H
     have H := H1
     clear H1
     by_cases c11 : x3_1 > 0
     rotate_left
     ·rw [if_neg c11] at H
      have c11b0 : decide (0 < x3_1) = false := decide_eq_false c11
      clear c11
      have H' := Aside0.mk H
      clear H
      go_wp2
      repeat (go_quiet (fail); try go_wp2)
      go_roundg kj6
      case measure => have := HK1.out; have := HJ6.out; omega
      case rel => exact ⟨(wrap64 (x3_1 + 1)), (by first | rfl | (simp; done) | (simp [*]; done)), H', ⟨by have := HK1.out; have := HJ6.out; omega⟩, q3_0⟩
     rw [if_pos c11] at H
     have c11b0 : decide (0 < x3_1) = true := decide_eq_true c11
     clear c11
     by_cases c12 : 0 ≤ x3_1
     rotate_left
     ·rw [if_neg c12] at H
      exact absurd H (by simp)
     rw [if_pos c12] at H
     have c12b0 : decide (0 ≤ x3_1) = true := decide_eq_true c12
     clear c12
     by_cases c13 : x3_1 < (l0.length : Int)
     rotate_left
     ·rw [if_neg c13] at H
      exact absurd H (by simp)
     rw [if_pos c13] at H
     have c13b0 : decide (x3_1 < (l0.length : Int)) = true := decide_eq_true c13
     clear c13
     obtain ⟨ji14, hji14⟩ : ∃ j_ : Int, (wrap64 (x3_1 - 1)) = j_ := ⟨_, rfl⟩
     replace H : (if 0 ≤ (ji14) then (if (ji14) < (l0.length : Int) then ((spec_CompareRows.f kj6 ((rd_T42 l0 x3_1).f0) ((rd_T42 l0 (ji14)).f0)).bind fun t159 => (if t159 ≤ 0 then (some 1) else (spec_SetFault.l0 kj6 l0 (wrap64 (x3_1 + 1))))) else (none)) else (none)) = some r := by first | (rw [hji14] at H; exact H) | (simp only [hji14] at H ⊢; exact H)
     have hji14w : (IntKind.i64.wrap (x3_1 - 1)) = ji14 := (i64_w _).trans hji14
     by_cases c15 : 0 ≤ (ji14)
     rotate_left
     ·rw [if_neg c15] at H
      exact absurd H (by simp)
     rw [if_pos c15] at H
     have c15b0 : decide (0 ≤ (ji14)) = true := decide_eq_true c15
     clear c15
     by_cases c16 : (ji14) < (l0.length : Int)
     rotate_left
     ·rw [if_neg c16] at H
      exact absurd H (by simp)
     rw [if_pos c16] at H
     have c16b0 : decide ((ji14) < (l0.length : Int)) = true := decide_eq_true c16
     clear c16
     replace H := Option.bind_eq_some_iff.mp H
     obtain ⟨t159, A170, H⟩ := H
     replace H : (if t159 ≤ 0 then (some 1) else (spec_SetFault.l0 kj6 l0 (wrap64 (x3_1 + 1)))) = some r := H
     have A17 := Aside0.mk A170
     clear A170
     by_cases c18 : t159 ≤ 0
     ·rw [if_pos c18] at H
      have c18b0 : decide (t159 ≤ 0) = true := decide_eq_true c18
      clear c18
      obtain rfl := Option.some.inj H
      have p157 : 0 ≤ (x3_1 : Int) := of_decide_eq_true b3_1
      have q157 : x3_1 < (l0.length : Int) := of_decide_eq_true b3_1
      obtain ⟨ad157, A157_0, c157_0, e157, hx157_0, hx157_1, hl157_0, hi157_0⟩ := at_T42 HR0.out x3_1 p157 q157
      obtain rfl : ad152 = ad157 := (by injection e157)
      have HR157_0 := Aside0.mk hi157_0
      have HC157_0 := Aside0.mk hl157_0
      clear hi157_0 hl157_0
      replace p157 := eq_true p157
      replace q157 := eq_true q157
      have p158 : 0 ≤ ((ji14) : Int) := of_decide_eq_true b3_1
      have q158 : (ji14) < (l0.length : Int) := of_decide_eq_true b3_1
      obtain ⟨ad158, A158_0, c158_0, e158, hx158_0, hx158_1, hl158_0, hi158_0⟩ := at_T42 HR0.out (ji14) p158 q158
      obtain rfl : ad152 = ad158 := (by injection e158)
      have HR158_0 := Aside0.mk hi158_0
      have HC158_0 := Aside0.mk hl158_0
      clear hi158_0 hl158_0
      replace p158 := eq_true p158
      replace q158 := eq_true q158
      go_wp2
      repeat (go_quiet (first | (go_at_call 99; (with_reducible refine (spec_CompareRows.calls kj6 _ _ ((rd_T42 l0 x3_1).f0) _ _ ((rd_T42 l0 (ji14)).f0) t159 _ ?side1 ?side2 ?side3 ?side4 A17.out).mono ?_); (case side1 => exact b3_3); (case side2 => exact HC157_0.out); (case side3 => exact b3_4); (case side4 => exact HC158_0.out); rintro e w' ⟨rfl, ⟨nd, rfl⟩⟩; (try exact b3_0))); try go_wp2)
      go_ret
      exact ⟨by first | rfl | (simp; done) | (simp only [← hji14] <;> (first | rfl | simp)) | (simp [*]; done), q3_0⟩
     rw [if_neg c18] at H
     have c18b0 : decide (t159 ≤ 0) = false := decide_eq_false c18
     clear c18
     have H' := Aside0.mk H
     clear H
     have p157 : 0 ≤ (x3_1 : Int) := of_decide_eq_true b3_1
     have q157 : x3_1 < (l0.length : Int) := of_decide_eq_true b3_1
     obtain ⟨ad157, A157_0, c157_0, e157, hx157_0, hx157_1, hl157_0, hi157_0⟩ := at_T42 HR0.out x3_1 p157 q157
     obtain rfl : ad152 = ad157 := (by injection e157)
     have HR157_0 := Aside0.mk hi157_0
     have HC157_0 := Aside0.mk hl157_0
     clear hi157_0 hl157_0
     replace p157 := eq_true p157
     replace q157 := eq_true q157
     have p158 : 0 ≤ ((ji14) : Int) := of_decide_eq_true b3_1
     have q158 : (ji14) < (l0.length : Int) := of_decide_eq_true b3_1
     obtain ⟨ad158, A158_0, c158_0, e158, hx158_0, hx158_1, hl158_0, hi158_0⟩ := at_T42 HR0.out (ji14) p158 q158
     obtain rfl : ad152 = ad158 := (by injection e158)
     have HR158_0 := Aside0.mk hi158_0
     have HC158_0 := Aside0.mk hl158_0
     clear hi158_0 hl158_0
     replace p158 := eq_true p158
     replace q158 := eq_true q158
     go_wp2
     repeat (go_quiet (first | (go_at_call 99; (with_reducible refine (spec_CompareRows.calls kj6 _ _ ((rd_T42 l0 x3_1).f0) _ _ ((rd_T42 l0 (ji14)).f0) t159 _ ?side1 ?side2 ?side3 ?side4 A17.out).mono ?_); (case side1 => exact b3_3); (case side2 => exact HC157_0.out); (case side3 => exact b3_4); (case side4 => exact HC158_0.out); rintro e w' ⟨rfl, ⟨nd, rfl⟩⟩; (try exact b3_0))); try go_wp2)
     go_roundg kj6
     case measure => have := HK1.out; have := HJ6.out; omega
     case rel => exact ⟨(wrap64 (x3_1 + 1)), (by first | rfl | (simp; done) | (simp [*]; done)), H', ⟨by have := HK1.out; have := HJ6.out; omega⟩, q3_0⟩

end Go.Proofs.Ythgmicingbjemaa.PFnExactJoinSets
