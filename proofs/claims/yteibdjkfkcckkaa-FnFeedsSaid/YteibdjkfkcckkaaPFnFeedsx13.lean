-- Written by fprint, a program of this session, out of Lean's own print of the translation. Lean checks it.
import Derived.Test.YteibdjkfkcckkaaDense
import Derived.Test.YteibdjkfkcckkaaPFnFeedsx0
import Derived.Test.YteibdjkfkcckkaaPFnFeedsx4
import Derived.Test.YteibdjkfkcckkaaPFnFeedsx6
import Derived.Test.YteibdjkfkcckkaaPFnFeedsx8
namespace Go.Proofs.Yteibdjkfkcckkaa.PFnFeeds
open Go.RowKit Go.Proofs.YteibdjkfkcckkaaW.PrintWords Go.Proofs.YteibdjkfkcckkaaW.PrintLast Go.Proofs.YteibdjkfkcckkaaW.PrintMore
attribute [local go_sem] max2_int min2_int max_two min_two max_three min_three max_four min_four   -- for this text's walks alone
set_option linter.unusedVariables false
set_option linter.unusedSimpArgs false

theorem b13_1 {p : Prop} (h : p := by refine cR_ ?_; exact (Kd.R_mono (Kd.R_far (p := ⟨gb403, 6, none⟩) (Kd.R_far (p := ⟨gb403, 5, none⟩) (Kd.R_far (p := ⟨gb403, 4, none⟩) (Kd.R_far (p := ⟨gb403, 3, none⟩) (Kd.R_far (p := ⟨gb403, 2, none⟩) (Kd.R_far (p := ⟨gb403, 1, none⟩) (Kd.R_far (p := ⟨gb403, 0, none⟩) (Kd.R_types HO_5.out BK403.out (by decide)) (fun _ hk => hk.2) (.int .i64 ((rd_T58 l0 x11_1).f0))) (fun _ hk => hk.2) (.int .i64 ((rd_T58 l0 x11_1).f1))) (fun _ hk => hk.2) (.int .i64 ((rd_T58 l0 x11_1).f2))) (fun _ hk => hk.2) (.int .i64 ((rd_T58 l0 x11_1).f3))) (fun _ hk => hk.2) (.int .i64 ((rd_T58 l0 x11_1).f4))) (fun _ hk => hk.2) (.int .i64 ((rd_T58 l0 x11_1).f5))) (fun _ hk => hk.2) (.slice A402_6 ((rd_T58 l0 x11_1).f6).length c402_6)) (fun _ h_ => h_.1))) : p := h
theorem b13_3 {p : Prop} (h : p := by exact cC_ (Kd.C_below HR0.out HB.out)) : p := h
theorem b13_4 {p : Prop} (h : p := by exact cB1_ GE403.out) : p := h
theorem b13_5 {p : Prop} (h : p := by exact cB1_ GE427.out) : p := h
theorem q13_0 {p : Prop} (h : p := by first | exact Kd.R_nil _ _ _ _ _ | exact Kd.N_nil _ _ _ _ _ | exact Kd.V_nil _ _ _ _ _ | exact Kd.Q_nil _ _ _ _ _ | exact Kd.S_nil _ _ _ _ _) : p := h
/-! ### impl_nodeCode: function 45 -/
def impl_nodeCode.f (k : Nat) (l0 : List (S58)) (a1 : Int) : Option (List Int × Int) := (impl_looked.f k l0).bind fun bt391 => (if bt391.2 = 0 then ((impl_Node.f l0).bind fun t395 => ((impl_in.f a1 0 (wrap64 (t395 - 1))).bind fun t396 => (if t396 = true then (some (bt391.1, bt391.2)) else (some (bt391.1, 3))))) else (some (bt391.1, bt391.2)))
theorem impl_nodeCode.mono : ∀ a0 a1 k, LeO (impl_nodeCode.f k a0 a1) (impl_nodeCode.f (k + 1) a0 a1) := by
 intro a0 a1 k
 unfold impl_nodeCode.f
 repeat' first
   | (with_reducible exact impl_looked.mono _ _)
   | (with_reducible exact LeO.refl _)
   | (with_reducible exact LeO.none _)
   | (with_reducible refine LeO.ite ?_ ?_)
   | (with_reducible refine LeO.bind ?_ (fun _ => ?_))
   | exact impl_looked.mono _ _
   | exact LeO.none _
   | refine LeO.ite ?_ ?_
   | refine LeO.bind ?_ (fun _ => ?_)
set_option maxHeartbeats 8000000 in
set_option maxRecDepth 100000 in
theorem impl_nodeCode.calls (k : Nat) (A0 : Option Addr) (c0 : Nat) (l0 : List (S58)) (a1 : Int) (r1 : List Int) (r2 : Int) (w : World) (hr0 : Kd.C k58 w A0 l0.length l0) (hc0 : l0.length ≤ c0) (h : impl_nodeCode.f k l0 a1 = some (r1, r2)) :
  Calls Try.prog 45 #[.slice A0 l0.length c0, .int .i64 a1] w fun e w' => ∃ v0_ : Value, e = .returned (.tuple #[v0_, .int .i64 r2]) ∧ Kd.R (Kd.int .i64) 2 w' w.heap.size (fun _ => True) v0_ r1 ∧ Below w.heap.size w w' := by
 have HR0 := Aside0.mk hr0
 have HC0 := Aside0.mk hc0
 clear hr0 hc0
 have HB := Aside0.mk (Below.refl w.heap.size w)
 have H : ((impl_looked.f k l0).bind fun bt391 => (if bt391.2 = 0 then ((impl_Node.f l0).bind fun t395 => ((impl_in.f a1 0 (wrap64 (t395 - 1))).bind fun t396 => (if t396 = true then (some (bt391.1, bt391.2)) else (some (bt391.1, 3))))) else (some (bt391.1, bt391.2)))) = some (r1, r2) := h
 clear h
 obtain ⟨⟨t391, t392⟩, A3, H⟩ := bnd_ H
 try dsimp only at H
 by_cases c4 : t392 = 0
 rotate_left
 ·rw [if_neg c4] at H
  have c4b0 : (t392 == 0) = false := beq_eq_false_iff_ne.mpr c4
  have c4b1 : (t392 != 0) = true := bne_iff_ne.mpr c4
  simp only [Option.some.injEq, Prod.mk.injEq] at H
  obtain ⟨rfl, rfl⟩ := H
  go_enter Try.func45, Try.ntmps45
  go_wp2_with (first | (refine gl_ 41 (some 10) Try.func41 #[.slice A0 l0.length c0] ?_; (with_reducible refine (impl_looked.calls k _ _ l0 t391 t392 _ ?side1 ?side2 A3.out).mono ?_); (case side1 => exact cC_ HR0.out); (case side2 => exact HC0.out); rintro e w10 ⟨v393, rfl, ho0, hb⟩; refine ⟨_, rfl, ?_⟩; have HO394 := Aside0.mk (Kd.R_lower ho0 (below_size cB0_)); replace HB := Aside0.mk (below_step cB0_ hb); (try clear hb); (try clear hb2); (try clear hk); (try clear hi); (try clear ho0)))
  go_ret2
  exact ⟨_, ce_, cR_ HO394.out, cB0_⟩
 rw [if_pos c4] at H
 have c4b0 : (t392 == 0) = true := beq_iff_eq.mpr c4
 have c4b1 : (t392 != 0) = false := bne_eq_false_iff_eq.mpr c4
 clear c4
 obtain ⟨t395, A5, H⟩ := bnd_ H
 try dsimp only at H
 obtain ⟨t396, A6, H⟩ := bnd_ H
 try dsimp only at H
 by_cases c7 : t396 = true
 ·subst c7
  rw [if_pos rfl] at H
  simp only [Option.some.injEq, Prod.mk.injEq] at H
  obtain ⟨rfl, rfl⟩ := H
  go_enter Try.func45, Try.ntmps45
  go_wp2_with (first | (refine gl_ 41 (some 10) Try.func41 #[.slice A0 l0.length c0] ?_; (with_reducible refine (impl_looked.calls k _ _ l0 t391 t392 _ ?side1 ?side2 A3.out).mono ?_); (case side1 => exact cC_ HR0.out); (case side2 => exact HC0.out); rintro e w8 ⟨v393, rfl, ho0, hb⟩; refine ⟨_, rfl, ?_⟩; have HO394 := Aside0.mk (Kd.R_lower ho0 (below_size cB0_)); replace HB := Aside0.mk (below_step cB0_ hb); (try clear hb); (try clear hb2); (try clear hk); (try clear hi); (try clear ho0)) | (go_at_call 48; (with_reducible refine (impl_Node.calls _ _ l0 t395 _ ?side1 ?side2 A5.out).mono ?_); (case side1 => exact b13_3); (case side2 => exact HC0.out); rintro e w' ⟨rfl, ⟨nd, rfl⟩⟩) | (go_at_call 47; (with_reducible refine (impl_in.calls a1 0 (wrap64 (t395 - 1)) true _ A6.out).mono ?_); rintro e w' ⟨rfl, ⟨nd, rfl⟩⟩))
  go_ret2
  exact ⟨_, ce_, cR_ HO394.out, cB0_⟩
 replace c7 := Bool.eq_false_iff.mpr c7
 subst c7
 rw [if_neg (show ¬ (false = true) by decide)] at H
 simp only [Option.some.injEq, Prod.mk.injEq] at H
 obtain ⟨rfl, rfl⟩ := H
 go_enter Try.func45, Try.ntmps45
 go_wp2_with (first | (refine gl_ 41 (some 10) Try.func41 #[.slice A0 l0.length c0] ?_; (with_reducible refine (impl_looked.calls k _ _ l0 t391 t392 _ ?side1 ?side2 A3.out).mono ?_); (case side1 => exact cC_ HR0.out); (case side2 => exact HC0.out); rintro e w9 ⟨v393, rfl, ho0, hb⟩; refine ⟨_, rfl, ?_⟩; have HO394 := Aside0.mk (Kd.R_lower ho0 (below_size cB0_)); replace HB := Aside0.mk (below_step cB0_ hb); (try clear hb); (try clear hb2); (try clear hk); (try clear hi); (try clear ho0)) | (go_at_call 48; (with_reducible refine (impl_Node.calls _ _ l0 t395 _ ?side1 ?side2 A5.out).mono ?_); (case side1 => exact b13_3); (case side2 => exact HC0.out); rintro e w' ⟨rfl, ⟨nd, rfl⟩⟩) | (go_at_call 47; (with_reducible refine (impl_in.calls a1 0 (wrap64 (t395 - 1)) false _ A6.out).mono ?_); rintro e w' ⟨rfl, ⟨nd, rfl⟩⟩))
 go_ret2
 exact ⟨_, ce_, cR_ HO394.out, cB0_⟩

/-! ### slices_Index_int64_int64: function 97 -/
def slices_Index_int64_int64.l0 : Nat → List Int → Int → Int → Int → Option (Int)
 | 0, _, _, _, _ => none
 | k + 1, x0, x1, x7, x8 => if x8 < x7 then (if 0 ≤ x8 then (if x8 < (x0.length : Int) then (if x1 = (rd x0 x8) then (some x8) else (slices_Index_int64_int64.l0 k x0 x1 x7 (wrap64 (x8 + 1)))) else (none)) else (none)) else (some (-1))
def slices_Index_int64_int64.f (k : Nat) (l0 : List Int) (a1 : Int) : Option (Int) := slices_Index_int64_int64.l0 k l0 a1 (l0.length : Int) 0
theorem slices_Index_int64_int64.mono_l : ∀ k, (∀ y0 y1 y2 y3, LeO (slices_Index_int64_int64.l0 k y0 y1 y2 y3) (slices_Index_int64_int64.l0 (k + 1) y0 y1 y2 y3))
 | 0 => fun _ _ _ _ r h => by simp [slices_Index_int64_int64.l0] at h
 | k + 1 => by
  have ih0 := slices_Index_int64_int64.mono_l k
  ·intro y0 y1 y2 y3
   unfold slices_Index_int64_int64.l0
   repeat' first
   | (with_reducible exact ih0 _ _ _ _)
   | (with_reducible exact LeO.refl _)
   | (with_reducible exact LeO.none _)
   | (with_reducible refine LeO.ite ?_ ?_)
   | (with_reducible refine LeO.bind ?_ (fun _ => ?_))
   | exact ih0 _ _ _ _
   | exact LeO.none _
   | refine LeO.ite ?_ ?_
   | refine LeO.bind ?_ (fun _ => ?_)
theorem slices_Index_int64_int64.mono : ∀ a0 a1 k, LeO (slices_Index_int64_int64.f k a0 a1) (slices_Index_int64_int64.f (k + 1) a0 a1) := by
 intro a0 a1 k
 have ih0 := slices_Index_int64_int64.mono_l k
 unfold slices_Index_int64_int64.f
 repeat' first
   | (with_reducible exact ih0 _ _ _ _)
   | (with_reducible exact LeO.refl _)
   | (with_reducible exact LeO.none _)
   | (with_reducible refine LeO.ite ?_ ?_)
   | (with_reducible refine LeO.bind ?_ (fun _ => ?_))
   | exact ih0 _ _ _ _
   | exact LeO.none _
   | refine LeO.ite ?_ ?_
   | refine LeO.bind ?_ (fun _ => ?_)
set_option maxHeartbeats 8000000 in
set_option maxRecDepth 100000 in
theorem slices_Index_int64_int64.calls (k : Nat) (A0 : Option Addr) (c0 : Nat) (l0 : List Int) (a1 : Int) (r : Int) (w : World) (hr0 : Kd.C (Kd.int .i64) w A0 l0.length l0) (hc0 : l0.length ≤ c0) (h : slices_Index_int64_int64.f k l0 a1 = some r) :
  Calls Try.prog 97 #[.slice A0 l0.length c0, .int .i64 a1] w fun e w' => e = .returned (.int .i64 r) ∧ Drawn0 w w' := by
 have HR0 := Aside0.mk hr0
 have HC0 := Aside0.mk hc0
 clear hr0 hc0
 have H : (slices_Index_int64_int64.l0 k l0 a1 (l0.length : Int) 0) = some r := h
 clear h
 have H' := Aside0.mk H
 clear H
 go_enter Try.func97, Try.ntmps97
 go_wp2
 go_loopg [8] k (fun kq v8 w' => ∃ (x8_1 : Int), v8 = .int .i64 x8_1 ∧ Aside0 (slices_Index_int64_int64.l0 kq l0 a1 (l0.length : Int) x8_1 = some r) ∧ Aside0 (kq ≤ k) ∧ Drawn0 w w')
 case atStart => exact ⟨(0), cs_, H', ⟨Nat.le_refl _⟩, cD_⟩
 case round =>
  clear H'
  try clear p2
  obtain ⟨x8_1, rfl, HA, HK1, ⟨m1, rfl⟩⟩ := hrel
  cases gk with
  | zero => exact absurd HA.out (by simp [slices_Index_int64_int64.l0])
  | succ k1 =>
   have H := HA.out
   clear HA
   simp only [slices_Index_int64_int64.l0] at H
   by_cases c3 : x8_1 < (l0.length : Int)
   rotate_left
   ·rw [if_neg c3] at H
    have c3b0 : decide (x8_1 < (l0.length : Int)) = false := decide_eq_false c3
    clear c3
    obtain rfl := Option.some.inj H
    go_wp2
    go_ret
    exact ⟨cs_, cD_⟩
   rw [if_pos c3] at H
   have c3b0 : decide (x8_1 < (l0.length : Int)) = true := decide_eq_true c3
   clear c3
   by_cases c4 : 0 ≤ x8_1
   rotate_left
   ·rw [if_neg c4] at H
    exact absurd H (by simp)
   rw [if_pos c4] at H
   have c4b0 : decide (0 ≤ x8_1) = true := decide_eq_true c4
   clear c4
   by_cases c5 : x8_1 < (l0.length : Int)
   rotate_left
   ·rw [if_neg c5] at H
    exact absurd H (by simp)
   rw [if_pos c5] at H
   have c5b0 : decide (x8_1 < (l0.length : Int)) = true := decide_eq_true c5
   clear c5
   by_cases c6 : a1 = (rd l0 x8_1)
   ·rw [if_pos c6] at H
    have c6b0 : (a1 == (rd l0 x8_1)) = true := beq_iff_eq.mpr c6
    have c6b1 : (a1 != (rd l0 x8_1)) = false := bne_eq_false_iff_eq.mpr c6
    clear c6
    obtain rfl := Option.some.inj H
    have p397 : 0 ≤ (x8_1 : Int) := of_decide_eq_true ca_
    have q397 : x8_1 < (l0.length : Int) := of_decide_eq_true ca_
    obtain ⟨ad397, e397, hx397_0⟩ := Kd.at_int HR0.out x8_1 p397 q397
    cases e397
    replace p397 := eq_true p397
    replace q397 := eq_true q397
    go_wp2
    go_ret
    exact ⟨cs_, cD_⟩
   rw [if_neg c6] at H
   have c6b0 : (a1 == (rd l0 x8_1)) = false := beq_eq_false_iff_ne.mpr c6
   have c6b1 : (a1 != (rd l0 x8_1)) = true := bne_iff_ne.mpr c6
   have H' := Aside0.mk H
   clear H
   have p397 : 0 ≤ (x8_1 : Int) := of_decide_eq_true ca_
   have q397 : x8_1 < (l0.length : Int) := of_decide_eq_true ca_
   obtain ⟨ad397, e397, hx397_0⟩ := Kd.at_int HR0.out x8_1 p397 q397
   cases e397
   replace p397 := eq_true p397
   replace q397 := eq_true q397
   go_wp2
   go_roundg k1
   case measure => have := HK1.out; omega
   case rel => exact ⟨(wrap64 (x8_1 + 1)), cs_, H', ⟨co_ HK1.out⟩, cD_⟩

/-! ### slices_Contains_int64_int64: function 85 -/
def slices_Contains_int64_int64.f (k : Nat) (l0 : List Int) (a1 : Int) : Option (Bool) := (slices_Index_int64_int64.f k l0 a1).bind fun t398 => (some (decide (t398 ≥ 0)))
theorem slices_Contains_int64_int64.mono : ∀ a0 a1 k, LeO (slices_Contains_int64_int64.f k a0 a1) (slices_Contains_int64_int64.f (k + 1) a0 a1) := by
 intro a0 a1 k
 unfold slices_Contains_int64_int64.f
 repeat' first
   | (with_reducible exact slices_Index_int64_int64.mono _ _ _)
   | (with_reducible exact LeO.refl _)
   | (with_reducible exact LeO.none _)
   | (with_reducible refine LeO.ite ?_ ?_)
   | (with_reducible refine LeO.bind ?_ (fun _ => ?_))
   | exact slices_Index_int64_int64.mono _ _ _
   | exact LeO.none _
   | refine LeO.ite ?_ ?_
   | refine LeO.bind ?_ (fun _ => ?_)
set_option maxHeartbeats 8000000 in
set_option maxRecDepth 100000 in
theorem slices_Contains_int64_int64.calls (k : Nat) (A0 : Option Addr) (c0 : Nat) (l0 : List Int) (a1 : Int) (r : Bool) (w : World) (hr0 : Kd.C (Kd.int .i64) w A0 l0.length l0) (hc0 : l0.length ≤ c0) (h : slices_Contains_int64_int64.f k l0 a1 = some r) :
  Calls Try.prog 85 #[.slice A0 l0.length c0, .int .i64 a1] w fun e w' => e = .returned (.bool r) ∧ Drawn0 w w' := by
 have HR0 := Aside0.mk hr0
 have HC0 := Aside0.mk hc0
 clear hr0 hc0
 have H : ((slices_Index_int64_int64.f k l0 a1).bind fun t398 => (some (decide (t398 ≥ 0)))) = some r := h
 clear h
 obtain ⟨t398, A3, H⟩ := bnd_ H
 try dsimp only at H
 obtain rfl := Option.some.inj H
 go_enter Try.func85, Try.ntmps85
 go_wp2_with (first | (refine gl_ 97 (some 7) Try.func97 #[.slice A0 l0.length c0, .int .i64 a1] ?_; (with_reducible refine (slices_Index_int64_int64.calls k _ _ l0 a1 t398 _ ?side1 ?side2 A3.out).mono ?_); (case side1 => exact cC_ HR0.out); (case side2 => exact HC0.out); rintro e w' ⟨rfl, ⟨nd, rfl⟩⟩; refine ⟨_, rfl, ?_⟩))
 go_ret
 exact ⟨cs_, cD_⟩

/-! ### impl_readersOf: function 57 -/
def impl_readersOf.l0 : Nat → Int → List Int → List (S58) → Int → Int → Option (List Int)
 | 0, _, _, _, _, _ => none
 | k + 1, x1, x5, x9, x10, x11 => if x11 < x10 then (if 0 ≤ x11 then (if x11 < (x9.length : Int) then ((impl_Node_reads.f ((rd_T58 x9 x11).f0) ((rd_T58 x9 x11).f1) ((rd_T58 x9 x11).f2) ((rd_T58 x9 x11).f3) ((rd_T58 x9 x11).f4) ((rd_T58 x9 x11).f5) ((rd_T58 x9 x11).f6)).bind fun t404 => ((slices_Contains_int64_int64.f k t404 x1).bind fun t407 => (if t407 = true then (if x5.length < 17592186044416 then (impl_readersOf.l0 k x1 (x5 ++ [x11]) x9 x10 (wrap64 (x11 + 1))) else (none)) else (impl_readersOf.l0 k x1 x5 x9 x10 (wrap64 (x11 + 1)))))) else (none)) else (none)) else (some x5)
def impl_readersOf.f (k : Nat) (l0 : List (S58)) (a1 : Int) : Option (List Int) := impl_readersOf.l0 k a1 (([] : List Int)) l0 (l0.length : Int) 0
theorem impl_readersOf.mono_l : ∀ k, (∀ y0 y1 y2 y3 y4, LeO (impl_readersOf.l0 k y0 y1 y2 y3 y4) (impl_readersOf.l0 (k + 1) y0 y1 y2 y3 y4))
 | 0 => fun _ _ _ _ _ r h => by simp [impl_readersOf.l0] at h
 | k + 1 => by
  have ih0 := impl_readersOf.mono_l k
  ·intro y0 y1 y2 y3 y4
   unfold impl_readersOf.l0
   repeat' first
   | (with_reducible exact ih0 _ _ _ _ _)
   | (with_reducible exact slices_Contains_int64_int64.mono _ _ _)
   | (with_reducible exact LeO.refl _)
   | (with_reducible exact LeO.none _)
   | (with_reducible refine LeO.ite ?_ ?_)
   | (with_reducible refine LeO.bind ?_ (fun _ => ?_))
   | exact ih0 _ _ _ _ _
   | exact slices_Contains_int64_int64.mono _ _ _
   | exact LeO.none _
   | refine LeO.ite ?_ ?_
   | refine LeO.bind ?_ (fun _ => ?_)
theorem impl_readersOf.mono : ∀ a0 a1 k, LeO (impl_readersOf.f k a0 a1) (impl_readersOf.f (k + 1) a0 a1) := by
 intro a0 a1 k
 have ih0 := impl_readersOf.mono_l k
 unfold impl_readersOf.f
 repeat' first
   | (with_reducible exact ih0 _ _ _ _ _)
   | (with_reducible exact slices_Contains_int64_int64.mono _ _ _)
   | (with_reducible exact LeO.refl _)
   | (with_reducible exact LeO.none _)
   | (with_reducible refine LeO.ite ?_ ?_)
   | (with_reducible refine LeO.bind ?_ (fun _ => ?_))
   | exact ih0 _ _ _ _ _
   | exact slices_Contains_int64_int64.mono _ _ _
   | exact LeO.none _
   | refine LeO.ite ?_ ?_
   | refine LeO.bind ?_ (fun _ => ?_)
set_option maxHeartbeats 8000000 in
set_option maxRecDepth 100000 in
theorem impl_readersOf.calls (k : Nat) (A0 : Option Addr) (c0 : Nat) (l0 : List (S58)) (a1 : Int) (r : List Int) (w : World) (hr0 : Kd.C k58 w A0 l0.length l0) (hc0 : l0.length ≤ c0) (h : impl_readersOf.f k l0 a1 = some r) :
  Calls Try.prog 57 #[.slice A0 l0.length c0, .int .i64 a1] w fun e w' => ∃ v0_ : Value, e = .returned (v0_) ∧ Kd.R (Kd.int .i64) 2 w' w.heap.size (fun _ => True) v0_ r ∧ Below w.heap.size w w' := by
 have hu58 := Try.underlying58
 have HR0 := Aside0.mk hr0
 have HC0 := Aside0.mk hc0
 clear hr0 hc0
 have HB := Aside0.mk (Below.refl w.heap.size w)
 have H : (impl_readersOf.l0 k a1 (([] : List Int)) l0 (l0.length : Int) 0) = some r := h
 clear h
 obtain ⟨y399, hy_⟩ : ∃ y_ : List Int, y_ = (([] : List Int)) := ⟨_, rfl⟩
 replace H : (impl_readersOf.l0 k a1 y399 l0 (l0.length : Int) 0) = some r := yb_
 have Ny399 := Aside0.mk hy_
 clear hy_
 have H' := Aside0.mk H
 clear H
 go_enter Try.func57, Try.ntmps57
 go_wp2_with (first | ((with_reducible refine gate_dst (N := 8) rfl ?_); refine Kd.R_lit (Kd.int .i64) _ 2 ?hg (N := 8) ?hd (xs := ([] : List Int)) (inner := []) (ok := fun _ => True) (okp := fun _ => True) ?hr ?hp (fun _ hk => hk) trivial (Below.refl _ _) (Nat.le_refl _) (by simp) ?_; (case hd => rfl); (case hg => rfl); (case hr => first | (go_simp; done) | (go_simp; rfl)); (case hp => exact (Reps.none _ _)); intro v400 w3 ho4 hb hg_ hnew_; clear hg_ hnew_; (first | rw [← Ny399.out] at ho4 | (simp only [Int.reduceToNat] at ho4; rw [← Ny399.out] at ho4)); have HO401 := Aside0.mk (Kd.R_lower ho4 (below_size cB0_)); replace HB := Aside0.mk (below_step cB0_ hb); clear hb ho4))
 go_loopg [5, 11] k (fun kq v5 v11 w' => ∃ (x5_1 : List Int) (x11_1 : Int), v11 = .int .i64 x11_1 ∧ Aside0 (impl_readersOf.l0 kq a1 x5_1 l0 (l0.length : Int) x11_1 = some r) ∧ Aside0 (kq ≤ k) ∧ Aside0 (Kd.R (Kd.int .i64) 2 w' w.heap.size (fun _ => True) v5 x5_1) ∧ Aside0 (Below w.heap.size w w'))
 case atStart => exact ⟨(y399), (0), cs_, H', ⟨Nat.le_refl _⟩, ⟨cR_ HO401.out⟩, ⟨cB0_⟩⟩
 case round =>
  clear H'
  try clear p2
  obtain ⟨x5_1, x11_1, rfl, HA, HK1, HO_5, HB⟩ := hrel
  cases gk with
  | zero => exact absurd HA.out (by simp [impl_readersOf.l0])
  | succ k1 =>
   have H := HA.out
   clear HA
   simp only [impl_readersOf.l0] at H
   by_cases c5 : x11_1 < (l0.length : Int)
   rotate_left
   ·rw [if_neg c5] at H
    have c5b0 : decide (x11_1 < (l0.length : Int)) = false := decide_eq_false c5
    clear c5
    obtain rfl := Option.some.inj H
    go_wp2
    go_ret
    exact ⟨_, ce_, cR_ HO_5.out, cB0_⟩
   rw [if_pos c5] at H
   have c5b0 : decide (x11_1 < (l0.length : Int)) = true := decide_eq_true c5
   clear c5
   by_cases c6 : 0 ≤ x11_1
   rotate_left
   ·rw [if_neg c6] at H
    exact absurd H (by simp)
   rw [if_pos c6] at H
   have c6b0 : decide (0 ≤ x11_1) = true := decide_eq_true c6
   clear c6
   by_cases c7 : x11_1 < (l0.length : Int)
   rotate_left
   ·rw [if_neg c7] at H
    exact absurd H (by simp)
   rw [if_pos c7] at H
   have c7b0 : decide (x11_1 < (l0.length : Int)) = true := decide_eq_true c7
   clear c7
   obtain ⟨t404, A8, H⟩ := bnd_ H
   try dsimp only at H
   obtain ⟨t407, A9, H⟩ := bnd_ H
   try dsimp only at H
   by_cases c10 : t407 = true
   ·subst c10
    rw [if_pos rfl] at H
    by_cases c11 : x5_1.length < 17592186044416
    rotate_left
    ·rw [if_neg c11] at H
     exact absurd H (by simp)
    rw [if_pos c11] at H
    have LMc11 := Aside0.mk c11
    clear c11
    obtain ⟨y408, hy_⟩ : ∃ y_ : List Int, y_ = (x5_1 ++ [x11_1]) := ⟨_, rfl⟩
    replace H : (impl_readersOf.l0 k1 a1 y408 l0 (l0.length : Int) (wrap64 (x11_1 + 1))) = some r := yb_
    have Ny408 := Aside0.mk hy_
    clear hy_
    have H' := Aside0.mk H
    clear H
    have p402 : 0 ≤ (x11_1 : Int) := of_decide_eq_true ca_
    have q402 : x11_1 < (l0.length : Int) := of_decide_eq_true ca_
    obtain ⟨ad402, A402_6, c402_6, e402, hx402_0, hx402_1, hx402_2, hx402_3, hx402_4, hx402_5, hx402_6, hl402_6, hi402_6⟩ := at_T58 HR0.out x11_1 p402 q402
    cases e402
    replace hx402_0 := (HB.out.cell (World.block_lt_of_cell? w _ hx402_0)).trans hx402_0
    replace hx402_1 := (HB.out.cell (World.block_lt_of_cell? w _ hx402_1)).trans hx402_1
    replace hx402_2 := (HB.out.cell (World.block_lt_of_cell? w _ hx402_2)).trans hx402_2
    replace hx402_3 := (HB.out.cell (World.block_lt_of_cell? w _ hx402_3)).trans hx402_3
    replace hx402_4 := (HB.out.cell (World.block_lt_of_cell? w _ hx402_4)).trans hx402_4
    replace hx402_5 := (HB.out.cell (World.block_lt_of_cell? w _ hx402_5)).trans hx402_5
    replace hx402_6 := (HB.out.cell (World.block_lt_of_cell? w _ hx402_6)).trans hx402_6
    have HR402_6 := Aside0.mk hi402_6
    have HC402_6 := Aside0.mk hl402_6
    clear hi402_6 hl402_6
    replace p402 := eq_true p402
    replace q402 := eq_true q402
    go_wp2_with (first | (refine bx_ 7 #[.int .i64 0, .int .i64 0, .int .i64 0, .int .i64 0, .int .i64 0, .int .i64 0, .slice none 0 0] 58 ?_; intro gb403 hg w12 hbox hb; replace HO_5 := Aside0.mk (Kd.R_below (cR_ HO_5.out) hb); have BK403 := Aside0.mk (hbox); have GW403 := Aside0.mk ((by rw [hg]; exact (below_size cB0_) : w.heap.size ≤ gb403)); have GE403 := Aside0.mk ((by rw [hg]; exact (below_size cB0_) : w.heap.size ≤ gb403)); replace HB := Aside0.mk (below_step cB0_ hb); clear hb hbox hg; obtain ⟨hcz13_0, hcz13_1, hcz13_2, hcz13_3, hcz13_4, hcz13_5, hcz13_6, hfz13_0, hfz13_1, hfz13_2, hfz13_3, hfz13_4, hfz13_5, hfz13_6⟩ := cells7 BK403.out) | (refine gl_ 77 (some 17) Try.func77 #[.agg #[.int .i64 ((rd_T58 l0 x11_1).f0), .int .i64 ((rd_T58 l0 x11_1).f1), .int .i64 ((rd_T58 l0 x11_1).f2), .int .i64 ((rd_T58 l0 x11_1).f3), .int .i64 ((rd_T58 l0 x11_1).f4), .int .i64 ((rd_T58 l0 x11_1).f5), .slice A402_6 ((rd_T58 l0 x11_1).f6).length c402_6]] ?_; (with_reducible refine (impl_Node_reads.calls ((rd_T58 l0 x11_1).f0) ((rd_T58 l0 x11_1).f1) ((rd_T58 l0 x11_1).f2) ((rd_T58 l0 x11_1).f3) ((rd_T58 l0 x11_1).f4) ((rd_T58 l0 x11_1).f5) _ _ ((rd_T58 l0 x11_1).f6) t404 _ ?side1 ?side2 A8.out).mono ?_); (case side1 => exact (by exact Kd.C_below HR402_6.out b13_4)); (case side2 => exact HC402_6.out); rintro e w14 ⟨v405, rfl, ho0, hb⟩; refine ⟨_, rfl, ?_⟩; have HO406 := Aside0.mk (Kd.R_lower (Kd.R_new' ho0 (Kd.R_lt b13_1)) (below_size b13_4)); replace HO_5 := Aside0.mk (Kd.R_elder' b13_1 (Kd.R_base ho0) hb); replace BK403 := Aside0.mk (blk_below (g := gb403) (o := .cells #[.int .i64 ((rd_T58 l0 x11_1).f0), .int .i64 ((rd_T58 l0 x11_1).f1), .int .i64 ((rd_T58 l0 x11_1).f2), .int .i64 ((rd_T58 l0 x11_1).f3), .int .i64 ((rd_T58 l0 x11_1).f4), .int .i64 ((rd_T58 l0 x11_1).f5), .slice A402_6 ((rd_T58 l0 x11_1).f6).length c402_6] 58 (0, 0)) (by refine cO_ ?_; refine blk_put (cs := #[.int .i64 ((rd_T58 l0 x11_1).f0), .int .i64 ((rd_T58 l0 x11_1).f1), .int .i64 ((rd_T58 l0 x11_1).f2), .int .i64 ((rd_T58 l0 x11_1).f3), .int .i64 ((rd_T58 l0 x11_1).f4), .int .i64 ((rd_T58 l0 x11_1).f5), .slice none 0 0]) ?_ 6 _ rfl; refine cO_ ?_; refine blk_put (cs := #[.int .i64 ((rd_T58 l0 x11_1).f0), .int .i64 ((rd_T58 l0 x11_1).f1), .int .i64 ((rd_T58 l0 x11_1).f2), .int .i64 ((rd_T58 l0 x11_1).f3), .int .i64 ((rd_T58 l0 x11_1).f4), .int .i64 0, .slice none 0 0]) ?_ 5 _ rfl; refine cO_ ?_; refine blk_put (cs := #[.int .i64 ((rd_T58 l0 x11_1).f0), .int .i64 ((rd_T58 l0 x11_1).f1), .int .i64 ((rd_T58 l0 x11_1).f2), .int .i64 ((rd_T58 l0 x11_1).f3), .int .i64 0, .int .i64 0, .slice none 0 0]) ?_ 4 _ rfl; refine cO_ ?_; refine blk_put (cs := #[.int .i64 ((rd_T58 l0 x11_1).f0), .int .i64 ((rd_T58 l0 x11_1).f1), .int .i64 ((rd_T58 l0 x11_1).f2), .int .i64 0, .int .i64 0, .int .i64 0, .slice none 0 0]) ?_ 3 _ rfl; refine cO_ ?_; refine blk_put (cs := #[.int .i64 ((rd_T58 l0 x11_1).f0), .int .i64 ((rd_T58 l0 x11_1).f1), .int .i64 0, .int .i64 0, .int .i64 0, .int .i64 0, .slice none 0 0]) ?_ 2 _ rfl; refine cO_ ?_; refine blk_put (cs := #[.int .i64 ((rd_T58 l0 x11_1).f0), .int .i64 0, .int .i64 0, .int .i64 0, .int .i64 0, .int .i64 0, .slice none 0 0]) ?_ 1 _ rfl; refine cO_ ?_; refine blk_put (cs := #[.int .i64 0, .int .i64 0, .int .i64 0, .int .i64 0, .int .i64 0, .int .i64 0, .slice none 0 0]) ?_ 0 _ rfl; refine cO_ ?_; exact BK403.out) hb); replace HB := Aside0.mk (below_step b13_4 hb); (try clear hb); (try clear hb2); (try clear hk); (try clear hi); (try clear ho0); obtain ⟨Ao15, co15, eo15⟩ := Kd.R_slice HO406.out; subst eo15) | (refine gl_ 85 (some 19) Try.func85 #[.slice Ao15 t404.length co15, .int .i64 a1] ?_; (with_reducible refine (slices_Contains_int64_int64.calls k1 _ _ t404 a1 true _ ?side1 ?side2 A9.out).mono ?_); (case side1 => exact cC_ ((Kd.R_reads' HO406.out).2.2)); (case side2 => exact (Kd.R_reads' HO406.out).2.1); rintro e w' ⟨rfl, ⟨nd, rfl⟩⟩; refine ⟨_, rfl, ?_⟩) | ((with_reducible refine gate_builtin (b := .append) (xs := #[.tmp 20, .tmp 22]) rfl ?_); at_builtin; refine Kd.R_append (Kd.int .i64) (w0 := w) w.heap.size rfl (.tmp 20) (.tmp 22) 40 2 (.int .i64 0) 8 rfl Try.underlying40 info2 rfl (by decide) (by omega) u5 x5_1 x11_1 [.int .i64 x11_1] (fun k_ => some k_ ≠ (.slice Ao15 t404.length co15 : Value).ownBlock) (fun _ => False) rfl rfl ?aP (fun _ hk => hk.elim) ?aF ?aO ?aB ?aS ?aL ?_; (case aP => exact rfl); (case aB => exact b13_4); (case aF => exact (by exact (fun k_ hk => Kd.fresh' (Kd.R_lt (cR_ HO406.out)) k_ hk))); (case aO => exact (by exact (by refine cR_ ?_; exact Kd.R_mono HO_5.out (fun _ hk => hk.2)))); (case aS => exact (by exact (below_size b13_4))); (case aL => exact co_ LMc11.out); intro v409 w16 ho hb hg hat; rw [← Ny408.out] at ho; replace BK403 := Aside0.mk (blk_grown (g := gb403) (o := .cells #[.int .i64 ((rd_T58 l0 x11_1).f0), .int .i64 ((rd_T58 l0 x11_1).f1), .int .i64 ((rd_T58 l0 x11_1).f2), .int .i64 ((rd_T58 l0 x11_1).f3), .int .i64 ((rd_T58 l0 x11_1).f4), .int .i64 ((rd_T58 l0 x11_1).f5), .slice A402_6 ((rd_T58 l0 x11_1).f6).length c402_6] 58 (0, 0)) (cO_ BK403.out) hg (Kd.R_ne HO_5.out BK403.out (by decide))); replace HO406 := Aside0.mk (Kd.R_after (ok := (fun _ => True)) (cR_ HO406.out) hg hat); replace HB := Aside0.mk (hb); have HO410 := Aside0.mk (ho); clear HO_5; clear ho hb hg hat))
    go_roundg k1
    case measure => have := HK1.out; omega
    case rel => exact ⟨(y408), (wrap64 (x11_1 + 1)), cs_, H', ⟨co_ HK1.out⟩, ⟨by refine cR_ ?_; exact Kd.R_mono HO410.out (fun _ hk => trivial)⟩, ⟨cB1_ GE403.out⟩⟩
   replace c10 := Bool.eq_false_iff.mpr c10
   subst c10
   rw [if_neg (show ¬ (false = true) by decide)] at H
   have H' := Aside0.mk H
   clear H
   have p402 : 0 ≤ (x11_1 : Int) := of_decide_eq_true ca_
   have q402 : x11_1 < (l0.length : Int) := of_decide_eq_true ca_
   obtain ⟨ad402, A402_6, c402_6, e402, hx402_0, hx402_1, hx402_2, hx402_3, hx402_4, hx402_5, hx402_6, hl402_6, hi402_6⟩ := at_T58 HR0.out x11_1 p402 q402
   cases e402
   replace hx402_0 := (HB.out.cell (World.block_lt_of_cell? w _ hx402_0)).trans hx402_0
   replace hx402_1 := (HB.out.cell (World.block_lt_of_cell? w _ hx402_1)).trans hx402_1
   replace hx402_2 := (HB.out.cell (World.block_lt_of_cell? w _ hx402_2)).trans hx402_2
   replace hx402_3 := (HB.out.cell (World.block_lt_of_cell? w _ hx402_3)).trans hx402_3
   replace hx402_4 := (HB.out.cell (World.block_lt_of_cell? w _ hx402_4)).trans hx402_4
   replace hx402_5 := (HB.out.cell (World.block_lt_of_cell? w _ hx402_5)).trans hx402_5
   replace hx402_6 := (HB.out.cell (World.block_lt_of_cell? w _ hx402_6)).trans hx402_6
   have HR402_6 := Aside0.mk hi402_6
   have HC402_6 := Aside0.mk hl402_6
   clear hi402_6 hl402_6
   replace p402 := eq_true p402
   replace q402 := eq_true q402
   go_wp2_with (first | (refine bx_ 7 #[.int .i64 0, .int .i64 0, .int .i64 0, .int .i64 0, .int .i64 0, .int .i64 0, .slice none 0 0] 58 ?_; intro gb403 hg w17 hbox hb; replace HO_5 := Aside0.mk (Kd.R_below (cR_ HO_5.out) hb); have BK403 := Aside0.mk (hbox); have GW403 := Aside0.mk ((by rw [hg]; exact (below_size cB0_) : w.heap.size ≤ gb403)); have GE403 := Aside0.mk ((by rw [hg]; exact (below_size cB0_) : w.heap.size ≤ gb403)); replace HB := Aside0.mk (below_step cB0_ hb); clear hb hbox hg; obtain ⟨hcz18_0, hcz18_1, hcz18_2, hcz18_3, hcz18_4, hcz18_5, hcz18_6, hfz18_0, hfz18_1, hfz18_2, hfz18_3, hfz18_4, hfz18_5, hfz18_6⟩ := cells7 BK403.out) | (refine gl_ 77 (some 17) Try.func77 #[.agg #[.int .i64 ((rd_T58 l0 x11_1).f0), .int .i64 ((rd_T58 l0 x11_1).f1), .int .i64 ((rd_T58 l0 x11_1).f2), .int .i64 ((rd_T58 l0 x11_1).f3), .int .i64 ((rd_T58 l0 x11_1).f4), .int .i64 ((rd_T58 l0 x11_1).f5), .slice A402_6 ((rd_T58 l0 x11_1).f6).length c402_6]] ?_; (with_reducible refine (impl_Node_reads.calls ((rd_T58 l0 x11_1).f0) ((rd_T58 l0 x11_1).f1) ((rd_T58 l0 x11_1).f2) ((rd_T58 l0 x11_1).f3) ((rd_T58 l0 x11_1).f4) ((rd_T58 l0 x11_1).f5) _ _ ((rd_T58 l0 x11_1).f6) t404 _ ?side1 ?side2 A8.out).mono ?_); (case side1 => exact (by exact Kd.C_below HR402_6.out b13_4)); (case side2 => exact HC402_6.out); rintro e w19 ⟨v405, rfl, ho0, hb⟩; refine ⟨_, rfl, ?_⟩; have HO406 := Aside0.mk (Kd.R_lower (Kd.R_new' ho0 (Kd.R_lt b13_1)) (below_size b13_4)); replace HO_5 := Aside0.mk (Kd.R_elder' b13_1 (Kd.R_base ho0) hb); replace BK403 := Aside0.mk (blk_below (g := gb403) (o := .cells #[.int .i64 ((rd_T58 l0 x11_1).f0), .int .i64 ((rd_T58 l0 x11_1).f1), .int .i64 ((rd_T58 l0 x11_1).f2), .int .i64 ((rd_T58 l0 x11_1).f3), .int .i64 ((rd_T58 l0 x11_1).f4), .int .i64 ((rd_T58 l0 x11_1).f5), .slice A402_6 ((rd_T58 l0 x11_1).f6).length c402_6] 58 (0, 0)) (by refine cO_ ?_; refine blk_put (cs := #[.int .i64 ((rd_T58 l0 x11_1).f0), .int .i64 ((rd_T58 l0 x11_1).f1), .int .i64 ((rd_T58 l0 x11_1).f2), .int .i64 ((rd_T58 l0 x11_1).f3), .int .i64 ((rd_T58 l0 x11_1).f4), .int .i64 ((rd_T58 l0 x11_1).f5), .slice none 0 0]) ?_ 6 _ rfl; refine cO_ ?_; refine blk_put (cs := #[.int .i64 ((rd_T58 l0 x11_1).f0), .int .i64 ((rd_T58 l0 x11_1).f1), .int .i64 ((rd_T58 l0 x11_1).f2), .int .i64 ((rd_T58 l0 x11_1).f3), .int .i64 ((rd_T58 l0 x11_1).f4), .int .i64 0, .slice none 0 0]) ?_ 5 _ rfl; refine cO_ ?_; refine blk_put (cs := #[.int .i64 ((rd_T58 l0 x11_1).f0), .int .i64 ((rd_T58 l0 x11_1).f1), .int .i64 ((rd_T58 l0 x11_1).f2), .int .i64 ((rd_T58 l0 x11_1).f3), .int .i64 0, .int .i64 0, .slice none 0 0]) ?_ 4 _ rfl; refine cO_ ?_; refine blk_put (cs := #[.int .i64 ((rd_T58 l0 x11_1).f0), .int .i64 ((rd_T58 l0 x11_1).f1), .int .i64 ((rd_T58 l0 x11_1).f2), .int .i64 0, .int .i64 0, .int .i64 0, .slice none 0 0]) ?_ 3 _ rfl; refine cO_ ?_; refine blk_put (cs := #[.int .i64 ((rd_T58 l0 x11_1).f0), .int .i64 ((rd_T58 l0 x11_1).f1), .int .i64 0, .int .i64 0, .int .i64 0, .int .i64 0, .slice none 0 0]) ?_ 2 _ rfl; refine cO_ ?_; refine blk_put (cs := #[.int .i64 ((rd_T58 l0 x11_1).f0), .int .i64 0, .int .i64 0, .int .i64 0, .int .i64 0, .int .i64 0, .slice none 0 0]) ?_ 1 _ rfl; refine cO_ ?_; refine blk_put (cs := #[.int .i64 0, .int .i64 0, .int .i64 0, .int .i64 0, .int .i64 0, .int .i64 0, .slice none 0 0]) ?_ 0 _ rfl; refine cO_ ?_; exact BK403.out) hb); replace HB := Aside0.mk (below_step b13_4 hb); (try clear hb); (try clear hb2); (try clear hk); (try clear hi); (try clear ho0); obtain ⟨Ao20, co20, eo20⟩ := Kd.R_slice HO406.out; subst eo20) | (refine gl_ 85 (some 19) Try.func85 #[.slice Ao20 t404.length co20, .int .i64 a1] ?_; (with_reducible refine (slices_Contains_int64_int64.calls k1 _ _ t404 a1 false _ ?side1 ?side2 A9.out).mono ?_); (case side1 => exact cC_ ((Kd.R_reads' HO406.out).2.2)); (case side2 => exact (Kd.R_reads' HO406.out).2.1); rintro e w' ⟨rfl, ⟨nd, rfl⟩⟩; refine ⟨_, rfl, ?_⟩))
   go_roundg k1
   case measure => have := HK1.out; omega
   case rel => exact ⟨(x5_1), (wrap64 (x11_1 + 1)), cs_, H', ⟨co_ HK1.out⟩, ⟨by refine cR_ ?_; exact Kd.R_mono HO_5.out (fun _ hk => trivial)⟩, ⟨cB1_ GE403.out⟩⟩

/-! ### impl_ReadersOf: function 25 -/
def impl_ReadersOf.f (k : Nat) (l0 : List (S58)) (a1 : Int) : Option (Int × List Int) := (impl_nodeCode.f k l0 a1).bind fun bt412 => (if bt412.2 = 0 then ((impl_readersOf.f k l0 a1).bind fun t416 => (some (0, t416))) else (some (bt412.2, ([] : List Int))))
theorem impl_ReadersOf.mono : ∀ a0 a1 k, LeO (impl_ReadersOf.f k a0 a1) (impl_ReadersOf.f (k + 1) a0 a1) := by
 intro a0 a1 k
 unfold impl_ReadersOf.f
 repeat' first
   | (with_reducible exact impl_nodeCode.mono _ _ _)
   | (with_reducible exact impl_readersOf.mono _ _ _)
   | (with_reducible exact LeO.refl _)
   | (with_reducible exact LeO.none _)
   | (with_reducible refine LeO.ite ?_ ?_)
   | (with_reducible refine LeO.bind ?_ (fun _ => ?_))
   | exact impl_nodeCode.mono _ _ _
   | exact impl_readersOf.mono _ _ _
   | exact LeO.none _
   | refine LeO.ite ?_ ?_
   | refine LeO.bind ?_ (fun _ => ?_)
set_option maxHeartbeats 8000000 in
set_option maxRecDepth 100000 in
theorem impl_ReadersOf.calls (k : Nat) (A0 : Option Addr) (c0 : Nat) (l0 : List (S58)) (a1 : Int) (r1 : Int) (r2 : List Int) (w : World) (hr0 : Kd.C k58 w A0 l0.length l0) (hc0 : l0.length ≤ c0) (h : impl_ReadersOf.f k l0 a1 = some (r1, r2)) :
  Calls Try.prog 25 #[.slice A0 l0.length c0, .int .i64 a1] w fun e w' => ∃ v1_ : Value, e = .returned (.agg #[.int .i64 r1, v1_]) ∧ Kd.R (Kd.int .i64) 2 w' w.heap.size (fun _ => True) v1_ r2 ∧ Below w.heap.size w w' := by
 have hu42 := Try.underlying42
 have HR0 := Aside0.mk hr0
 have HC0 := Aside0.mk hc0
 clear hr0 hc0
 have HB := Aside0.mk (Below.refl w.heap.size w)
 have H : ((impl_nodeCode.f k l0 a1).bind fun bt412 => (if bt412.2 = 0 then ((impl_readersOf.f k l0 a1).bind fun t416 => (some (0, t416))) else (some (bt412.2, ([] : List Int))))) = some (r1, r2) := h
 clear h
 obtain ⟨⟨t412, t413⟩, A3, H⟩ := bnd_ H
 try dsimp only at H
 by_cases c4 : t413 = 0
 ·rw [if_pos c4] at H
  have c4b0 : (t413 == 0) = true := beq_iff_eq.mpr c4
  have c4b1 : (t413 != 0) = false := bne_eq_false_iff_eq.mpr c4
  clear c4
  obtain ⟨t416, A5, H⟩ := bnd_ H
  try dsimp only at H
  simp only [Option.some.injEq, Prod.mk.injEq] at H
  obtain ⟨rfl, rfl⟩ := H
  go_enter Try.func25, Try.ntmps25
  go_wp2_with (first | (refine bx_ 4 #[.int .i64 0, .slice none 0 0] 42 ?_; intro gb411 hg w6 hbox hb; have BK411 := Aside0.mk (hbox); have GW411 := Aside0.mk ((by rw [hg]; exact (below_size cB0_) : w.heap.size ≤ gb411)); have GE411 := Aside0.mk ((by rw [hg]; exact (below_size cB0_) : w.heap.size ≤ gb411)); replace HB := Aside0.mk (below_step cB0_ hb); clear hb hbox hg) | (refine gl_ 45 (some 10) Try.func45 #[.slice A0 l0.length c0, .int .i64 a1] ?_; (with_reducible refine (impl_nodeCode.calls k _ _ l0 a1 t412 t413 _ ?side1 ?side2 A3.out).mono ?_); (case side1 => exact b13_3); (case side2 => exact HC0.out); rintro e w7 ⟨v414, rfl, ho0, hb⟩; refine ⟨_, rfl, ?_⟩; have HO415 := Aside0.mk (Kd.R_lower ho0 (below_size (cB1_ GE411.out))); replace BK411 := Aside0.mk (blk_below (g := gb411) (o := .cells #[.int .i64 0, .slice none 0 0] 42 (0, 0)) (cO_ BK411.out) hb); replace HB := Aside0.mk (below_step (cB1_ GE411.out) hb); (try clear hb); (try clear hb2); (try clear hk); (try clear hi); (try clear ho0)) | (refine gl_ 57 (some 19) Try.func57 #[.slice A0 l0.length c0, .int .i64 a1] ?_; (with_reducible refine (impl_readersOf.calls k _ _ l0 a1 t416 _ ?side1 ?side2 A5.out).mono ?_); (case side1 => exact b13_3); (case side2 => exact HC0.out); rintro e w8 ⟨v417, rfl, ho0, hb⟩; refine ⟨_, rfl, ?_⟩; have HO418 := Aside0.mk (Kd.R_lower (Kd.R_new' ho0 (Kd.R_lt (cR_ HO415.out))) (below_size (cB1_ GE411.out))); replace HO415 := Aside0.mk (Kd.R_elder' (cR_ HO415.out) (Kd.R_base ho0) hb); replace BK411 := Aside0.mk (blk_below (g := gb411) (o := .cells #[.int .i64 0, .slice none 0 0] 42 (0, 0)) (cO_ BK411.out) hb); replace HB := Aside0.mk (below_step (cB1_ GE411.out) hb); (try clear hb); (try clear hb2); (try clear hk); (try clear hi); (try clear ho0); obtain ⟨Ao9, co9, eo9⟩ := Kd.R_slice HO418.out; subst eo9; obtain ⟨hcz10_0, hcz10_1, hfz10_0, hfz10_1⟩ := cells2 BK411.out))
  refine bodyPost_ret (results_cell_row rfl _ _ gb411 42 #[.int .i64 0, .slice Ao9 t416.length co9] (0, 0) _ rfl (by refine cO_ ?_; refine blk_put (cs := #[.int .i64 0, .slice none 0 0]) ?_ 1 _ rfl; refine cO_ ?_; refine blk_put (cs := #[.int .i64 0, .slice none 0 0]) ?_ 0 _ rfl; refine cO_ ?_; exact BK411.out) Try.underlying42 rfl (by kernel_rfl)) rfl ?_
  exact ⟨_, ce_, by refine cR_ ?_; exact Kd.R_mono (Kd.R_far (p := ⟨gb411, 1, none⟩) (Kd.R_far (p := ⟨gb411, 0, none⟩) (Kd.R_types HO418.out BK411.out (by decide)) (fun _ hk => hk.2) (.int .i64 0)) (fun _ hk => hk.2) (.slice Ao9 t416.length co9)) (fun _ hk => trivial), cB1_ GE411.out⟩
 rw [if_neg c4] at H
 have c4b0 : (t413 == 0) = false := beq_eq_false_iff_ne.mpr c4
 have c4b1 : (t413 != 0) = true := bne_iff_ne.mpr c4
 simp only [Option.some.injEq, Prod.mk.injEq] at H
 obtain ⟨rfl, rfl⟩ := H
 go_enter Try.func25, Try.ntmps25
 go_wp2_with (first | (refine bx_ 4 #[.int .i64 0, .slice none 0 0] 42 ?_; intro gb411 hg w11 hbox hb; have BK411 := Aside0.mk (hbox); have GW411 := Aside0.mk ((by rw [hg]; exact (below_size cB0_) : w.heap.size ≤ gb411)); have GE411 := Aside0.mk ((by rw [hg]; exact (below_size cB0_) : w.heap.size ≤ gb411)); replace HB := Aside0.mk (below_step cB0_ hb); clear hb hbox hg) | (refine gl_ 45 (some 10) Try.func45 #[.slice A0 l0.length c0, .int .i64 a1] ?_; (with_reducible refine (impl_nodeCode.calls k _ _ l0 a1 t412 t413 _ ?side1 ?side2 A3.out).mono ?_); (case side1 => exact b13_3); (case side2 => exact HC0.out); rintro e w12 ⟨v414, rfl, ho0, hb⟩; refine ⟨_, rfl, ?_⟩; have HO415 := Aside0.mk (Kd.R_lower ho0 (below_size (cB1_ GE411.out))); replace BK411 := Aside0.mk (blk_below (g := gb411) (o := .cells #[.int .i64 0, .slice none 0 0] 42 (0, 0)) (cO_ BK411.out) hb); replace HB := Aside0.mk (below_step (cB1_ GE411.out) hb); (try clear hb); (try clear hb2); (try clear hk); (try clear hi); (try clear ho0); obtain ⟨hcz13_0, hcz13_1, hfz13_0, hfz13_1⟩ := cells2 BK411.out))
 refine bodyPost_ret (results_cell_row rfl _ _ gb411 42 #[.int .i64 t413, .slice none 0 0] (0, 0) _ rfl (by refine cO_ ?_; refine blk_put (cs := #[.int .i64 t413, .slice none 0 0]) ?_ 1 _ rfl; refine cO_ ?_; refine blk_put (cs := #[.int .i64 0, .slice none 0 0]) ?_ 0 _ rfl; refine cO_ ?_; exact BK411.out) Try.underlying42 rfl (by kernel_rfl)) rfl ?_
 exact ⟨_, ce_, q13_0, cB1_ GE411.out⟩

/-! ### impl_nodesOf: function 58 -/
def impl_nodesOf.l0 : Nat → Int → List Int → List (S58) → Int → Int → Option (List Int)
 | 0, _, _, _, _, _ => none
 | k + 1, x1, x5, x9, x10, x11 => if x11 < x10 then (if 0 ≤ x11 then (if x11 < (x9.length : Int) then (if ((rd_T58 x9 x11).f0) = x1 then (if x5.length < 17592186044416 then (impl_nodesOf.l0 k x1 (x5 ++ [x11]) x9 x10 (wrap64 (x11 + 1))) else (none)) else (impl_nodesOf.l0 k x1 x5 x9 x10 (wrap64 (x11 + 1)))) else (none)) else (none)) else (some x5)
def impl_nodesOf.f (k : Nat) (l0 : List (S58)) (a1 : Int) : Option (List Int) := impl_nodesOf.l0 k a1 (([] : List Int)) l0 (l0.length : Int) 0
theorem impl_nodesOf.mono_l : ∀ k, (∀ y0 y1 y2 y3 y4, LeO (impl_nodesOf.l0 k y0 y1 y2 y3 y4) (impl_nodesOf.l0 (k + 1) y0 y1 y2 y3 y4))
 | 0 => fun _ _ _ _ _ r h => by simp [impl_nodesOf.l0] at h
 | k + 1 => by
  have ih0 := impl_nodesOf.mono_l k
  ·intro y0 y1 y2 y3 y4
   unfold impl_nodesOf.l0
   repeat' first
   | (with_reducible exact ih0 _ _ _ _ _)
   | (with_reducible exact LeO.refl _)
   | (with_reducible exact LeO.none _)
   | (with_reducible refine LeO.ite ?_ ?_)
   | (with_reducible refine LeO.bind ?_ (fun _ => ?_))
   | exact ih0 _ _ _ _ _
   | exact LeO.none _
   | refine LeO.ite ?_ ?_
   | refine LeO.bind ?_ (fun _ => ?_)
theorem impl_nodesOf.mono : ∀ a0 a1 k, LeO (impl_nodesOf.f k a0 a1) (impl_nodesOf.f (k + 1) a0 a1) := by
 intro a0 a1 k
 have ih0 := impl_nodesOf.mono_l k
 unfold impl_nodesOf.f
 repeat' first
   | (with_reducible exact ih0 _ _ _ _ _)
   | (with_reducible exact LeO.refl _)
   | (with_reducible exact LeO.none _)
   | (with_reducible refine LeO.ite ?_ ?_)
   | (with_reducible refine LeO.bind ?_ (fun _ => ?_))
   | exact ih0 _ _ _ _ _
   | exact LeO.none _
   | refine LeO.ite ?_ ?_
   | refine LeO.bind ?_ (fun _ => ?_)
set_option maxHeartbeats 8000000 in
set_option maxRecDepth 100000 in
theorem impl_nodesOf.calls (k : Nat) (A0 : Option Addr) (c0 : Nat) (l0 : List (S58)) (a1 : Int) (r : List Int) (w : World) (hr0 : Kd.C k58 w A0 l0.length l0) (hc0 : l0.length ≤ c0) (h : impl_nodesOf.f k l0 a1 = some r) :
  Calls Try.prog 58 #[.slice A0 l0.length c0, .int .i64 a1] w fun e w' => ∃ v0_ : Value, e = .returned (v0_) ∧ Kd.R (Kd.int .i64) 2 w' w.heap.size (fun _ => True) v0_ r ∧ Below w.heap.size w w' := by
 have hu58 := Try.underlying58
 have HR0 := Aside0.mk hr0
 have HC0 := Aside0.mk hc0
 clear hr0 hc0
 have HB := Aside0.mk (Below.refl w.heap.size w)
 have H : (impl_nodesOf.l0 k a1 (([] : List Int)) l0 (l0.length : Int) 0) = some r := h
 clear h
 obtain ⟨y419, hy_⟩ : ∃ y_ : List Int, y_ = (([] : List Int)) := ⟨_, rfl⟩
 replace H : (impl_nodesOf.l0 k a1 y419 l0 (l0.length : Int) 0) = some r := yb_
 have Ny419 := Aside0.mk hy_
 clear hy_
 have H' := Aside0.mk H
 clear H
 go_enter Try.func58, Try.ntmps58
 go_wp2_with (first | ((with_reducible refine gate_dst (N := 8) rfl ?_); refine Kd.R_lit (Kd.int .i64) _ 2 ?hg (N := 8) ?hd (xs := ([] : List Int)) (inner := []) (ok := fun _ => True) (okp := fun _ => True) ?hr ?hp (fun _ hk => hk) trivial (Below.refl _ _) (Nat.le_refl _) (by simp) ?_; (case hd => rfl); (case hg => rfl); (case hr => first | (go_simp; done) | (go_simp; rfl)); (case hp => exact (Reps.none _ _)); intro v420 w3 ho4 hb hg_ hnew_; clear hg_ hnew_; (first | rw [← Ny419.out] at ho4 | (simp only [Int.reduceToNat] at ho4; rw [← Ny419.out] at ho4)); have HO421 := Aside0.mk (Kd.R_lower ho4 (below_size cB0_)); replace HB := Aside0.mk (below_step cB0_ hb); clear hb ho4))
 go_loopg [5, 11] k (fun kq v5 v11 w' => ∃ (x5_1 : List Int) (x11_1 : Int), v11 = .int .i64 x11_1 ∧ Aside0 (impl_nodesOf.l0 kq a1 x5_1 l0 (l0.length : Int) x11_1 = some r) ∧ Aside0 (kq ≤ k) ∧ Aside0 (Kd.R (Kd.int .i64) 2 w' w.heap.size (fun _ => True) v5 x5_1) ∧ Aside0 (Below w.heap.size w w'))
 case atStart => exact ⟨(y419), (0), cs_, H', ⟨Nat.le_refl _⟩, ⟨cR_ HO421.out⟩, ⟨cB0_⟩⟩
 case round =>
  clear H'
  try clear p2
  obtain ⟨x5_1, x11_1, rfl, HA, HK1, HO_5, HB⟩ := hrel
  cases gk with
  | zero => exact absurd HA.out (by simp [impl_nodesOf.l0])
  | succ k1 =>
   have H := HA.out
   clear HA
   simp only [impl_nodesOf.l0] at H
   by_cases c5 : x11_1 < (l0.length : Int)
   rotate_left
   ·rw [if_neg c5] at H
    have c5b0 : decide (x11_1 < (l0.length : Int)) = false := decide_eq_false c5
    clear c5
    obtain rfl := Option.some.inj H
    go_wp2
    go_ret
    exact ⟨_, ce_, cR_ HO_5.out, cB0_⟩
   rw [if_pos c5] at H
   have c5b0 : decide (x11_1 < (l0.length : Int)) = true := decide_eq_true c5
   clear c5
   by_cases c6 : 0 ≤ x11_1
   rotate_left
   ·rw [if_neg c6] at H
    exact absurd H (by simp)
   rw [if_pos c6] at H
   have c6b0 : decide (0 ≤ x11_1) = true := decide_eq_true c6
   clear c6
   by_cases c7 : x11_1 < (l0.length : Int)
   rotate_left
   ·rw [if_neg c7] at H
    exact absurd H (by simp)
   rw [if_pos c7] at H
   have c7b0 : decide (x11_1 < (l0.length : Int)) = true := decide_eq_true c7
   clear c7
   by_cases c8 : ((rd_T58 l0 x11_1).f0) = a1
   ·rw [if_pos c8] at H
    have c8b0 : (((rd_T58 l0 x11_1).f0) == a1) = true := beq_iff_eq.mpr c8
    have c8b1 : (((rd_T58 l0 x11_1).f0) != a1) = false := bne_eq_false_iff_eq.mpr c8
    clear c8
    by_cases c9 : x5_1.length < 17592186044416
    rotate_left
    ·rw [if_neg c9] at H
     exact absurd H (by simp)
    rw [if_pos c9] at H
    have LMc9 := Aside0.mk c9
    clear c9
    obtain ⟨y424, hy_⟩ : ∃ y_ : List Int, y_ = (x5_1 ++ [x11_1]) := ⟨_, rfl⟩
    replace H : (impl_nodesOf.l0 k1 a1 y424 l0 (l0.length : Int) (wrap64 (x11_1 + 1))) = some r := yb_
    have Ny424 := Aside0.mk hy_
    clear hy_
    have H' := Aside0.mk H
    clear H
    have p422 : 0 ≤ (x11_1 : Int) := of_decide_eq_true ca_
    have q422 : x11_1 < (l0.length : Int) := of_decide_eq_true ca_
    obtain ⟨ad422, A422_6, c422_6, e422, hx422_0, hx422_1, hx422_2, hx422_3, hx422_4, hx422_5, hx422_6, hl422_6, hi422_6⟩ := at_T58 HR0.out x11_1 p422 q422
    cases e422
    replace hx422_0 := (HB.out.cell (World.block_lt_of_cell? w _ hx422_0)).trans hx422_0
    replace hx422_1 := (HB.out.cell (World.block_lt_of_cell? w _ hx422_1)).trans hx422_1
    replace hx422_2 := (HB.out.cell (World.block_lt_of_cell? w _ hx422_2)).trans hx422_2
    replace hx422_3 := (HB.out.cell (World.block_lt_of_cell? w _ hx422_3)).trans hx422_3
    replace hx422_4 := (HB.out.cell (World.block_lt_of_cell? w _ hx422_4)).trans hx422_4
    replace hx422_5 := (HB.out.cell (World.block_lt_of_cell? w _ hx422_5)).trans hx422_5
    replace hx422_6 := (HB.out.cell (World.block_lt_of_cell? w _ hx422_6)).trans hx422_6
    have HR422_6 := Aside0.mk hi422_6
    have HC422_6 := Aside0.mk hl422_6
    clear hi422_6 hl422_6
    replace p422 := eq_true p422
    replace q422 := eq_true q422
    go_wp2_with (first | (refine bx_ 7 #[.int .i64 0, .int .i64 0, .int .i64 0, .int .i64 0, .int .i64 0, .int .i64 0, .slice none 0 0] 58 ?_; intro gb423 hg w10 hbox hb; replace HO_5 := Aside0.mk (Kd.R_below (cR_ HO_5.out) hb); have BK423 := Aside0.mk (hbox); have GW423 := Aside0.mk ((by rw [hg]; exact (below_size cB0_) : w.heap.size ≤ gb423)); have GE423 := Aside0.mk ((by rw [hg]; exact (below_size cB0_) : w.heap.size ≤ gb423)); replace HB := Aside0.mk (below_step cB0_ hb); clear hb hbox hg; obtain ⟨hcz11_0, hcz11_1, hcz11_2, hcz11_3, hcz11_4, hcz11_5, hcz11_6, hfz11_0, hfz11_1, hfz11_2, hfz11_3, hfz11_4, hfz11_5, hfz11_6⟩ := cells7 BK423.out) | ((with_reducible refine gate_builtin (b := .append) (xs := #[.tmp 20, .tmp 22]) rfl ?_); at_builtin; refine Kd.R_append (Kd.int .i64) (w0 := w) w.heap.size rfl (.tmp 20) (.tmp 22) 40 2 (.int .i64 0) 8 rfl Try.underlying40 info2 rfl (by decide) (by omega) u5 x5_1 x11_1 [.int .i64 x11_1] (fun _ => True) (fun _ => False) rfl (by first | (go_simp; done) | (go_simp; rfl)) ?aP (fun _ hk => hk.elim) ?aF ?aO ?aB ?aS ?aL ?_; (case aP => exact rfl); (case aB => exact (by exact cB1_ GE423.out)); (case aF => exact (fun _ _ => trivial)); (case aO => exact (by exact (by refine cR_ ?_; exact Kd.R_mono (Kd.R_far (p := ⟨gb423, 6, none⟩) (Kd.R_far (p := ⟨gb423, 5, none⟩) (Kd.R_far (p := ⟨gb423, 4, none⟩) (Kd.R_far (p := ⟨gb423, 3, none⟩) (Kd.R_far (p := ⟨gb423, 2, none⟩) (Kd.R_far (p := ⟨gb423, 1, none⟩) (Kd.R_far (p := ⟨gb423, 0, none⟩) (Kd.R_types HO_5.out BK423.out (by decide)) (fun _ hk => hk.2) (.int .i64 ((rd_T58 l0 x11_1).f0))) (fun _ hk => hk.2) (.int .i64 ((rd_T58 l0 x11_1).f1))) (fun _ hk => hk.2) (.int .i64 ((rd_T58 l0 x11_1).f2))) (fun _ hk => hk.2) (.int .i64 ((rd_T58 l0 x11_1).f3))) (fun _ hk => hk.2) (.int .i64 ((rd_T58 l0 x11_1).f4))) (fun _ hk => hk.2) (.int .i64 ((rd_T58 l0 x11_1).f5))) (fun _ hk => hk.2) (.slice A422_6 ((rd_T58 l0 x11_1).f6).length c422_6)) (fun _ hk => trivial)))); (case aS => exact (by exact (below_size (cB1_ GE423.out)))); (case aL => exact co_ LMc9.out); intro v425 w12 ho hb hg hat; rw [← Ny424.out] at ho; replace BK423 := Aside0.mk (blk_grown (g := gb423) (o := .cells #[.int .i64 ((rd_T58 l0 x11_1).f0), .int .i64 ((rd_T58 l0 x11_1).f1), .int .i64 ((rd_T58 l0 x11_1).f2), .int .i64 ((rd_T58 l0 x11_1).f3), .int .i64 ((rd_T58 l0 x11_1).f4), .int .i64 ((rd_T58 l0 x11_1).f5), .slice A422_6 ((rd_T58 l0 x11_1).f6).length c422_6] 58 (0, 0)) (by refine cO_ ?_; refine blk_put (cs := #[.int .i64 ((rd_T58 l0 x11_1).f0), .int .i64 ((rd_T58 l0 x11_1).f1), .int .i64 ((rd_T58 l0 x11_1).f2), .int .i64 ((rd_T58 l0 x11_1).f3), .int .i64 ((rd_T58 l0 x11_1).f4), .int .i64 ((rd_T58 l0 x11_1).f5), .slice none 0 0]) ?_ 6 _ rfl; refine cO_ ?_; refine blk_put (cs := #[.int .i64 ((rd_T58 l0 x11_1).f0), .int .i64 ((rd_T58 l0 x11_1).f1), .int .i64 ((rd_T58 l0 x11_1).f2), .int .i64 ((rd_T58 l0 x11_1).f3), .int .i64 ((rd_T58 l0 x11_1).f4), .int .i64 0, .slice none 0 0]) ?_ 5 _ rfl; refine cO_ ?_; refine blk_put (cs := #[.int .i64 ((rd_T58 l0 x11_1).f0), .int .i64 ((rd_T58 l0 x11_1).f1), .int .i64 ((rd_T58 l0 x11_1).f2), .int .i64 ((rd_T58 l0 x11_1).f3), .int .i64 0, .int .i64 0, .slice none 0 0]) ?_ 4 _ rfl; refine cO_ ?_; refine blk_put (cs := #[.int .i64 ((rd_T58 l0 x11_1).f0), .int .i64 ((rd_T58 l0 x11_1).f1), .int .i64 ((rd_T58 l0 x11_1).f2), .int .i64 0, .int .i64 0, .int .i64 0, .slice none 0 0]) ?_ 3 _ rfl; refine cO_ ?_; refine blk_put (cs := #[.int .i64 ((rd_T58 l0 x11_1).f0), .int .i64 ((rd_T58 l0 x11_1).f1), .int .i64 0, .int .i64 0, .int .i64 0, .int .i64 0, .slice none 0 0]) ?_ 2 _ rfl; refine cO_ ?_; refine blk_put (cs := #[.int .i64 ((rd_T58 l0 x11_1).f0), .int .i64 0, .int .i64 0, .int .i64 0, .int .i64 0, .int .i64 0, .slice none 0 0]) ?_ 1 _ rfl; refine cO_ ?_; refine blk_put (cs := #[.int .i64 0, .int .i64 0, .int .i64 0, .int .i64 0, .int .i64 0, .int .i64 0, .slice none 0 0]) ?_ 0 _ rfl; refine cO_ ?_; exact BK423.out) hg (Kd.R_ne HO_5.out BK423.out (by decide))); replace HB := Aside0.mk (hb); have HO426 := Aside0.mk (ho); clear HO_5; clear ho hb hg hat))
    go_roundg k1
    case measure => have := HK1.out; omega
    case rel => exact ⟨(y424), (wrap64 (x11_1 + 1)), cs_, H', ⟨co_ HK1.out⟩, ⟨cR_ HO426.out⟩, ⟨cB1_ GE423.out⟩⟩
   rw [if_neg c8] at H
   have c8b0 : (((rd_T58 l0 x11_1).f0) == a1) = false := beq_eq_false_iff_ne.mpr c8
   have c8b1 : (((rd_T58 l0 x11_1).f0) != a1) = true := bne_iff_ne.mpr c8
   have H' := Aside0.mk H
   clear H
   have p422 : 0 ≤ (x11_1 : Int) := of_decide_eq_true ca_
   have q422 : x11_1 < (l0.length : Int) := of_decide_eq_true ca_
   obtain ⟨ad422, A422_6, c422_6, e422, hx422_0, hx422_1, hx422_2, hx422_3, hx422_4, hx422_5, hx422_6, hl422_6, hi422_6⟩ := at_T58 HR0.out x11_1 p422 q422
   cases e422
   replace hx422_0 := (HB.out.cell (World.block_lt_of_cell? w _ hx422_0)).trans hx422_0
   replace hx422_1 := (HB.out.cell (World.block_lt_of_cell? w _ hx422_1)).trans hx422_1
   replace hx422_2 := (HB.out.cell (World.block_lt_of_cell? w _ hx422_2)).trans hx422_2
   replace hx422_3 := (HB.out.cell (World.block_lt_of_cell? w _ hx422_3)).trans hx422_3
   replace hx422_4 := (HB.out.cell (World.block_lt_of_cell? w _ hx422_4)).trans hx422_4
   replace hx422_5 := (HB.out.cell (World.block_lt_of_cell? w _ hx422_5)).trans hx422_5
   replace hx422_6 := (HB.out.cell (World.block_lt_of_cell? w _ hx422_6)).trans hx422_6
   have HR422_6 := Aside0.mk hi422_6
   have HC422_6 := Aside0.mk hl422_6
   clear hi422_6 hl422_6
   replace p422 := eq_true p422
   replace q422 := eq_true q422
   go_wp2_with (first | (refine bx_ 7 #[.int .i64 0, .int .i64 0, .int .i64 0, .int .i64 0, .int .i64 0, .int .i64 0, .slice none 0 0] 58 ?_; intro gb423 hg w13 hbox hb; replace HO_5 := Aside0.mk (Kd.R_below (cR_ HO_5.out) hb); have BK423 := Aside0.mk (hbox); have GW423 := Aside0.mk ((by rw [hg]; exact (below_size cB0_) : w.heap.size ≤ gb423)); have GE423 := Aside0.mk ((by rw [hg]; exact (below_size cB0_) : w.heap.size ≤ gb423)); replace HB := Aside0.mk (below_step cB0_ hb); clear hb hbox hg; obtain ⟨hcz14_0, hcz14_1, hcz14_2, hcz14_3, hcz14_4, hcz14_5, hcz14_6, hfz14_0, hfz14_1, hfz14_2, hfz14_3, hfz14_4, hfz14_5, hfz14_6⟩ := cells7 BK423.out))
   go_roundg k1
   case measure => have := HK1.out; omega
   case rel => exact ⟨(x5_1), (wrap64 (x11_1 + 1)), cs_, H', ⟨co_ HK1.out⟩, ⟨by refine cR_ ?_; exact Kd.R_mono (Kd.R_far (p := ⟨gb423, 6, none⟩) (Kd.R_far (p := ⟨gb423, 5, none⟩) (Kd.R_far (p := ⟨gb423, 4, none⟩) (Kd.R_far (p := ⟨gb423, 3, none⟩) (Kd.R_far (p := ⟨gb423, 2, none⟩) (Kd.R_far (p := ⟨gb423, 1, none⟩) (Kd.R_far (p := ⟨gb423, 0, none⟩) (Kd.R_types HO_5.out BK423.out (by decide)) (fun _ hk => hk.2) (.int .i64 ((rd_T58 l0 x11_1).f0))) (fun _ hk => hk.2) (.int .i64 ((rd_T58 l0 x11_1).f1))) (fun _ hk => hk.2) (.int .i64 ((rd_T58 l0 x11_1).f2))) (fun _ hk => hk.2) (.int .i64 ((rd_T58 l0 x11_1).f3))) (fun _ hk => hk.2) (.int .i64 ((rd_T58 l0 x11_1).f4))) (fun _ hk => hk.2) (.int .i64 ((rd_T58 l0 x11_1).f5))) (fun _ hk => hk.2) (.slice A422_6 ((rd_T58 l0 x11_1).f6).length c422_6)) (fun _ hk => trivial)⟩, ⟨cB1_ GE423.out⟩⟩

/-! ### impl_NodesOf: function 26 -/
def impl_NodesOf.f (k : Nat) (l0 : List (S58)) (a1 : Int) : Option (Int × List Int) := (impl_PlanFault.f k l0).bind fun t428 => (if t428 = 0 then ((impl_in.f a1 1 12).bind fun t429 => (if t429 = true then ((impl_nodesOf.f k l0 a1).bind fun t430 => (some (0, t430))) else (some (5, ([] : List Int))))) else (some (t428, ([] : List Int))))
theorem impl_NodesOf.mono : ∀ a0 a1 k, LeO (impl_NodesOf.f k a0 a1) (impl_NodesOf.f (k + 1) a0 a1) := by
 intro a0 a1 k
 unfold impl_NodesOf.f
 repeat' first
   | (with_reducible exact impl_PlanFault.mono _ _)
   | (with_reducible exact impl_nodesOf.mono _ _ _)
   | (with_reducible exact LeO.refl _)
   | (with_reducible exact LeO.none _)
   | (with_reducible refine LeO.ite ?_ ?_)
   | (with_reducible refine LeO.bind ?_ (fun _ => ?_))
   | exact impl_PlanFault.mono _ _
   | exact impl_nodesOf.mono _ _ _
   | exact LeO.none _
   | refine LeO.ite ?_ ?_
   | refine LeO.bind ?_ (fun _ => ?_)
set_option maxHeartbeats 8000000 in
set_option maxRecDepth 100000 in
theorem impl_NodesOf.calls (k : Nat) (A0 : Option Addr) (c0 : Nat) (l0 : List (S58)) (a1 : Int) (r1 : Int) (r2 : List Int) (w : World) (hr0 : Kd.C k58 w A0 l0.length l0) (hc0 : l0.length ≤ c0) (h : impl_NodesOf.f k l0 a1 = some (r1, r2)) :
  Calls Try.prog 26 #[.slice A0 l0.length c0, .int .i64 a1] w fun e w' => ∃ v1_ : Value, e = .returned (.agg #[.int .i64 r1, v1_]) ∧ Kd.R (Kd.int .i64) 2 w' w.heap.size (fun _ => True) v1_ r2 ∧ Below w.heap.size w w' := by
 have hu42 := Try.underlying42
 have HR0 := Aside0.mk hr0
 have HC0 := Aside0.mk hc0
 clear hr0 hc0
 have HB := Aside0.mk (Below.refl w.heap.size w)
 have H : ((impl_PlanFault.f k l0).bind fun t428 => (if t428 = 0 then ((impl_in.f a1 1 12).bind fun t429 => (if t429 = true then ((impl_nodesOf.f k l0 a1).bind fun t430 => (some (0, t430))) else (some (5, ([] : List Int))))) else (some (t428, ([] : List Int))))) = some (r1, r2) := h
 clear h
 obtain ⟨t428, A3, H⟩ := bnd_ H
 try dsimp only at H
 by_cases c4 : t428 = 0
 rotate_left
 ·rw [if_neg c4] at H
  have c4b0 : (t428 == 0) = false := beq_eq_false_iff_ne.mpr c4
  have c4b1 : (t428 != 0) = true := bne_iff_ne.mpr c4
  simp only [Option.some.injEq, Prod.mk.injEq] at H
  obtain ⟨rfl, rfl⟩ := H
  go_enter Try.func26, Try.ntmps26
  go_wp2_with (first | (refine bx_ 4 #[.int .i64 0, .slice none 0 0] 42 ?_; intro gb427 hg w16 hbox hb; have BK427 := Aside0.mk (hbox); have GW427 := Aside0.mk ((by rw [hg]; exact (below_size cB0_) : w.heap.size ≤ gb427)); have GE427 := Aside0.mk ((by rw [hg]; exact (below_size cB0_) : w.heap.size ≤ gb427)); replace HB := Aside0.mk (below_step cB0_ hb); clear hb hbox hg) | (refine gl_ 14 (some 7) Try.func14 #[.slice A0 l0.length c0] ?_; (with_reducible refine (impl_PlanFault.calls k _ _ l0 t428 _ ?side1 ?side2 A3.out).mono ?_); (case side1 => exact b13_3); (case side2 => exact HC0.out); rintro e w17 ⟨rfl, hb⟩; refine ⟨_, rfl, ?_⟩; replace BK427 := Aside0.mk (blk_below (g := gb427) (o := .cells #[.int .i64 0, .slice none 0 0] 42 (0, 0)) (cO_ BK427.out) hb); replace HB := Aside0.mk (below_step b13_5 hb); (try clear hb); (try clear hb2); (try clear hk); (try clear hi); obtain ⟨hcz18_0, hcz18_1, hfz18_0, hfz18_1⟩ := cells2 BK427.out))
  refine bodyPost_ret (results_cell_row rfl _ _ gb427 42 #[.int .i64 t428, .slice none 0 0] (0, 0) _ rfl (by refine cO_ ?_; refine blk_put (cs := #[.int .i64 t428, .slice none 0 0]) ?_ 1 _ rfl; refine cO_ ?_; refine blk_put (cs := #[.int .i64 0, .slice none 0 0]) ?_ 0 _ rfl; refine cO_ ?_; exact BK427.out) Try.underlying42 rfl (by kernel_rfl)) rfl ?_
  exact ⟨_, ce_, q13_0, cB1_ GE427.out⟩
 rw [if_pos c4] at H
 have c4b0 : (t428 == 0) = true := beq_iff_eq.mpr c4
 have c4b1 : (t428 != 0) = false := bne_eq_false_iff_eq.mpr c4
 clear c4
 obtain ⟨t429, A5, H⟩ := bnd_ H
 try dsimp only at H
 by_cases c6 : t429 = true
 ·subst c6
  rw [if_pos rfl] at H
  obtain ⟨t430, A7, H⟩ := bnd_ H
  try dsimp only at H
  simp only [Option.some.injEq, Prod.mk.injEq] at H
  obtain ⟨rfl, rfl⟩ := H
  go_enter Try.func26, Try.ntmps26
  go_wp2_with (first | (refine bx_ 4 #[.int .i64 0, .slice none 0 0] 42 ?_; intro gb427 hg w8 hbox hb; have BK427 := Aside0.mk (hbox); have GW427 := Aside0.mk ((by rw [hg]; exact (below_size cB0_) : w.heap.size ≤ gb427)); have GE427 := Aside0.mk ((by rw [hg]; exact (below_size cB0_) : w.heap.size ≤ gb427)); replace HB := Aside0.mk (below_step cB0_ hb); clear hb hbox hg) | (refine gl_ 14 (some 7) Try.func14 #[.slice A0 l0.length c0] ?_; (with_reducible refine (impl_PlanFault.calls k _ _ l0 t428 _ ?side1 ?side2 A3.out).mono ?_); (case side1 => exact b13_3); (case side2 => exact HC0.out); rintro e w9 ⟨rfl, hb⟩; refine ⟨_, rfl, ?_⟩; replace BK427 := Aside0.mk (blk_below (g := gb427) (o := .cells #[.int .i64 0, .slice none 0 0] 42 (0, 0)) (cO_ BK427.out) hb); replace HB := Aside0.mk (below_step b13_5 hb); (try clear hb); (try clear hb2); (try clear hk); (try clear hi)) | (refine gl_ 47 (some 13) Try.func47 #[.int .i64 a1, .int .i64 1, .int .i64 12] ?_; (with_reducible refine (impl_in.calls a1 1 12 true _ A5.out).mono ?_); rintro e w' ⟨rfl, ⟨nd, rfl⟩⟩; refine ⟨_, rfl, ?_⟩; (try simp only [World.drewN_drewN]); (try (rw [drewN_self w9]; generalize hq_ : World.drewN w9 _ = w9; have n0_ : Aside0 (w9.heap[gb427]? = some (.cells #[.int .i64 0, .slice none 0 0] 42 (0, 0))) := ⟨by rw [← hq_]; exact (cO_ BK427.out)⟩; have n1_ : Aside0 (Below w.heap.size w w9) := ⟨by rw [← hq_]; exact b13_5⟩; clear BK427 HB hq_; have BK427 := n0_; have HB := n1_; clear n0_ n1_))) | (refine gl_ 58 (some 18) Try.func58 #[.slice A0 l0.length c0, .int .i64 a1] ?_; (with_reducible refine (impl_nodesOf.calls k _ _ l0 a1 t430 _ ?side1 ?side2 A7.out).mono ?_); (case side1 => exact b13_3); (case side2 => exact HC0.out); rintro e w10 ⟨v431, rfl, ho0, hb⟩; refine ⟨_, rfl, ?_⟩; have HO432 := Aside0.mk (Kd.R_lower ho0 (below_size b13_5)); replace BK427 := Aside0.mk (blk_below (g := gb427) (o := .cells #[.int .i64 0, .slice none 0 0] 42 (0, 0)) (cO_ BK427.out) hb); replace HB := Aside0.mk (below_step b13_5 hb); (try clear hb); (try clear hb2); (try clear hk); (try clear hi); (try clear ho0); obtain ⟨Ao11, co11, eo11⟩ := Kd.R_slice HO432.out; subst eo11; obtain ⟨hcz12_0, hcz12_1, hfz12_0, hfz12_1⟩ := cells2 BK427.out))
  refine bodyPost_ret (results_cell_row rfl _ _ gb427 42 #[.int .i64 0, .slice Ao11 t430.length co11] (0, 0) _ rfl (by refine cO_ ?_; refine blk_put (cs := #[.int .i64 0, .slice none 0 0]) ?_ 1 _ rfl; refine cO_ ?_; refine blk_put (cs := #[.int .i64 0, .slice none 0 0]) ?_ 0 _ rfl; refine cO_ ?_; exact BK427.out) Try.underlying42 rfl (by kernel_rfl)) rfl ?_
  exact ⟨_, ce_, by refine cR_ ?_; exact Kd.R_mono (Kd.R_far (p := ⟨gb427, 1, none⟩) (Kd.R_far (p := ⟨gb427, 0, none⟩) (Kd.R_types HO432.out BK427.out (by decide)) (fun _ hk => hk.2) (.int .i64 0)) (fun _ hk => hk.2) (.slice Ao11 t430.length co11)) (fun _ hk => trivial), cB1_ GE427.out⟩
 replace c6 := Bool.eq_false_iff.mpr c6
 subst c6
 rw [if_neg (show ¬ (false = true) by decide)] at H
 simp only [Option.some.injEq, Prod.mk.injEq] at H
 obtain ⟨rfl, rfl⟩ := H
 go_enter Try.func26, Try.ntmps26
 go_wp2_with (first | (refine bx_ 4 #[.int .i64 0, .slice none 0 0] 42 ?_; intro gb427 hg w13 hbox hb; have BK427 := Aside0.mk (hbox); have GW427 := Aside0.mk ((by rw [hg]; exact (below_size cB0_) : w.heap.size ≤ gb427)); have GE427 := Aside0.mk ((by rw [hg]; exact (below_size cB0_) : w.heap.size ≤ gb427)); replace HB := Aside0.mk (below_step cB0_ hb); clear hb hbox hg) | (refine gl_ 14 (some 7) Try.func14 #[.slice A0 l0.length c0] ?_; (with_reducible refine (impl_PlanFault.calls k _ _ l0 t428 _ ?side1 ?side2 A3.out).mono ?_); (case side1 => exact b13_3); (case side2 => exact HC0.out); rintro e w14 ⟨rfl, hb⟩; refine ⟨_, rfl, ?_⟩; replace BK427 := Aside0.mk (blk_below (g := gb427) (o := .cells #[.int .i64 0, .slice none 0 0] 42 (0, 0)) (cO_ BK427.out) hb); replace HB := Aside0.mk (below_step b13_5 hb); (try clear hb); (try clear hb2); (try clear hk); (try clear hi)) | (refine gl_ 47 (some 13) Try.func47 #[.int .i64 a1, .int .i64 1, .int .i64 12] ?_; (with_reducible refine (impl_in.calls a1 1 12 false _ A5.out).mono ?_); rintro e w' ⟨rfl, ⟨nd, rfl⟩⟩; refine ⟨_, rfl, ?_⟩; (try simp only [World.drewN_drewN]); (try (rw [drewN_self w14]; generalize hq_ : World.drewN w14 _ = w14; have n0_ : Aside0 (w14.heap[gb427]? = some (.cells #[.int .i64 0, .slice none 0 0] 42 (0, 0))) := ⟨by rw [← hq_]; exact (cO_ BK427.out)⟩; have n1_ : Aside0 (Below w.heap.size w w14) := ⟨by rw [← hq_]; exact b13_5⟩; clear BK427 HB hq_; have BK427 := n0_; have HB := n1_; clear n0_ n1_)); obtain ⟨hcz15_0, hcz15_1, hfz15_0, hfz15_1⟩ := cells2 BK427.out))
 refine bodyPost_ret (results_cell_row rfl _ _ gb427 42 #[.int .i64 5, .slice none 0 0] (0, 0) _ rfl (by refine cO_ ?_; refine blk_put (cs := #[.int .i64 5, .slice none 0 0]) ?_ 1 _ rfl; refine cO_ ?_; refine blk_put (cs := #[.int .i64 0, .slice none 0 0]) ?_ 0 _ rfl; refine cO_ ?_; exact BK427.out) Try.underlying42 rfl (by kernel_rfl)) rfl ?_
 exact ⟨_, ce_, q13_0, cB1_ GE427.out⟩

/-! ### spec_l3Of: function 60 -/
def spec_l3Of.l0 : Nat → List (S58) → Int → List Int → Int → Option (List Int)
 | 0, _, _, _, _ => none
 | k + 1, x0, x1, x5, x6 => if x6 < (x0.length : Int) then (if 0 ≤ x6 then (if ((rd_T58 x0 x6).f0) = x1 then (if x5.length < 17592186044416 then (spec_l3Of.l0 k x0 x1 (x5 ++ [x6]) (wrap64 (x6 + 1))) else (none)) else (spec_l3Of.l0 k x0 x1 x5 (wrap64 (x6 + 1)))) else (none)) else (some x5)
def spec_l3Of.f (k : Nat) (l0 : List (S58)) (a1 : Int) : Option (List Int) := spec_l3Of.l0 k l0 a1 (([] : List Int)) 0
theorem spec_l3Of.mono_l : ∀ k, (∀ y0 y1 y2 y3, LeO (spec_l3Of.l0 k y0 y1 y2 y3) (spec_l3Of.l0 (k + 1) y0 y1 y2 y3))
 | 0 => fun _ _ _ _ r h => by simp [spec_l3Of.l0] at h
 | k + 1 => by
  have ih0 := spec_l3Of.mono_l k
  ·intro y0 y1 y2 y3
   unfold spec_l3Of.l0
   repeat' first
   | (with_reducible exact ih0 _ _ _ _)
   | (with_reducible exact LeO.refl _)
   | (with_reducible exact LeO.none _)
   | (with_reducible refine LeO.ite ?_ ?_)
   | (with_reducible refine LeO.bind ?_ (fun _ => ?_))
   | exact ih0 _ _ _ _
   | exact LeO.none _
   | refine LeO.ite ?_ ?_
   | refine LeO.bind ?_ (fun _ => ?_)
theorem spec_l3Of.mono : ∀ a0 a1 k, LeO (spec_l3Of.f k a0 a1) (spec_l3Of.f (k + 1) a0 a1) := by
 intro a0 a1 k
 have ih0 := spec_l3Of.mono_l k
 unfold spec_l3Of.f
 repeat' first
   | (with_reducible exact ih0 _ _ _ _)
   | (with_reducible exact LeO.refl _)
   | (with_reducible exact LeO.none _)
   | (with_reducible refine LeO.ite ?_ ?_)
   | (with_reducible refine LeO.bind ?_ (fun _ => ?_))
   | exact ih0 _ _ _ _
   | exact LeO.none _
   | refine LeO.ite ?_ ?_
   | refine LeO.bind ?_ (fun _ => ?_)
set_option maxHeartbeats 8000000 in
set_option maxRecDepth 100000 in
theorem spec_l3Of.calls (k : Nat) (A0 : Option Addr) (c0 : Nat) (l0 : List (S58)) (a1 : Int) (r : List Int) (w : World) (hr0 : Kd.C k58 w A0 l0.length l0) (hc0 : l0.length ≤ c0) (h : spec_l3Of.f k l0 a1 = some r) :
  Calls Try.prog 60 #[.slice A0 l0.length c0, .int .i64 a1] w fun e w' => ∃ v0_ : Value, e = .returned (v0_) ∧ Kd.R (Kd.int .i64) 2 w' w.heap.size (fun _ => True) v0_ r ∧ Below w.heap.size w w' := by
 have HR0 := Aside0.mk hr0
 have HC0 := Aside0.mk hc0
 clear hr0 hc0
 have HB := Aside0.mk (Below.refl w.heap.size w)
 have H : (spec_l3Of.l0 k l0 a1 (([] : List Int)) 0) = some r := h
 clear h
 obtain ⟨y433, hy_⟩ : ∃ y_ : List Int, y_ = (([] : List Int)) := ⟨_, rfl⟩
 replace H : (spec_l3Of.l0 k l0 a1 y433 0) = some r := yb_
 have Ny433 := Aside0.mk hy_
 clear hy_
 have H' := Aside0.mk H
 clear H
 go_enter Try.func60, Try.ntmps60
 go_wp2_with (first | ((with_reducible refine gate_dst (N := 7) rfl ?_); refine Kd.R_lit (Kd.int .i64) _ 2 ?hg (N := 7) ?hd (xs := ([] : List Int)) (inner := []) (ok := fun _ => True) (okp := fun _ => True) ?hr ?hp (fun _ hk => hk) trivial (Below.refl _ _) (Nat.le_refl _) (by simp) ?_; (case hd => rfl); (case hg => rfl); (case hr => first | (go_simp; done) | (go_simp; rfl)); (case hp => exact (Reps.none _ _)); intro v434 w3 ho4 hb hg_ hnew_; clear hg_ hnew_; (first | rw [← Ny433.out] at ho4 | (simp only [Int.reduceToNat] at ho4; rw [← Ny433.out] at ho4)); have HO435 := Aside0.mk (Kd.R_lower ho4 (below_size cB0_)); replace HB := Aside0.mk (below_step cB0_ hb); clear hb ho4))
 go_loopg [5, 6] k (fun kq v5 v6 w' => ∃ (x5_1 : List Int) (x6_1 : Int), v6 = .int .i64 x6_1 ∧ Aside0 (spec_l3Of.l0 kq l0 a1 x5_1 x6_1 = some r) ∧ Aside0 (kq ≤ k) ∧ Aside0 (Kd.R (Kd.int .i64) 2 w' w.heap.size (fun _ => True) v5 x5_1) ∧ Aside0 (Below w.heap.size w w'))
 case atStart => exact ⟨(y433), (0), cs_, H', ⟨Nat.le_refl _⟩, ⟨cR_ HO435.out⟩, ⟨cB0_⟩⟩
 case round =>
  clear H'
  try clear p2
  obtain ⟨x5_1, x6_1, rfl, HA, HK1, HO_5, HB⟩ := hrel
  cases gk with
  | zero => exact absurd HA.out (by simp [spec_l3Of.l0])
  | succ k1 =>
   have H := HA.out
   clear HA
   simp only [spec_l3Of.l0] at H
   by_cases c5 : x6_1 < (l0.length : Int)
   rotate_left
   ·rw [if_neg c5] at H
    have c5b0 : decide (x6_1 < (l0.length : Int)) = false := decide_eq_false c5
    clear c5
    obtain rfl := Option.some.inj H
    go_wp2
    go_ret
    exact ⟨_, ce_, cR_ HO_5.out, cB0_⟩
   rw [if_pos c5] at H
   have c5b0 : decide (x6_1 < (l0.length : Int)) = true := decide_eq_true c5
   clear c5
   by_cases c6 : 0 ≤ x6_1
   rotate_left
   ·rw [if_neg c6] at H
    exact absurd H (by simp)
   rw [if_pos c6] at H
   have c6b0 : decide (0 ≤ x6_1) = true := decide_eq_true c6
   clear c6
   by_cases c7 : ((rd_T58 l0 x6_1).f0) = a1
   ·rw [if_pos c7] at H
    have c7b0 : (((rd_T58 l0 x6_1).f0) == a1) = true := beq_iff_eq.mpr c7
    have c7b1 : (((rd_T58 l0 x6_1).f0) != a1) = false := bne_eq_false_iff_eq.mpr c7
    clear c7
    by_cases c8 : x5_1.length < 17592186044416
    rotate_left
    ·rw [if_neg c8] at H
     exact absurd H (by simp)
    rw [if_pos c8] at H
    have LMc8 := Aside0.mk c8
    clear c8
    obtain ⟨y437, hy_⟩ : ∃ y_ : List Int, y_ = (x5_1 ++ [x6_1]) := ⟨_, rfl⟩
    replace H : (spec_l3Of.l0 k1 l0 a1 y437 (wrap64 (x6_1 + 1))) = some r := yb_
    have Ny437 := Aside0.mk hy_
    clear hy_
    have H' := Aside0.mk H
    clear H
    have p436 : 0 ≤ (x6_1 : Int) := of_decide_eq_true ca_
    have q436 : x6_1 < (l0.length : Int) := of_decide_eq_true ca_
    obtain ⟨ad436, A436_6, c436_6, e436, hx436_0, hx436_1, hx436_2, hx436_3, hx436_4, hx436_5, hx436_6, hl436_6, hi436_6⟩ := at_T58 HR0.out x6_1 p436 q436
    cases e436
    replace hx436_0 := (HB.out.cell (World.block_lt_of_cell? w _ hx436_0)).trans hx436_0
    replace hx436_1 := (HB.out.cell (World.block_lt_of_cell? w _ hx436_1)).trans hx436_1
    replace hx436_2 := (HB.out.cell (World.block_lt_of_cell? w _ hx436_2)).trans hx436_2
    replace hx436_3 := (HB.out.cell (World.block_lt_of_cell? w _ hx436_3)).trans hx436_3
    replace hx436_4 := (HB.out.cell (World.block_lt_of_cell? w _ hx436_4)).trans hx436_4
    replace hx436_5 := (HB.out.cell (World.block_lt_of_cell? w _ hx436_5)).trans hx436_5
    replace hx436_6 := (HB.out.cell (World.block_lt_of_cell? w _ hx436_6)).trans hx436_6
    have HR436_6 := Aside0.mk hi436_6
    have HC436_6 := Aside0.mk hl436_6
    clear hi436_6 hl436_6
    replace p436 := eq_true p436
    replace q436 := eq_true q436
    go_wp2_with (first | ((with_reducible refine gate_builtin (b := .append) (xs := #[.tmp 21, .tmp 23]) rfl ?_); at_builtin; refine Kd.R_append (Kd.int .i64) (w0 := w) w.heap.size rfl (.tmp 21) (.tmp 23) 40 2 (.int .i64 0) 8 rfl Try.underlying40 info2 rfl (by decide) (by omega) u5 x5_1 x6_1 [.int .i64 x6_1] (fun _ => True) (fun _ => False) rfl rfl ?aP (fun _ hk => hk.elim) ?aF ?aO ?aB ?aS ?aL ?_; (case aP => exact rfl); (case aB => exact cB0_); (case aF => exact (fun _ _ => trivial)); (case aO => exact (by exact cR_ HO_5.out)); (case aS => exact (by exact (below_size cB0_))); (case aL => exact co_ LMc8.out); intro v438 w9 ho hb hg hat; rw [← Ny437.out] at ho; replace HB := Aside0.mk (hb); have HO439 := Aside0.mk (ho); clear HO_5; clear ho hb hg hat))
    go_roundg k1
    case measure => have := HK1.out; omega
    case rel => exact ⟨(y437), (wrap64 (x6_1 + 1)), cs_, H', ⟨co_ HK1.out⟩, ⟨cR_ HO439.out⟩, ⟨cB0_⟩⟩
   rw [if_neg c7] at H
   have c7b0 : (((rd_T58 l0 x6_1).f0) == a1) = false := beq_eq_false_iff_ne.mpr c7
   have c7b1 : (((rd_T58 l0 x6_1).f0) != a1) = true := bne_iff_ne.mpr c7
   have H' := Aside0.mk H
   clear H
   have p436 : 0 ≤ (x6_1 : Int) := of_decide_eq_true ca_
   have q436 : x6_1 < (l0.length : Int) := of_decide_eq_true ca_
   obtain ⟨ad436, A436_6, c436_6, e436, hx436_0, hx436_1, hx436_2, hx436_3, hx436_4, hx436_5, hx436_6, hl436_6, hi436_6⟩ := at_T58 HR0.out x6_1 p436 q436
   cases e436
   replace hx436_0 := (HB.out.cell (World.block_lt_of_cell? w _ hx436_0)).trans hx436_0
   replace hx436_1 := (HB.out.cell (World.block_lt_of_cell? w _ hx436_1)).trans hx436_1
   replace hx436_2 := (HB.out.cell (World.block_lt_of_cell? w _ hx436_2)).trans hx436_2
   replace hx436_3 := (HB.out.cell (World.block_lt_of_cell? w _ hx436_3)).trans hx436_3
   replace hx436_4 := (HB.out.cell (World.block_lt_of_cell? w _ hx436_4)).trans hx436_4
   replace hx436_5 := (HB.out.cell (World.block_lt_of_cell? w _ hx436_5)).trans hx436_5
   replace hx436_6 := (HB.out.cell (World.block_lt_of_cell? w _ hx436_6)).trans hx436_6
   have HR436_6 := Aside0.mk hi436_6
   have HC436_6 := Aside0.mk hl436_6
   clear hi436_6 hl436_6
   replace p436 := eq_true p436
   replace q436 := eq_true q436
   go_wp2
   go_roundg k1
   case measure => have := HK1.out; omega
   case rel => exact ⟨(x5_1), (wrap64 (x6_1 + 1)), cs_, H', ⟨co_ HK1.out⟩, ⟨cR_ HO_5.out⟩, ⟨cB0_⟩⟩

end Go.Proofs.Yteibdjkfkcckkaa.PFnFeeds
