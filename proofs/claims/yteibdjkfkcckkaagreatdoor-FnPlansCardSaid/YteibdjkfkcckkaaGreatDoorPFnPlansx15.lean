-- Written by fprint, a program of this session, out of Lean's own print of the translation. Lean checks it.
import Derived.Test.YteibdjkfkcckkaaGreatDoorDense
import Derived.Test.YteibdjkfkcckkaaGreatDoorPFnPlansx0
import Derived.Test.YteibdjkfkcckkaaGreatDoorPFnPlansx13
import Derived.Test.YteibdjkfkcckkaaGreatDoorPFnPlansx14
namespace Go.Proofs.YteibdjkfkcckkaaGreatDoor.PFnPlans
open Go.RowKit Go.Proofs.YteibdjkfkcckkaaGreatDoorW.PrintWords Go.Proofs.YteibdjkfkcckkaaGreatDoorW.PrintLast Go.Proofs.YteibdjkfkcckkaaGreatDoorW.PrintMore
attribute [local go_sem] max2_int min2_int max_two min_two max_three min_three max_four min_four
set_option linter.unusedVariables false
set_option maxHeartbeats 8000000
set_option maxRecDepth 100000
set_option linter.unusedSimpArgs false

theorem q15_0 {p : Prop} (h : p := by first | rfl | (simp [errW_none, errW_some] <;> rfl) | (simp only [← hji3]; first | rfl | (simp [errW_none, errW_some] <;> rfl)) | (simp [*, errW_none, errW_some] <;> rfl)) : p := h
/-! ### impl_formatPlan: function 18 -/
def impl_formatPlan.l0 : Nat → ByteArray → List (S36) → Int → Int → Option (ByteArray)
 | 0, _, _, _, _ => none
 | k + 1, x3, x6, x7, x8 => if x8 < x7 then (if 0 ≤ x8 then (if x8 < (x6.length : Int) then ((impl_Node_wordsOf.f k ((rd_T36 x6 x8).f0) ((rd_T36 x6 x8).f1) ((rd_T36 x6 x8).f2) ((rd_T36 x6 x8).f3) ((rd_T36 x6 x8).f4) ((rd_T36 x6 x8).f5) ((rd_T36 x6 x8).f6)).bind fun t401 => ((strings_Join.f t401 (⟨#[32]⟩ : ByteArray)).bind fun t404 => (if t404.size + 1 ≤ 9223372036854775807 then (if x3.size + (t404 ++ (⟨#[10]⟩ : ByteArray)).size ≤ 9223372036854775807 then (impl_formatPlan.l0 k (x3 ++ (t404 ++ (⟨#[10]⟩ : ByteArray))) x6 x7 (wrap64 (x8 + 1))) else (none)) else (none)))) else (none)) else (none)) else (some x3)
def impl_formatPlan.f (k : Nat) (l0 : List (S36)) : Option (ByteArray) := impl_formatPlan.l0 k (⟨#[]⟩ : ByteArray) l0 (l0.length : Int) 0
theorem impl_formatPlan.mono_l : ∀ k, (∀ y0 y1 y2 y3, LeO (impl_formatPlan.l0 k y0 y1 y2 y3) (impl_formatPlan.l0 (k + 1) y0 y1 y2 y3))
 | 0 => fun _ _ _ _ r h => by simp [impl_formatPlan.l0] at h
 | k + 1 => by
  have ih0 := impl_formatPlan.mono_l k
  ·intro y0 y1 y2 y3
   unfold impl_formatPlan.l0
   repeat' first
   | (with_reducible exact ih0 _ _ _ _)
   | (with_reducible exact impl_Node_wordsOf.mono _ _ _ _ _ _ _ _)
   | (with_reducible exact LeO.refl _)
   | (with_reducible exact LeO.none _)
   | (with_reducible refine LeO.ite ?_ ?_)
   | (with_reducible refine LeO.bind ?_ (fun _ => ?_))
   | refine LeO.ite ?_ ?_
   | refine LeO.bind ?_ (fun _ => ?_)
theorem impl_formatPlan.mono : ∀ a0 k, LeO (impl_formatPlan.f k a0) (impl_formatPlan.f (k + 1) a0) := by
 intro a0 k
 have ih0 := impl_formatPlan.mono_l k
 unfold impl_formatPlan.f
 repeat' first
   | (with_reducible exact ih0 _ _ _ _)
   | (with_reducible exact impl_Node_wordsOf.mono _ _ _ _ _ _ _ _)
   | (with_reducible exact LeO.refl _)
   | (with_reducible exact LeO.none _)
   | (with_reducible refine LeO.ite ?_ ?_)
   | (with_reducible refine LeO.bind ?_ (fun _ => ?_))
   | refine LeO.ite ?_ ?_
   | refine LeO.bind ?_ (fun _ => ?_)
theorem impl_formatPlan.calls (k : Nat) (A0 : Option Addr) (c0 : Nat) (l0 : List (S36)) (r : ByteArray) (w : World) (hr0 : Kd.C k36 w A0 l0.length l0) (hc0 : l0.length ≤ c0) (htab_ : Tab.Tab w) (h : impl_formatPlan.f k l0 = some r) :
  Calls Tryz.prog 18 #[.slice A0 l0.length c0] w fun e w' => e = .returned (.string r) ∧ Below w.heap.size w w' := by
 have HTB_ := Aside0.mk htab_
 clear htab_
 have hu36 := Tryz.underlying36
 have HR0 := Aside0.mk hr0
 have HC0 := Aside0.mk hc0
 clear hr0 hc0
 have HB := Aside0.mk (Below.refl w.heap.size w)
 have H : (impl_formatPlan.l0 k (⟨#[]⟩ : ByteArray) l0 (l0.length : Int) 0) = some r := h
 clear h
 have H' := Aside0.mk H
 clear H
 go_enter Tryz.func18, Tryz.ntmps18
 go_wp2
 go_loopg [3, 8] k (fun kq v3 v8 w' => ∃ (x3_1 : ByteArray) (x8_1 : Int), v3 = .string x3_1 ∧ v8 = .int .i64 x8_1 ∧ Aside0 (impl_formatPlan.l0 kq x3_1 l0 (l0.length : Int) x8_1 = some r) ∧ Aside0 (kq ≤ k) ∧ Aside0 (Below w.heap.size w w'))
 case atStart => exact ⟨((⟨#[]⟩ : ByteArray)), (0), cs_, cs_, H', ⟨Nat.le_refl _⟩, ⟨cB0_⟩⟩
 case round =>
  clear H'
  obtain ⟨x3_1, x8_1, rfl, rfl, HA, HK1, HB⟩ := hrel
  cases gk with
  | zero => exact absurd HA.out (by simp [impl_formatPlan.l0])
  | succ k1 =>
   have H := HA.out
   clear HA
   simp only [impl_formatPlan.l0] at H
   by_cases c2 : x8_1 < (l0.length : Int)
   rotate_left
   ·rw [if_neg c2] at H
    have c2b0 := decide_eq_false c2
    clear c2
    obtain rfl := Option.some.inj H
    go_wp2
    go_ret
    exact ⟨ce_, cB0_⟩
   rw [if_pos c2] at H
   have c2b0 := decide_eq_true c2
   clear c2
   by_cases c3 : 0 ≤ x8_1
   rotate_left
   ·rw [if_neg c3] at H
    exact absurd H (by simp)
   rw [if_pos c3] at H
   have c3b0 := decide_eq_true c3
   clear c3
   by_cases c4 : x8_1 < (l0.length : Int)
   rotate_left
   ·rw [if_neg c4] at H
    exact absurd H (by simp)
   rw [if_pos c4] at H
   have c4b0 := decide_eq_true c4
   clear c4
   obtain ⟨t401, A5, H⟩ := bnd_ H
   try dsimp only at H
   obtain ⟨t404, A6, H⟩ := bnd_ H
   try dsimp only at H
   by_cases c7 : t404.size + 1 ≤ 9223372036854775807
   rotate_left
   ·rw [if_neg c7] at H
    exact absurd H (by simp)
   rw [if_pos c7] at H
   have c7b0 := eq_true c7
   have c7b1 : decide (t404.size + 1 ≤ 9223372036854775807) = true := decide_eq_true c7
   try have c7b2 : (9223372036854775807 < t404.size + 1) = False := eq_false (Nat.not_lt.2 c7)
   by_cases c8 : x3_1.size + (t404 ++ (⟨#[10]⟩ : ByteArray)).size ≤ 9223372036854775807
   rotate_left
   ·rw [if_neg c8] at H
    exact absurd H (by simp)
   rw [if_pos c8] at H
   have c8b0 := eq_true c8
   have c8b1 : decide (x3_1.size + (t404 ++ (⟨#[10]⟩ : ByteArray)).size ≤ 9223372036854775807) = true := decide_eq_true c8
   try have c8b2 : (9223372036854775807 < x3_1.size + (t404 ++ (⟨#[10]⟩ : ByteArray)).size) = False := eq_false (Nat.not_lt.2 c8)
   try have c8b3 : (9223372036854775807 < x3_1.size + (t404.size + 1)) = False := eq_false (by rw [← (show x3_1.size + (t404 ++ (⟨#[10]⟩ : ByteArray)).size = x3_1.size + (t404.size + 1) from by first | rfl | (simp only [ByteArray.size_append]; done) | (simp only [ByteArray.size_append]; rfl))]; exact Nat.not_lt.2 c8)
   have H' := Aside0.mk H
   clear H
   have p399 : 0 ≤ (x8_1 : Int) := cd_
   have q399 : x8_1 < (l0.length : Int) := cd_
   obtain ⟨ad399, A399_6, c399_6, e399, hx399_0, hx399_1, hx399_2, hx399_3, hx399_4, hx399_5, hx399_6, hl399_6, hi399_6⟩ := at_T36 HR0.out x8_1 p399 q399
   cases e399
   replace hx399_0 := pw_cell_below HB.out hx399_0
   replace hx399_1 := pw_cell_below HB.out hx399_1
   replace hx399_2 := pw_cell_below HB.out hx399_2
   replace hx399_3 := pw_cell_below HB.out hx399_3
   replace hx399_4 := pw_cell_below HB.out hx399_4
   replace hx399_5 := pw_cell_below HB.out hx399_5
   replace hx399_6 := pw_cell_below HB.out hx399_6
   have HR399_6 := Aside0.mk hi399_6
   have HC399_6 := Aside0.mk hl399_6
   clear hi399_6 hl399_6
   replace p399 := eq_true p399
   replace q399 := eq_true q399
   go_wp2_with (first | (refine bx_ 5 #[.int .i64 0, .int .i64 0, .int .i64 0, .int .i64 0, .int .i64 0, .int .i64 0, .slice none 0 0] 36 ?_; intro gb400 hg w9 hbox hb; have BK400 := Aside0.mk (hbox); have GW400 := Aside0.mk ((by rw [hg]; exact (below_size cB0_) : w.heap.size ≤ gb400)); have GE400 := Aside0.mk ((by rw [hg]; exact (below_size cB0_) : w.heap.size ≤ gb400)); replace HB := Aside0.mk (below_step cB0_ hb); clear hb hbox hg; obtain ⟨_, _, _, _, _, _, _, _, _, _, _, _, _, _⟩ := cells7 BK400.out) | (refine gl_ 34 (some 14) Tryz.func34 #[.agg #[.int .i64 ((rd_T36 l0 x8_1).f0), .int .i64 ((rd_T36 l0 x8_1).f1), .int .i64 ((rd_T36 l0 x8_1).f2), .int .i64 ((rd_T36 l0 x8_1).f3), .int .i64 ((rd_T36 l0 x8_1).f4), .int .i64 ((rd_T36 l0 x8_1).f5), .slice A399_6 ((rd_T36 l0 x8_1).f6).length c399_6]] ?_; (with_reducible refine (impl_Node_wordsOf.calls k1 ((rd_T36 l0 x8_1).f0) ((rd_T36 l0 x8_1).f1) ((rd_T36 l0 x8_1).f2) ((rd_T36 l0 x8_1).f3) ((rd_T36 l0 x8_1).f4) ((rd_T36 l0 x8_1).f5) _ _ ((rd_T36 l0 x8_1).f6) t401 _ ?side1 ?side2 (Tab.tabB HTB_.out (cB1_ GE400.out)) A5.out).mono ?_); (case side1 => exact (by exact Kd.C_below HR399_6.out (cB1_ GE400.out))); (case side2 => exact HC399_6.out); rintro e w11 ⟨v402, rfl, ho0, hb⟩; refine ⟨_, rfl, ?_⟩; have HO403 := Aside0.mk (Kd.R_lower ho0 (below_size (cB1_ GE400.out))); replace BK400 := Aside0.mk (blk_below (g := gb400) (o := .cells #[.int .i64 ((rd_T36 l0 x8_1).f0), .int .i64 ((rd_T36 l0 x8_1).f1), .int .i64 ((rd_T36 l0 x8_1).f2), .int .i64 ((rd_T36 l0 x8_1).f3), .int .i64 ((rd_T36 l0 x8_1).f4), .int .i64 ((rd_T36 l0 x8_1).f5), .slice A399_6 ((rd_T36 l0 x8_1).f6).length c399_6] 36 (0, 0)) (by refine cO_ ?_; refine blk_put (cs := #[.int .i64 ((rd_T36 l0 x8_1).f0), .int .i64 ((rd_T36 l0 x8_1).f1), .int .i64 ((rd_T36 l0 x8_1).f2), .int .i64 ((rd_T36 l0 x8_1).f3), .int .i64 ((rd_T36 l0 x8_1).f4), .int .i64 ((rd_T36 l0 x8_1).f5), .slice none 0 0]) ?_ 6 _ rfl; refine cO_ ?_; refine blk_put (cs := #[.int .i64 ((rd_T36 l0 x8_1).f0), .int .i64 ((rd_T36 l0 x8_1).f1), .int .i64 ((rd_T36 l0 x8_1).f2), .int .i64 ((rd_T36 l0 x8_1).f3), .int .i64 ((rd_T36 l0 x8_1).f4), .int .i64 0, .slice none 0 0]) ?_ 5 _ rfl; refine cO_ ?_; refine blk_put (cs := #[.int .i64 ((rd_T36 l0 x8_1).f0), .int .i64 ((rd_T36 l0 x8_1).f1), .int .i64 ((rd_T36 l0 x8_1).f2), .int .i64 ((rd_T36 l0 x8_1).f3), .int .i64 0, .int .i64 0, .slice none 0 0]) ?_ 4 _ rfl; refine cO_ ?_; refine blk_put (cs := #[.int .i64 ((rd_T36 l0 x8_1).f0), .int .i64 ((rd_T36 l0 x8_1).f1), .int .i64 ((rd_T36 l0 x8_1).f2), .int .i64 0, .int .i64 0, .int .i64 0, .slice none 0 0]) ?_ 3 _ rfl; refine cO_ ?_; refine blk_put (cs := #[.int .i64 ((rd_T36 l0 x8_1).f0), .int .i64 ((rd_T36 l0 x8_1).f1), .int .i64 0, .int .i64 0, .int .i64 0, .int .i64 0, .slice none 0 0]) ?_ 2 _ rfl; refine cO_ ?_; refine blk_put (cs := #[.int .i64 ((rd_T36 l0 x8_1).f0), .int .i64 0, .int .i64 0, .int .i64 0, .int .i64 0, .int .i64 0, .slice none 0 0]) ?_ 1 _ rfl; refine cO_ ?_; refine blk_put (cs := #[.int .i64 0, .int .i64 0, .int .i64 0, .int .i64 0, .int .i64 0, .int .i64 0, .slice none 0 0]) ?_ 0 _ rfl; refine cO_ ?_; exact BK400.out) hb); replace HB := Aside0.mk (below_step (cB1_ GE400.out) hb); (try clear hb); (try clear ho0); obtain ⟨Ao12, co12, eo12⟩ := Kd.R_slice HO403.out; subst eo12) | (refine gl_ 33 (some 15) Tryz.func33 #[.slice Ao12 t401.length co12, .string (⟨#[32]⟩ : ByteArray)] ?_; (with_reducible refine (strings_Join.calls _ _ t401 (⟨#[32]⟩ : ByteArray) t404 _ ?side0 ?side1 ?side2 A6.out).mono ?_); (case side0 => intro ad_ e_; subst e_; exact Kd.R_head HO403.out); (case side1 => exact cC_ ((Kd.R_reads' HO403.out).2.2)); (case side2 => exact (Kd.R_reads' HO403.out).2.1); rintro e w13 ⟨rfl, hb⟩; refine ⟨_, rfl, ?_⟩; replace HO403 := Aside0.mk (Kd.R_below (cR_ HO403.out) hb); replace BK400 := Aside0.mk (blk_below (g := gb400) (o := .cells #[.int .i64 ((rd_T36 l0 x8_1).f0), .int .i64 ((rd_T36 l0 x8_1).f1), .int .i64 ((rd_T36 l0 x8_1).f2), .int .i64 ((rd_T36 l0 x8_1).f3), .int .i64 ((rd_T36 l0 x8_1).f4), .int .i64 ((rd_T36 l0 x8_1).f5), .slice A399_6 ((rd_T36 l0 x8_1).f6).length c399_6] 36 (0, 0)) (cO_ BK400.out) hb); replace HB := Aside0.mk (below_step (cB1_ GE400.out) hb); (try clear hb)))
   go_roundg k1
   case measure => have := HK1.out; omega
   case rel => exact ⟨(x3_1 ++ (t404 ++ (⟨#[10]⟩ : ByteArray))), (wrap64 (x8_1 + 1)), cs_, cs_, H', ⟨co_ HK1.out⟩, ⟨cB1_ GE400.out⟩⟩

/-! ### impl_FormatPlan: function 7 -/
def impl_FormatPlan.f (k : Nat) (l0 : List (S36)) : Option (ByteArray) := (impl_PlanFault.f k l0).bind fun t405 => (if t405 = 0 then ((impl_formatPlan.f k l0).bind fun t406 => (some t406)) else (some (⟨#[]⟩ : ByteArray)))
theorem impl_FormatPlan.mono : ∀ a0 k, LeO (impl_FormatPlan.f k a0) (impl_FormatPlan.f (k + 1) a0) := by
 intro a0 k
 unfold impl_FormatPlan.f
 repeat' first
   | (with_reducible exact impl_PlanFault.mono _ _)
   | (with_reducible exact impl_formatPlan.mono _ _)
   | (with_reducible exact LeO.refl _)
   | (with_reducible exact LeO.none _)
   | (with_reducible refine LeO.ite ?_ ?_)
   | (with_reducible refine LeO.bind ?_ (fun _ => ?_))
   | refine LeO.ite ?_ ?_
   | refine LeO.bind ?_ (fun _ => ?_)
theorem impl_FormatPlan.calls (k : Nat) (A0 : Option Addr) (c0 : Nat) (l0 : List (S36)) (r : ByteArray) (w : World) (hr0 : Kd.C k36 w A0 l0.length l0) (hc0 : l0.length ≤ c0) (htab_ : Tab.Tab w) (h : impl_FormatPlan.f k l0 = some r) :
  Calls Tryz.prog 7 #[.slice A0 l0.length c0] w fun e w' => e = .returned (.string r) ∧ Below w.heap.size w w' := by
 have HTB_ := Aside0.mk htab_
 clear htab_
 have HR0 := Aside0.mk hr0
 have HC0 := Aside0.mk hc0
 clear hr0 hc0
 have HB := Aside0.mk (Below.refl w.heap.size w)
 have H : ((impl_PlanFault.f k l0).bind fun t405 => (if t405 = 0 then ((impl_formatPlan.f k l0).bind fun t406 => (some t406)) else (some (⟨#[]⟩ : ByteArray)))) = some r := h
 clear h
 obtain ⟨t405, A2, H⟩ := bnd_ H
 try dsimp only at H
 by_cases c3 : t405 = 0
 ·rw [if_pos c3] at H
  have c3b0 : (t405 == 0) = true := beq_iff_eq.mpr c3
  have c3b1 : (t405 != 0) = false := bne_eq_false_iff_eq.mpr c3
  clear c3
  obtain ⟨t406, A4, H⟩ := bnd_ H
  try dsimp only at H
  obtain rfl := Option.some.inj H
  go_enter Tryz.func7, Tryz.ntmps7
  go_wp2_with (first | (refine gl_ 9 (some 4) Tryz.func9 #[.slice A0 l0.length c0] ?_; (with_reducible refine (impl_PlanFault.calls k _ _ l0 t405 _ ?side1 ?side2 A2.out).mono ?_); (case side1 => exact cC_ HR0.out); (case side2 => exact HC0.out); rintro e w5 ⟨rfl, hb⟩; refine ⟨_, rfl, ?_⟩; replace HB := Aside0.mk (below_step cB0_ hb); (try clear hb)) | (refine gl_ 18 (some 7) Tryz.func18 #[.slice A0 l0.length c0] ?_; (with_reducible refine (impl_formatPlan.calls k _ _ l0 t406 _ ?side1 ?side2 (Tab.tabB HTB_.out cB0_) A4.out).mono ?_); (case side1 => exact cC_ (Kd.C_below HR0.out HB.out)); (case side2 => exact HC0.out); rintro e w6 ⟨rfl, hb⟩; refine ⟨_, rfl, ?_⟩; replace HB := Aside0.mk (below_step cB0_ hb); (try clear hb)))
  go_ret
  exact ⟨ce_, cB0_⟩
 rw [if_neg c3] at H
 have c3b0 : (t405 == 0) = false := beq_eq_false_iff_ne.mpr c3
 have c3b1 : (t405 != 0) = true := bne_iff_ne.mpr c3
 obtain rfl := Option.some.inj H
 go_enter Tryz.func7, Tryz.ntmps7
 go_wp2_with (first | (refine gl_ 9 (some 4) Tryz.func9 #[.slice A0 l0.length c0] ?_; (with_reducible refine (impl_PlanFault.calls k _ _ l0 t405 _ ?side1 ?side2 A2.out).mono ?_); (case side1 => exact cC_ HR0.out); (case side2 => exact HC0.out); rintro e w7 ⟨rfl, hb⟩; refine ⟨_, rfl, ?_⟩; replace HB := Aside0.mk (below_step cB0_ hb); (try clear hb)))
 go_ret
 exact ⟨ce_, cB0_⟩

/-! ### impl_linesOf: function 21 -/
def impl_linesOf.f (a0 : ByteArray) : Option (List ByteArray) := (strings_Split.f a0 (⟨#[10]⟩ : ByteArray)).bind fun t407 => (if 0 ≤ (wrap64 ((t407.length : Int) - 1)) then (if (wrap64 ((t407.length : Int) - 1)) < (t407.length : Int) then (if (rdOf ByteArray.empty t407 (wrap64 ((t407.length : Int) - 1))).toList = ([] : List UInt8) then (if (wrap64 ((t407.length : Int) - 1)) ≤ (t407.length : Int) then (some (t407.take ((wrap64 ((t407.length : Int) - 1)) : Int).toNat)) else (none)) else (some t407)) else (none)) else (none))
theorem impl_linesOf.calls (a0 : ByteArray) (r : List ByteArray) (w : World) (htab_ : Tab.Tab w) (h : impl_linesOf.f a0 = some r) :
  Calls Tryz.prog 21 #[.string a0] w fun e w' => ∃ v0_ : Value, e = .returned (v0_) ∧ Kd.R Kd.string 9 w' w.heap.size (fun _ => True) v0_ r ∧ Below w.heap.size w w' := by
 have HTB_ := Aside0.mk htab_
 clear htab_
 have HB := Aside0.mk (Below.refl w.heap.size w)
 have H : ((strings_Split.f a0 (⟨#[10]⟩ : ByteArray)).bind fun t407 => (if 0 ≤ (wrap64 ((t407.length : Int) - 1)) then (if (wrap64 ((t407.length : Int) - 1)) < (t407.length : Int) then (if (rdOf ByteArray.empty t407 (wrap64 ((t407.length : Int) - 1))).toList = ([] : List UInt8) then (if (wrap64 ((t407.length : Int) - 1)) ≤ (t407.length : Int) then (some (t407.take ((wrap64 ((t407.length : Int) - 1)) : Int).toNat)) else (none)) else (some t407)) else (none)) else (none))) = some r := h
 clear h
 obtain ⟨t407, A2, H⟩ := bnd_ H
 try dsimp only at H
 obtain ⟨ji3, hji3⟩ : ∃ j_ : Int, (wrap64 ((t407.length : Int) - 1)) = j_ := ⟨_, rfl⟩
 replace H : (if 0 ≤ (ji3) then (if (ji3) < (t407.length : Int) then (if (rdOf ByteArray.empty t407 (ji3)).toList = ([] : List UInt8) then (if (ji3) ≤ (t407.length : Int) then (some (t407.take ((ji3) : Int).toNat)) else (none)) else (some t407)) else (none)) else (none)) = some r := by first | (rw [hji3] at H; exact H) | (simp only [hji3] at H ⊢; exact H)
 (try rw [hji3] at A2)
 have hji3w : (IntKind.i64.wrap ((t407.length : Int) - 1)) = ji3 := (i64_w _).trans hji3
 by_cases c4 : 0 ≤ (ji3)
 rotate_left
 ·rw [if_neg c4] at H
  exact absurd H (by simp)
 rw [if_pos c4] at H
 have c4b0 := decide_eq_true c4
 clear c4
 by_cases c5 : (ji3) < (t407.length : Int)
 rotate_left
 ·rw [if_neg c5] at H
  exact absurd H (by simp)
 rw [if_pos c5] at H
 have c5b0 := decide_eq_true c5
 clear c5
 by_cases c6 : (rdOf ByteArray.empty t407 (ji3)).toList = ([] : List UInt8)
 ·rw [if_pos c6] at H
  have c6b0 : ((rdOf ByteArray.empty t407 (ji3)).toList == ([] : List UInt8)) = true := beq_iff_eq.mpr c6
  have c6b1 : ((rdOf ByteArray.empty t407 (ji3)).toList != ([] : List UInt8)) = false := bne_eq_false_iff_eq.mpr c6
  clear c6
  by_cases c7 : (ji3) ≤ (t407.length : Int)
  ·rw [if_pos c7] at H
   have c7b0 := eq_true c7
   have c7b1 : decide ((ji3) ≤ (t407.length : Int)) = true := decide_eq_true c7
   clear c7
   obtain ⟨y411, hy_⟩ : ∃ y_ : List ByteArray, y_ = (t407.take ((ji3) : Int).toNat) := ⟨_, rfl⟩
   replace H : (some y411) = some r := yb_
   have Ny411 := Aside0.mk hy_
   clear hy_
   obtain rfl := Option.some.inj H
   go_enter Tryz.func21, Tryz.ntmps21
   go_wp2_with (first | (refine gl_ 47 (some 6) Tryz.func47 #[.string a0, .string (⟨#[10]⟩ : ByteArray)] ?_; (with_reducible refine (strings_Split.calls a0 (⟨#[10]⟩ : ByteArray) t407 _ (Tab.tabB HTB_.out cB0_) A2.out).mono ?_); rintro e w8 ⟨v408, rfl, ho0, hb⟩; refine ⟨_, rfl, ?_⟩; have HO409 := Aside0.mk (Kd.R_lower ho0 (below_size cB0_)); replace HB := Aside0.mk (below_step cB0_ hb); (try clear hb); (try clear ho0); obtain ⟨Ao9, co9, eo9⟩ := Kd.R_slice HO409.out; subst eo9; have p410 : 0 ≤ ((ji3) : Int) := cd_; have q410 : (ji3) < (t407.length : Int) := cd_; obtain ⟨ad410, e410, hx410_0⟩ := Kd.at_string (Kd.R_reads' HO409.out).2.2 (ji3) p410 q410; cases e410; replace p410 := eq_true p410; replace q410 := eq_true q410; have q10 : ((ji3) : Int) ≤ ((t407.length : Int) : Int) := cd_; obtain ⟨i010, hi010, _, hsz10, _⟩ := info_parts info9; have hcut10 := cut_to (P := Tryz.prog) 46 9 .i64 Tryz.underlying46 hi010 (some ad410) t407.length co9 (ji3) (of_decide_eq_true ca_) q10 (Kd.R_reads' HO409.out).2.1; have hr10 := Kd.R_take (m := ((ji3) : Int).toNat) HO409.out (by omega); have hy10 : y411.length = ((ji3) : Int).toNat := (by rw [Ny411.out, List.length_take]; omega); rw [← Ny411.out] at hr10; rw [← hy10] at hr10 hcut10; clear hy10 hi010 hsz10 HO409; have HO413 := Aside0.mk hr10; clear hr10; replace q10 := eq_true q10))
   go_ret
   exact ⟨_, q15_0, cR_ HO413.out, cB0_⟩
  rw [if_neg c7] at H
  exact absurd H (by simp)
 rw [if_neg c6] at H
 have c6b0 : ((rdOf ByteArray.empty t407 (ji3)).toList == ([] : List UInt8)) = false := beq_eq_false_iff_ne.mpr c6
 have c6b1 : ((rdOf ByteArray.empty t407 (ji3)).toList != ([] : List UInt8)) = true := bne_iff_ne.mpr c6
 obtain rfl := Option.some.inj H
 go_enter Tryz.func21, Tryz.ntmps21
 go_wp2_with (first | (refine gl_ 47 (some 6) Tryz.func47 #[.string a0, .string (⟨#[10]⟩ : ByteArray)] ?_; (with_reducible refine (strings_Split.calls a0 (⟨#[10]⟩ : ByteArray) t407 _ (Tab.tabB HTB_.out cB0_) A2.out).mono ?_); rintro e w11 ⟨v408, rfl, ho0, hb⟩; refine ⟨_, rfl, ?_⟩; have HO409 := Aside0.mk (Kd.R_lower ho0 (below_size cB0_)); replace HB := Aside0.mk (below_step cB0_ hb); (try clear hb); (try clear ho0); obtain ⟨Ao12, co12, eo12⟩ := Kd.R_slice HO409.out; subst eo12; have p410 : 0 ≤ ((ji3) : Int) := cd_; have q410 : (ji3) < (t407.length : Int) := cd_; obtain ⟨ad410, e410, hx410_0⟩ := Kd.at_string (Kd.R_reads' HO409.out).2.2 (ji3) p410 q410; cases e410; replace p410 := eq_true p410; replace q410 := eq_true q410))
 go_ret
 exact ⟨_, q15_0, cR_ HO409.out, cB0_⟩

/-! ### impl_piecesOf_1: function 72 -/
def impl_piecesOf_1.f (a0 : ByteArray) : Option (Bool) := some (a0.toList == ([] : List UInt8))
theorem impl_piecesOf_1.calls (a0 : ByteArray) (r : Bool) (w : World) (h : impl_piecesOf_1.f a0 = some r) :
  Calls Tryz.prog 72 #[.string a0] w fun e w' => e = .returned (.bool r) ∧ Drawn0 w w' := by
 have H : (some (a0.toList == ([] : List UInt8))) = some r := h
 clear h
 obtain rfl := Option.some.inj H
 go_enter Tryz.func72, Tryz.ntmps72
 go_wp2
 go_ret
 exact ⟨cs_, cD_⟩

/-! ### slices_IndexFunc_impl_piecesOf_1: function 83 -/
def slices_IndexFunc_impl_piecesOf_1.l0 : Nat → List ByteArray → Int → Int → Option (Int)
 | 0, _, _, _ => none
 | k + 1, x0, x7, x8 => if x8 < x7 then (if 0 ≤ x8 then (if x8 < (x0.length : Int) then ((impl_piecesOf_1.f (rdOf ByteArray.empty x0 x8)).bind fun t415 => (if t415 = true then (some x8) else (slices_IndexFunc_impl_piecesOf_1.l0 k x0 x7 (wrap64 (x8 + 1))))) else (none)) else (none)) else (some (-1))
def slices_IndexFunc_impl_piecesOf_1.f (k : Nat) (l0 : List ByteArray) (a1 : Unit) : Option (Int) := slices_IndexFunc_impl_piecesOf_1.l0 k l0 (l0.length : Int) 0
theorem slices_IndexFunc_impl_piecesOf_1.mono_l : ∀ k, (∀ y0 y1 y2, LeO (slices_IndexFunc_impl_piecesOf_1.l0 k y0 y1 y2) (slices_IndexFunc_impl_piecesOf_1.l0 (k + 1) y0 y1 y2))
 | 0 => fun _ _ _ r h => by simp [slices_IndexFunc_impl_piecesOf_1.l0] at h
 | k + 1 => by
  have ih0 := slices_IndexFunc_impl_piecesOf_1.mono_l k
  ·intro y0 y1 y2
   unfold slices_IndexFunc_impl_piecesOf_1.l0
   repeat' first
   | (with_reducible exact ih0 _ _ _)
   | (with_reducible exact LeO.refl _)
   | (with_reducible exact LeO.none _)
   | (with_reducible refine LeO.ite ?_ ?_)
   | (with_reducible refine LeO.bind ?_ (fun _ => ?_))
   | refine LeO.ite ?_ ?_
   | refine LeO.bind ?_ (fun _ => ?_)
theorem slices_IndexFunc_impl_piecesOf_1.mono : ∀ a0 a1 k, LeO (slices_IndexFunc_impl_piecesOf_1.f k a0 a1) (slices_IndexFunc_impl_piecesOf_1.f (k + 1) a0 a1) := by
 intro a0 a1 k
 have ih0 := slices_IndexFunc_impl_piecesOf_1.mono_l k
 unfold slices_IndexFunc_impl_piecesOf_1.f
 repeat' first
   | (with_reducible exact ih0 _ _ _)
   | (with_reducible exact LeO.refl _)
   | (with_reducible exact LeO.none _)
   | (with_reducible refine LeO.ite ?_ ?_)
   | (with_reducible refine LeO.bind ?_ (fun _ => ?_))
   | refine LeO.ite ?_ ?_
   | refine LeO.bind ?_ (fun _ => ?_)
theorem slices_IndexFunc_impl_piecesOf_1.calls (k : Nat) (A0 : Option Addr) (c0 : Nat) (l0 : List ByteArray) (a1 : Unit) (r : Int) (w : World) (hr0 : Kd.C Kd.string w A0 l0.length l0) (hc0 : l0.length ≤ c0) (h : slices_IndexFunc_impl_piecesOf_1.f k l0 a1 = some r) :
  Calls Tryz.prog 83 #[.slice A0 l0.length c0, .func (.func 72) #[] #[]] w fun e w' => e = .returned (.int .i64 r) ∧ Drawn0 w w' := by
 have HR0 := Aside0.mk hr0
 have HC0 := Aside0.mk hc0
 clear hr0 hc0
 have H : (slices_IndexFunc_impl_piecesOf_1.l0 k l0 (l0.length : Int) 0) = some r := h
 clear h
 have H' := Aside0.mk H
 clear H
 go_enter Tryz.func83, Tryz.ntmps83
 go_wp2
 go_loopg [8] k (fun kq v8 w' => ∃ (x8_1 : Int), v8 = .int .i64 x8_1 ∧ Aside0 (slices_IndexFunc_impl_piecesOf_1.l0 kq l0 (l0.length : Int) x8_1 = some r) ∧ Aside0 (kq ≤ k) ∧ Drawn0 w w')
 case atStart => exact ⟨(0), cs_, H', ⟨Nat.le_refl _⟩, cD_⟩
 case round =>
  clear H'
  obtain ⟨x8_1, rfl, HA, HK1, ⟨m1, rfl⟩⟩ := hrel
  cases gk with
  | zero => exact absurd HA.out (by simp [slices_IndexFunc_impl_piecesOf_1.l0])
  | succ k1 =>
   have H := HA.out
   clear HA
   simp only [slices_IndexFunc_impl_piecesOf_1.l0] at H
   by_cases c3 : x8_1 < (l0.length : Int)
   rotate_left
   ·rw [if_neg c3] at H
    have c3b0 := decide_eq_false c3
    clear c3
    obtain rfl := Option.some.inj H
    go_wp2
    go_ret
    exact ⟨cs_, cD_⟩
   rw [if_pos c3] at H
   have c3b0 := decide_eq_true c3
   clear c3
   by_cases c4 : 0 ≤ x8_1
   rotate_left
   ·rw [if_neg c4] at H
    exact absurd H (by simp)
   rw [if_pos c4] at H
   have c4b0 := decide_eq_true c4
   clear c4
   by_cases c5 : x8_1 < (l0.length : Int)
   rotate_left
   ·rw [if_neg c5] at H
    exact absurd H (by simp)
   rw [if_pos c5] at H
   have c5b0 := decide_eq_true c5
   clear c5
   obtain ⟨t415, A6, H⟩ := bnd_ H
   try dsimp only at H
   by_cases c7 : t415 = true
   ·subst c7
    rw [if_pos rfl] at H
    obtain rfl := Option.some.inj H
    have p414 : 0 ≤ (x8_1 : Int) := cd_
    have q414 : x8_1 < (l0.length : Int) := cd_
    obtain ⟨ad414, e414, hx414_0⟩ := Kd.at_string HR0.out x8_1 p414 q414
    cases e414
    replace p414 := eq_true p414
    replace q414 := eq_true q414
    go_wp2_with (first | ((refine gate_fn_ (f := 72) (by with_reducible rfl) (by rfl) ?_); refine goesF_ (some 16) rfl rfl Tryz.func72 (by kernel_rfl) rfl #[.string (rdOf ByteArray.empty l0 x8_1)] rfl (by rfl) cx_ ?_; (with_reducible refine (impl_piecesOf_1.calls (rdOf ByteArray.empty l0 x8_1) true _ A6.out).mono ?_); rintro e w' ⟨rfl, ⟨nd, rfl⟩⟩; refine ⟨_, rfl, ?_⟩))
    go_ret
    exact ⟨cs_, cD_⟩
   replace c7 := Bool.eq_false_iff.mpr c7
   subst c7
   rw [if_neg (show ¬ (false = true) by decide)] at H
   have H' := Aside0.mk H
   clear H
   have p414 : 0 ≤ (x8_1 : Int) := cd_
   have q414 : x8_1 < (l0.length : Int) := cd_
   obtain ⟨ad414, e414, hx414_0⟩ := Kd.at_string HR0.out x8_1 p414 q414
   cases e414
   replace p414 := eq_true p414
   replace q414 := eq_true q414
   go_wp2_with (first | ((refine gate_fn_ (f := 72) (by with_reducible rfl) (by rfl) ?_); refine goesF_ (some 16) rfl rfl Tryz.func72 (by kernel_rfl) rfl #[.string (rdOf ByteArray.empty l0 x8_1)] rfl (by rfl) cx_ ?_; (with_reducible refine (impl_piecesOf_1.calls (rdOf ByteArray.empty l0 x8_1) false _ A6.out).mono ?_); rintro e w' ⟨rfl, ⟨nd, rfl⟩⟩; refine ⟨_, rfl, ?_⟩))
   go_roundg k1
   case measure => have := HK1.out; omega
   case rel => exact ⟨(wrap64 (x8_1 + 1)), cs_, H', ⟨co_ HK1.out⟩, cD_⟩

-- NOT PRINTED: function 9000001 (slices_DeleteFunc_impl_piecesOf_1)

/-! ### impl_piecesOf: function 48 -/
def impl_piecesOf.f (a0 : ByteArray) : Option (List ByteArray) := if a0.size < 4294967281 ∧ (Lib.splitB (⟨#[32]⟩ : ByteArray) 0 (Lib.countB a0 (⟨#[32]⟩ : ByteArray)) a0).length ≤ 4294967296 ∧ (Lib.splitB (⟨#[32]⟩ : ByteArray) 0 (Lib.countB a0 (⟨#[32]⟩ : ByteArray)) a0).all (fun x => !(x.toList == ([] : List UInt8))) = true then some (Lib.splitB (⟨#[32]⟩ : ByteArray) 0 (Lib.countB a0 (⟨#[32]⟩ : ByteArray)) a0) else none
theorem impl_piecesOf.whole {xs : List ByteArray} (hn : xs.length ≤ 4294967296) (h : xs.all (fun x => !(x.toList == ([] : List UInt8))) = true) : ∀ (d i : Nat), i + d = xs.length → ∃ k, slices_IndexFunc_impl_piecesOf_1.l0 k xs (xs.length : Int) (i : Int) = some (-1) := by
 intro d
 induction d with
 | zero =>
  intro i hi
  refine ⟨1, ?_⟩
  simp only [slices_IndexFunc_impl_piecesOf_1.l0]
  rw [if_neg (by omega)]
 | succ d ih =>
  intro i hi
  obtain ⟨k, hk⟩ := ih (i + 1) (by omega)
  have hi' : i < xs.length := by omega
  have e : ((rdOf ByteArray.empty xs (i : Int)).toList == ([] : List UInt8)) = false := by
   have hm := List.all_eq_true.mp h (xs[i]) (List.getElem_mem hi')
   unfold rdOf
   rw [Int.toNat_natCast, List.getD_eq_getElem?_getD, List.getElem?_eq_getElem hi']
   simpa using hm
  refine ⟨k + 1, ?_⟩
  simp only [slices_IndexFunc_impl_piecesOf_1.l0, impl_piecesOf_1.f, Option.bind_some]
  rw [if_pos (by omega), if_pos (by omega), if_pos (by omega), if_neg (by rw [e]; simp), show wrap64 ((i : Int) + 1) = ((i + 1 : Nat) : Int) by unfold wrap64; omega]
  exact hk
theorem impl_piecesOf.kept {w : World} {A : Option Addr} {c : Nat} {xs : List ByteArray} (hr : Kd.C Kd.string w A xs.length xs) (hc : xs.length ≤ c) (hn : xs.length ≤ 4294967296) (h : xs.all (fun x => !(x.toList == ([] : List UInt8))) = true) :
  Calls Tryz.prog 71 #[.slice A xs.length c, .func (.func 72) #[] #[]] w fun e w' => e = .returned (.slice A xs.length c) ∧ Drawn0 w w' := by
 obtain ⟨k, hk⟩ := impl_piecesOf.whole hn h xs.length 0 (by omega)
 have HX : Aside0 (∀ W : World, Kd.C Kd.string W A xs.length xs → Calls Tryz.prog 83 #[.slice A xs.length c, .func (.func 72) #[] #[]] W fun e w' => e = .returned (.int .i64 (-1)) ∧ Drawn0 W w') := ⟨fun W hW => slices_IndexFunc_impl_piecesOf_1.calls k A c xs () (-1) W hW hc hk⟩
 have HR := Aside0.mk hr
 clear hr hc hn h hk
 go_enter Tryz.func71, Tryz.ntmps71
 go_wp2_with (go_at_call 83; (with_reducible refine (HX.out _ HR.out).mono ?_); rintro e w1 ⟨rfl, hd⟩; have HD := Aside0.mk hd; clear hd)
 go_ret
 exact ⟨rfl, HD.out⟩
theorem impl_piecesOf.calls (a0 : ByteArray) (r : List ByteArray) (w : World) (htab : Tab.Tab w) (h : impl_piecesOf.f a0 = some r) :
  Calls Tryz.prog 48 #[.string a0] w fun e w' => ∃ v0_ : Value, e = .returned (v0_) ∧ Kd.R Kd.string 9 w' w.heap.size (fun _ => True) v0_ r ∧ Below w.heap.size w w' := by
 unfold impl_piecesOf.f at h
 by_cases c : a0.size < 4294967281 ∧ (Lib.splitB (⟨#[32]⟩ : ByteArray) 0 (Lib.countB a0 (⟨#[32]⟩ : ByteArray)) a0).length ≤ 4294967296 ∧ (Lib.splitB (⟨#[32]⟩ : ByteArray) 0 (Lib.countB a0 (⟨#[32]⟩ : ByteArray)) a0).all (fun x => !(x.toList == ([] : List UInt8))) = true
 ·rw [if_pos c] at h
  obtain ⟨c1, c2, c3⟩ := c
  have HS := Aside0.mk (Tab.split_rows (s := a0) (sep := ⟨#[32]⟩) htab c1 (by decide))
  rw [Option.some.inj h] at c2 c3 HS
  clear h c1
  have HK : Aside0 (∀ (W : World) A cp, Kd.C Kd.string W A r.length r → r.length ≤ cp → Calls Tryz.prog 71 #[.slice A r.length cp, .func (.func 72) #[] #[]] W fun e w' => e = .returned (.slice A r.length cp) ∧ Drawn0 W w') := ⟨fun W A cp h1 h2 => impl_piecesOf.kept h1 h2 c2 c3⟩
  clear c2 c3 htab
  go_enter Tryz.func48, Tryz.ntmps48
  go_wp2_with (first
   | (go_at_call 47; (with_reducible refine HS.out.mono ?_); rintro e w1 ⟨v1, rfl, ho, hb⟩; obtain ⟨A1, c1, ev1⟩ := Kd.R_slice ho; subst ev1; have HO := Aside0.mk ho; have HB := Aside0.mk hb; clear ho hb)
   | (go_at_call 71; (with_reducible refine (HK.out _ _ _ (Kd.R_reads' HO.out).2.2 (Kd.R_reads' HO.out).2.1).mono ?_); rintro e w2 ⟨rfl, hd⟩; have HD := Aside0.mk hd; clear hd))
  go_ret
  exact ⟨_, rfl, Kd.R_below HO.out (Drawn0.below HD.out), below_step HB.out (Drawn0.below HD.out)⟩
 rw [if_neg c] at h
 exact absurd h (by simp)

/-! ### slices_Index_string_string: function 49 -/
def slices_Index_string_string.f (l0 : List ByteArray) (a1 : ByteArray) : Option Int := if l0.length ≤ 9223372036854775807 then some (Lib.idxOfS l0 a1) else none
theorem slices_Index_string_string.calls (A0 : Option Addr) (c0 : Nat) (l0 : List ByteArray) (a1 : ByteArray) (r : Int) (w : World) (hA0 : ∀ ad, A0 = some ad → ∃ g, ad = ⟨g, 0, none⟩) (hr0 : Kd.C Kd.string w A0 l0.length l0) (hc0 : l0.length ≤ c0) (h : slices_Index_string_string.f l0 a1 = some r) :
  Calls Tryz.prog 49 #[.slice A0 l0.length c0, .string a1] w fun e w' => e = .returned (.int .i64 r) ∧ Below w.heap.size w w' := by
 unfold slices_Index_string_string.f at h
 by_cases c : l0.length ≤ 9223372036854775807
 ·rw [if_pos c] at h
  obtain rfl := Option.some.inj h
  exact Text.index_rows hA0 hr0 c
 rw [if_neg c] at h
 exact absurd h (by simp)

/-! ### strings_IndexByte: function 50 -/
def strings_IndexByte.f (a0 : ByteArray) (a1 : Int) : Option Int := some (Lib.indexByte a0.data.toList a1.toNat.toUInt8)
theorem strings_IndexByte.calls (a0 : ByteArray) (a1 : Int) (r : Int) (w : World) (h : strings_IndexByte.f a0 a1 = some r) :
  Calls Tryz.prog 50 #[.string a0, .int .u8 a1] w fun e w' => e = .returned (.int .i64 r) ∧ Below w.heap.size w w' := by
 obtain rfl := Option.some.inj h
 exact Text.indexByte_rows a0 a1 w

/-! ### slices_Delete_string_string: function 51 -/
def slices_Delete_string_string.f (l0 : List ByteArray) (a1 a2 : Int) : Option (List ByteArray) := if 0 ≤ a1 ∧ a1 ≤ a2 ∧ a2 ≤ (l0.length : Int) then some (l0.take a1.toNat ++ l0.drop a2.toNat) else none

/-! ### impl_readNumber: function 74 -/
def impl_readNumber.f (a0 : ByteArray) (a1 : Int) : Option (Int × Bool) := Text.numF a0 a1
theorem impl_readNumber.calls (a0 : ByteArray) (a1 : Int) (r1 : Int) (r2 : Bool) (w : World) (h : impl_readNumber.f a0 a1 = some (r1, r2)) :
  Calls Tryz.prog 74 #[.string a0, .int .i64 a1] w fun e w' => e = .returned (.tuple #[.int .i64 r1, .bool r2]) ∧ Below w.heap.size w w' := Text.number_rows a0 a1 r1 r2 w h

/-! ### impl_readNumbers: function 52 -/
def impl_readNumbers.l0 : Nat → Int → List Int → List ByteArray → Int → Int → Option (List Int × Bool)
 | 0, _, _, _, _, _ => none
 | k + 1, x1, x6, x12, x13, x14 => if x14 < x13 then (if 0 ≤ x14 then (if x14 < (x12.length : Int) then ((impl_readNumber.f (rdOf ByteArray.empty x12 x14) x1).bind fun bt428 => (if bt428.2 = true then (if x6.length < 17592186044416 then (impl_readNumbers.l0 k x1 (x6 ++ [bt428.1]) x12 x13 (wrap64 (x14 + 1))) else (none)) else (some (([] : List Int), false)))) else (none)) else (none)) else (some (x6, true))
def impl_readNumbers.f (k : Nat) (l0 : List ByteArray) (a1 : Int) : Option (List Int × Bool) := impl_readNumbers.l0 k a1 (([] : List Int)) l0 (l0.length : Int) 0
theorem impl_readNumbers.mono_l : ∀ k, (∀ y0 y1 y2 y3 y4, LeO (impl_readNumbers.l0 k y0 y1 y2 y3 y4) (impl_readNumbers.l0 (k + 1) y0 y1 y2 y3 y4))
 | 0 => fun _ _ _ _ _ r h => by simp [impl_readNumbers.l0] at h
 | k + 1 => by
  have ih0 := impl_readNumbers.mono_l k
  ·intro y0 y1 y2 y3 y4
   unfold impl_readNumbers.l0
   repeat' first
   | (with_reducible exact ih0 _ _ _ _ _)
   | (with_reducible exact LeO.refl _)
   | (with_reducible exact LeO.none _)
   | (with_reducible refine LeO.ite ?_ ?_)
   | (with_reducible refine LeO.bind ?_ (fun _ => ?_))
   | refine LeO.ite ?_ ?_
   | refine LeO.bind ?_ (fun _ => ?_)
theorem impl_readNumbers.mono : ∀ a0 a1 k, LeO (impl_readNumbers.f k a0 a1) (impl_readNumbers.f (k + 1) a0 a1) := by
 intro a0 a1 k
 have ih0 := impl_readNumbers.mono_l k
 unfold impl_readNumbers.f
 repeat' first
   | (with_reducible exact ih0 _ _ _ _ _)
   | (with_reducible exact LeO.refl _)
   | (with_reducible exact LeO.none _)
   | (with_reducible refine LeO.ite ?_ ?_)
   | (with_reducible refine LeO.bind ?_ (fun _ => ?_))
   | refine LeO.ite ?_ ?_
   | refine LeO.bind ?_ (fun _ => ?_)
theorem impl_readNumbers.calls (k : Nat) (A0 : Option Addr) (c0 : Nat) (l0 : List ByteArray) (a1 : Int) (r1 : List Int) (r2 : Bool) (w : World) (hr0 : Kd.C Kd.string w A0 l0.length l0) (hc0 : l0.length ≤ c0) (h : impl_readNumbers.f k l0 a1 = some (r1, r2)) :
  Calls Tryz.prog 52 #[.slice A0 l0.length c0, .int .i64 a1] w fun e w' => ∃ v0_ : Value, e = .returned (.tuple #[v0_, .bool r2]) ∧ Kd.V (Kd.int .i64) 2 w' w.heap.size (fun k_ => (w.heap.size ≤ k_)) v0_ r1 ∧ Below w.heap.size w w' := by
 have HR0 := Aside0.mk hr0
 have HC0 := Aside0.mk hc0
 clear hr0 hc0
 have HB := Aside0.mk (Below.refl w.heap.size w)
 have H : (impl_readNumbers.l0 k a1 (([] : List Int)) l0 (l0.length : Int) 0) = some (r1, r2) := h
 clear h
 obtain ⟨y424, hy_⟩ : ∃ y_ : List Int, y_ = (([] : List Int)) := ⟨_, rfl⟩
 replace H : (impl_readNumbers.l0 k a1 y424 l0 (l0.length : Int) 0) = some (r1, r2) := yb_
 have Ny424 := Aside0.mk hy_
 clear hy_
 have H' := Aside0.mk H
 clear H
 go_enter Tryz.func52, Tryz.ntmps52
 go_wp2_with (first | ((with_reducible refine gate_dst (N := 11) rfl ?_); refine Kd.R_lit (Kd.int .i64) _ 2 ?hg (N := 11) ?hd (xs := ([] : List Int)) (inner := []) (ok := fun _ => True) (okp := fun _ => True) ?hr ?hp (fun _ hk => hk) trivial (Below.refl _ _) (Nat.le_refl _) (by simp) ?_; (case hd => rfl); (case hg => rfl); (case hr => first | (go_simp; done) | (go_simp; rfl)); (case hp => exact (Reps.none _ _)); intro v425 w3 ho4 hb hg_ hnew_; clear hg_ hnew_; (first | rw [← Ny424.out] at ho4 | (simp only [Int.reduceToNat] at ho4; rw [← Ny424.out] at ho4)); have HO426 := Aside0.mk (Kd.R_lower (Kd.R_newM (M := fun k_ => (w.heap.size ≤ k_)) ho4 (below_size cB0_) (fun k_ h_ => h_)) (below_size cB0_)); replace HB := Aside0.mk (below_step cB0_ hb); clear hb ho4))
 go_loopg [6, 14] k (fun kq v6 v14 w' => ∃ (x6_1 : List Int) (x14_1 : Int), v14 = .int .i64 x14_1 ∧ Aside0 (impl_readNumbers.l0 kq a1 x6_1 l0 (l0.length : Int) x14_1 = some (r1, r2)) ∧ Aside0 (kq ≤ k) ∧ Aside0 (Kd.R (Kd.int .i64) 2 w' w.heap.size (fun k_ => (w.heap.size ≤ k_)) v6 x6_1) ∧ Aside0 (Below w.heap.size w w'))
 case atStart => exact ⟨(y424), (0), cs_, H', ⟨Nat.le_refl _⟩, ⟨by refine cR_ ?_; exact Kd.R_mono HO426.out (fun _ hk => hk.1)⟩, ⟨cB0_⟩⟩
 case round =>
  clear H'
  obtain ⟨x6_1, x14_1, rfl, HA, HK1, HO_6, HB⟩ := hrel
  cases gk with
  | zero => exact absurd HA.out (by simp [impl_readNumbers.l0])
  | succ k1 =>
   have H := HA.out
   clear HA
   simp only [impl_readNumbers.l0] at H
   by_cases c5 : x14_1 < (l0.length : Int)
   rotate_left
   ·rw [if_neg c5] at H
    have c5b0 := decide_eq_false c5
    clear c5
    simp only [Option.some.injEq, Prod.mk.injEq] at H
    obtain ⟨rfl, rfl⟩ := H
    go_wp2
    go_ret2
    exact ⟨_, ce_, Kd.R_V (cR_ HO_6.out), cB0_⟩
   rw [if_pos c5] at H
   have c5b0 := decide_eq_true c5
   clear c5
   by_cases c6 : 0 ≤ x14_1
   rotate_left
   ·rw [if_neg c6] at H
    exact absurd H (by simp)
   rw [if_pos c6] at H
   have c6b0 := decide_eq_true c6
   clear c6
   by_cases c7 : x14_1 < (l0.length : Int)
   rotate_left
   ·rw [if_neg c7] at H
    exact absurd H (by simp)
   rw [if_pos c7] at H
   have c7b0 := decide_eq_true c7
   clear c7
   obtain ⟨⟨t428, t429⟩, A8, H⟩ := bnd_ H
   try dsimp only at H
   by_cases c9 : t429 = true
   ·subst c9
    rw [if_pos rfl] at H
    by_cases c10 : x6_1.length < 17592186044416
    rotate_left
    ·rw [if_neg c10] at H
     exact absurd H (by simp)
    rw [if_pos c10] at H
    have LMc10 := Aside0.mk c10
    clear c10
    obtain ⟨y430, hy_⟩ : ∃ y_ : List Int, y_ = (x6_1 ++ [t428]) := ⟨_, rfl⟩
    replace H : (impl_readNumbers.l0 k1 a1 y430 l0 (l0.length : Int) (wrap64 (x14_1 + 1))) = some (r1, r2) := yb_
    have Ny430 := Aside0.mk hy_
    clear hy_
    have H' := Aside0.mk H
    clear H
    have p427 : 0 ≤ (x14_1 : Int) := cd_
    have q427 : x14_1 < (l0.length : Int) := cd_
    obtain ⟨ad427, e427, hx427_0⟩ := Kd.at_string HR0.out x14_1 p427 q427
    cases e427
    replace hx427_0 := pw_cell_below HB.out hx427_0
    replace p427 := eq_true p427
    replace q427 := eq_true q427
    go_wp2_with (first | (refine gl_ 74 (some 21) Tryz.func74 #[.string (rdOf ByteArray.empty l0 x14_1), .int .i64 a1] ?_; (with_reducible refine (impl_readNumber.calls (rdOf ByteArray.empty l0 x14_1) a1 t428 true _ A8.out).mono ?_); rintro e w11 ⟨rfl, hb⟩; refine ⟨_, rfl, ?_⟩; replace HO_6 := Aside0.mk (Kd.R_below (cR_ HO_6.out) hb); replace HB := Aside0.mk (below_step cB0_ hb); (try clear hb)) | ((with_reducible refine gate_builtin (b := .append) (xs := #[.tmp 26, .tmp 28]) rfl ?_); at_builtin; refine Kd.R_append (Kd.int .i64) (w0 := w) w.heap.size rfl (.tmp 26) (.tmp 28) 34 2 (.int .i64 0) 8 rfl Tryz.underlying34 info2 rfl (by decide) (by omega) u6 x6_1 t428 [.int .i64 t428] (fun k_ => (w.heap.size ≤ k_)) (fun _ => False) rfl rfl ?aP (fun _ hk => hk.elim) ?aF ?aO ?aB ?aS ?aL ?_; (case aP => exact rfl); (case aB => exact cB0_); (case aF => exact (by exact (fun k_ hk => (Nat.le_trans (below_size cB0_) hk)))); (case aO => exact (by exact cR_ HO_6.out)); (case aS => exact (by exact (below_size cB0_))); (case aL => exact co_ LMc10.out); intro v431 w12 ho hb hg hat; rw [← Ny430.out] at ho; replace HB := Aside0.mk (hb); have HO432 := Aside0.mk (ho); clear HO_6; clear ho hb hg hat))
    go_roundg k1
    case measure => have := HK1.out; omega
    case rel => exact ⟨(y430), (wrap64 (x14_1 + 1)), cs_, H', ⟨co_ HK1.out⟩, ⟨cR_ HO432.out⟩, ⟨cB0_⟩⟩
   replace c9 := Bool.eq_false_iff.mpr c9
   subst c9
   rw [if_neg (show ¬ (false = true) by decide)] at H
   simp only [Option.some.injEq, Prod.mk.injEq] at H
   obtain ⟨rfl, rfl⟩ := H
   have p427 : 0 ≤ (x14_1 : Int) := cd_
   have q427 : x14_1 < (l0.length : Int) := cd_
   obtain ⟨ad427, e427, hx427_0⟩ := Kd.at_string HR0.out x14_1 p427 q427
   cases e427
   replace hx427_0 := pw_cell_below HB.out hx427_0
   replace p427 := eq_true p427
   replace q427 := eq_true q427
   go_wp2_with (first | (refine gl_ 74 (some 21) Tryz.func74 #[.string (rdOf ByteArray.empty l0 x14_1), .int .i64 a1] ?_; (with_reducible refine (impl_readNumber.calls (rdOf ByteArray.empty l0 x14_1) a1 t428 false _ A8.out).mono ?_); rintro e w13 ⟨rfl, hb⟩; refine ⟨_, rfl, ?_⟩; replace HO_6 := Aside0.mk (Kd.R_below (cR_ HO_6.out) hb); replace HB := Aside0.mk (below_step cB0_ hb); (try clear hb)))
   go_ret2
   exact ⟨_, ce_, Kd.R_V (Kd.R_nil (Kd.int .i64) 2 _ w.heap.size (fun k_ => (w.heap.size ≤ k_))), cB0_⟩

end Go.Proofs.YteibdjkfkcckkaaGreatDoor.PFnPlans
