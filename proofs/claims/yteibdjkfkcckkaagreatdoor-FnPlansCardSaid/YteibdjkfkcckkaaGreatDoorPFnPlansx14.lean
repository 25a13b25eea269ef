-- Written by fprint, a program of this session, out of Lean's own print of the translation. Lean checks it.
import Derived.Test.YteibdjkfkcckkaaGreatDoorDense
import Derived.Test.YteibdjkfkcckkaaGreatDoorShort
import Derived.Test.YteibdjkfkcckkaaGreatDoorPFnPlansx0
import Derived.Test.YteibdjkfkcckkaaGreatDoorPFnPlansx11
import Derived.Test.YteibdjkfkcckkaaGreatDoorPFnPlansx13
namespace Go.Proofs.YteibdjkfkcckkaaGreatDoor.PFnPlans
open Go.RowKit Go.Proofs.YteibdjkfkcckkaaGreatDoorW.PrintWords Go.Proofs.YteibdjkfkcckkaaGreatDoorW.PrintLast Go.Proofs.YteibdjkfkcckkaaGreatDoorW.PrintMore
attribute [local go_sem] max2_int min2_int max_two min_two max_three min_three max_four min_four
set_option linter.unusedVariables false
set_option maxHeartbeats 8000000
set_option maxRecDepth 100000
set_option linter.unusedSimpArgs false

theorem b14_0 {p : Prop} (h : p := by exact cB1_ GE366.out) : p := h
theorem b14_1 {p : Prop} (h : p := by exact cO_ BK366.out) : p := h
theorem b14_2 {p : Prop} (h : p := by exact cR_ HO_3.out) : p := h
theorem q14_0 {p : Prop} (h : p := by have := HK1.out; first | omega | exact Nat.le_refl _) : p := h
theorem q14_1 {p : Prop} (h : p := by first | rfl | (simp [errW_none, errW_some] <;> rfl) | (simp only [← hji3]; first | rfl | (simp [errW_none, errW_some] <;> rfl)) | (simp [*, errW_none, errW_some] <;> rfl)) : p := h
/-! ### impl_Node_wordsOf: function 34 -/
mutual
def impl_Node_wordsOf.l0 : Nat → List ByteArray → List Int → Int → Int → Int → Int → Int → Int → Int → Int → List Int → Option (List ByteArray)
 | 0, _, _, _, _, _, _, _, _, _, _, _ => none
 | k + 1, x3, x16, x17, x18, x367000, x367001, x367002, x367003, x367004, x367005, x367006 => if x18 < x17 then (if 0 ≤ x18 then (if x18 < (x16.length : Int) then ((impl_decimal.f (rd x16 x18)).bind fun t378 => (if x3.length < 8796093022208 then (impl_Node_wordsOf.l0 k (x3 ++ [t378]) x16 x17 (wrap64 (x18 + 1)) x367000 x367001 x367002 x367003 x367004 x367005 x367006) else (none))) else (none)) else (none)) else (if x367000 = 1 then (impl_Node_wordsOf.j1 k x3 x367000 (x367000 == 1) x367000 x367001 x367002 x367003 x367004 x367005 x367006) else (if x367000 = 6 then (impl_Node_wordsOf.j1 k x3 x367000 (x367000 == 6) x367000 x367001 x367002 x367003 x367004 x367005 x367006) else (if x367000 = 7 then (impl_Node_wordsOf.j1 k x3 x367000 (x367000 == 7) x367000 x367001 x367002 x367003 x367004 x367005 x367006) else (if x367000 = 8 then (impl_Node_wordsOf.j1 k x3 x367000 (x367000 == 8) x367000 x367001 x367002 x367003 x367004 x367005 x367006) else (if x367000 = 9 then (impl_Node_wordsOf.j1 k x3 x367000 (x367000 == 9) x367000 x367001 x367002 x367003 x367004 x367005 x367006) else (impl_Node_wordsOf.j1 k x3 x367000 (x367000 == 10) x367000 x367001 x367002 x367003 x367004 x367005 x367006))))))
def impl_Node_wordsOf.j1 : Nat → List ByteArray → Int → Bool → Int → Int → Int → Int → Int → Int → List Int → Option (List ByteArray)
 | 0, _, _, _, _, _, _, _, _, _, _ => none
 | k + 1, x3, x29, x30, x367000, x367001, x367002, x367003, x367004, x367005, x367006 => if x30 = true then ((impl_decimal.f x367003).bind fun t382 => (if x3.length < 8796093022208 then (some (x3 ++ [t382])) else (none))) else (if x29 = 2 then ((impl_decimal.f x367003).bind fun t386 => (if 0 ≤ x367004 then (if x367004 ≤ (wrap64 (x367004 + 1)) then (if (wrap64 (x367004 + 1)) ≤ 3 then ((impl_decimal.f x367005).bind fun t387 => ((some (([t386, (⟨#[61, 60, 62]⟩ : ByteArray).extract (x367004 : Int).toNat ((wrap64 (x367004 + 1)) : Int).toNat, t387] : List ByteArray) : List ByteArray)).bind fun y388 => (if x3.length + y388.length < 8796093022208 then (some (x3 ++ y388)) else (none)))) else (none)) else (none)) else (none))) else (if x29 = 3 then (impl_Node_wordsOf.l1 k x3 x367006 (x367006.length : Int) 0) else (some x3)))
def impl_Node_wordsOf.l1 : Nat → List ByteArray → List Int → Int → Int → Option (List ByteArray)
 | 0, _, _, _, _ => none
 | k + 1, x3, x63, x64, x65 => if x65 < x64 then (if 0 ≤ x65 then (if x65 < (x63.length : Int) then ((impl_decimal.f (rd x63 x65)).bind fun t395 => (if x3.length < 8796093022208 then (impl_Node_wordsOf.l1 k (x3 ++ [t395]) x63 x64 (wrap64 (x65 + 1))) else (none))) else (none)) else (none)) else (some x3)
end
def impl_Node_wordsOf.f (k : Nat) (a0_0 : Int) (a0_1 : Int) (a0_2 : Int) (a0_3 : Int) (a0_4 : Int) (a0_5 : Int) (l0_6 : List Int) : Option (List ByteArray) := (strings_Split.f (⟨#[105, 110, 112, 117, 116, 32, 102, 105, 108, 116, 101, 114, 32, 112, 114, 111, 106, 101, 99, 116, 32, 117, 110, 105, 111, 110, 32, 110, 101, 103, 97, 116, 101, 32, 106, 111, 105, 110, 32, 99, 111, 117, 110, 116, 32, 115, 117, 109, 32, 108, 101, 97, 115, 116, 32, 109, 111, 115, 116, 32, 100, 105, 115, 116, 105, 110, 99, 116, 32, 118, 105, 101, 119]⟩ : ByteArray) (⟨#[32]⟩ : ByteArray)).bind fun t367 => (if 0 ≤ (wrap64 (a0_0 - 1)) then (if (wrap64 (a0_0 - 1)) < (t367.length : Int) then ((impl_Node_reads.f a0_0 a0_1 a0_2 a0_3 a0_4 a0_5 l0_6).bind fun t374 => (impl_Node_wordsOf.l0 k (([rdOf ByteArray.empty t367 (wrap64 (a0_0 - 1))] : List ByteArray)) t374 (t374.length : Int) 0 a0_0 a0_1 a0_2 a0_3 a0_4 a0_5 l0_6)) else (none)) else (none))
theorem impl_Node_wordsOf.mono_l : ∀ k, (∀ y0 y1 y2 y3 y4 y5 y6 y7 y8 y9 y10, LeO (impl_Node_wordsOf.l0 k y0 y1 y2 y3 y4 y5 y6 y7 y8 y9 y10) (impl_Node_wordsOf.l0 (k + 1) y0 y1 y2 y3 y4 y5 y6 y7 y8 y9 y10)) ∧ (∀ y0 y1 y2 y3 y4 y5 y6 y7 y8 y9, LeO (impl_Node_wordsOf.j1 k y0 y1 y2 y3 y4 y5 y6 y7 y8 y9) (impl_Node_wordsOf.j1 (k + 1) y0 y1 y2 y3 y4 y5 y6 y7 y8 y9)) ∧ (∀ y0 y1 y2 y3, LeO (impl_Node_wordsOf.l1 k y0 y1 y2 y3) (impl_Node_wordsOf.l1 (k + 1) y0 y1 y2 y3))
 | 0 => ⟨fun _ _ _ _ _ _ _ _ _ _ _ r h => by simp [impl_Node_wordsOf.l0] at h, fun _ _ _ _ _ _ _ _ _ _ r h => by simp [impl_Node_wordsOf.j1] at h, fun _ _ _ _ r h => by simp [impl_Node_wordsOf.l1] at h⟩
 | k + 1 => by
  obtain ⟨ih0, ih1, ih2⟩ := impl_Node_wordsOf.mono_l k
  refine ⟨?_, ?_, ?_⟩
  ·intro y0 y1 y2 y3 y4 y5 y6 y7 y8 y9 y10
   unfold impl_Node_wordsOf.l0
   repeat' first
   | (with_reducible exact ih0 _ _ _ _ _ _ _ _ _ _ _)
   | (with_reducible exact ih1 _ _ _ _ _ _ _ _ _ _)
   | (with_reducible exact ih2 _ _ _ _)
   | (with_reducible exact LeO.refl _)
   | (with_reducible exact LeO.none _)
   | (with_reducible refine LeO.ite ?_ ?_)
   | (with_reducible refine LeO.bind ?_ (fun _ => ?_))
   | refine LeO.ite ?_ ?_
   | refine LeO.bind ?_ (fun _ => ?_)
  ·intro y0 y1 y2 y3 y4 y5 y6 y7 y8 y9
   unfold impl_Node_wordsOf.j1
   repeat' first
   | (with_reducible exact ih0 _ _ _ _ _ _ _ _ _ _ _)
   | (with_reducible exact ih1 _ _ _ _ _ _ _ _ _ _)
   | (with_reducible exact ih2 _ _ _ _)
   | (with_reducible exact LeO.refl _)
   | (with_reducible exact LeO.none _)
   | (with_reducible refine LeO.ite ?_ ?_)
   | (with_reducible refine LeO.bind ?_ (fun _ => ?_))
   | refine LeO.ite ?_ ?_
   | refine LeO.bind ?_ (fun _ => ?_)
  ·intro y0 y1 y2 y3
   unfold impl_Node_wordsOf.l1
   repeat' first
   | (with_reducible exact ih0 _ _ _ _ _ _ _ _ _ _ _)
   | (with_reducible exact ih1 _ _ _ _ _ _ _ _ _ _)
   | (with_reducible exact ih2 _ _ _ _)
   | (with_reducible exact LeO.refl _)
   | (with_reducible exact LeO.none _)
   | (with_reducible refine LeO.ite ?_ ?_)
   | (with_reducible refine LeO.bind ?_ (fun _ => ?_))
   | refine LeO.ite ?_ ?_
   | refine LeO.bind ?_ (fun _ => ?_)
theorem impl_Node_wordsOf.mono : ∀ a0 a1 a2 a3 a4 a5 a6 k, LeO (impl_Node_wordsOf.f k a0 a1 a2 a3 a4 a5 a6) (impl_Node_wordsOf.f (k + 1) a0 a1 a2 a3 a4 a5 a6) := by
 intro a0 a1 a2 a3 a4 a5 a6 k
 obtain ⟨ih0, ih1, ih2⟩ := impl_Node_wordsOf.mono_l k
 unfold impl_Node_wordsOf.f
 repeat' first
   | (with_reducible exact ih0 _ _ _ _ _ _ _ _ _ _ _)
   | (with_reducible exact ih1 _ _ _ _ _ _ _ _ _ _)
   | (with_reducible exact ih2 _ _ _ _)
   | (with_reducible exact LeO.refl _)
   | (with_reducible exact LeO.none _)
   | (with_reducible refine LeO.ite ?_ ?_)
   | (with_reducible refine LeO.bind ?_ (fun _ => ?_))
   | refine LeO.ite ?_ ?_
   | refine LeO.bind ?_ (fun _ => ?_)
def impl_Node_wordsOf.T1 : Bool × List (List Nat × List Nat) := (true, [([], []), ([], []), ([1], [1]), ([2], [2]), ([0, 3], [0, 3]), ([4], [4]), ([5], [5]), ([6, 0, 0, 1, 2, 3, 4, 5, 6], [6])])
def impl_Node_wordsOf.B1 : List Nat := [0, 0, 2, 6, 15, 31, 63, 127]
theorem impl_Node_wordsOf.tab1 : rtab .any (opsOf Tryz.f34 1) = impl_Node_wordsOf.T1 := by kernel_rfl
theorem impl_Node_wordsOf.bits1 : waitsOk impl_Node_wordsOf.T1.2 impl_Node_wordsOf.B1 = true := by kernel_rfl
def impl_Node_wordsOf.T16 : Bool × List (List Nat × List Nat) := (true, [([], []), ([], []), ([1], [1]), ([2], [2]), ([], []), ([4], [4]), ([], []), ([6], [6]), ([7], [7]), ([5, 8], [5, 8]), ([], []), ([10], [10]), ([11, 3], [11]), ([3, 9, 12], [3, 9, 12]), ([0, 13, 12], [0, 13]), ([14, 14, 0, 1, 2, 3, 4, 5, 6, 7, 8, 9, 10, 11, 12, 13, 14], [0, 14])])
def impl_Node_wordsOf.B16 : List Nat := [0, 0, 2, 6, 0, 16, 0, 64, 192, 496, 0, 1024, 3086, 8190, 16383, 32767]
theorem impl_Node_wordsOf.tab16 : rtab .any (opsOf Tryz.f34 16) = impl_Node_wordsOf.T16 := by kernel_rfl
theorem impl_Node_wordsOf.bits16 : waitsOk impl_Node_wordsOf.T16.2 impl_Node_wordsOf.B16 = true := by kernel_rfl
theorem impl_Node_wordsOf.calls (k : Nat) (a0_0 : Int) (a0_1 : Int) (a0_2 : Int) (a0_3 : Int) (a0_4 : Int) (a0_5 : Int) (A0_6 : Option Addr) (c0_6 : Nat) (l0_6 : List Int) (r : List ByteArray) (w : World) (hr0_6 : Kd.C (Kd.int .i64) w A0_6 l0_6.length l0_6) (hc0_6 : l0_6.length ≤ c0_6) (htab_ : Tab.Tab w) (h : impl_Node_wordsOf.f k a0_0 a0_1 a0_2 a0_3 a0_4 a0_5 l0_6 = some r) :
  Calls Tryz.prog 34 #[.agg #[.int .i64 a0_0, .int .i64 a0_1, .int .i64 a0_2, .int .i64 a0_3, .int .i64 a0_4, .int .i64 a0_5, .slice A0_6 l0_6.length c0_6]] w fun e w' => ∃ v0_ : Value, e = .returned (v0_) ∧ Kd.R Kd.string 9 w' w.heap.size (fun _ => True) v0_ r ∧ Below w.heap.size w w' := by
 have HTB_ := Aside0.mk htab_
 clear htab_
 have hu36 := Tryz.underlying36
 have HR0_6 := Aside0.mk hr0_6
 have HC0_6 := Aside0.mk hc0_6
 clear hr0_6 hc0_6
 have HB := Aside0.mk (Below.refl w.heap.size w)
 have H : ((strings_Split.f (⟨#[105, 110, 112, 117, 116, 32, 102, 105, 108, 116, 101, 114, 32, 112, 114, 111, 106, 101, 99, 116, 32, 117, 110, 105, 111, 110, 32, 110, 101, 103, 97, 116, 101, 32, 106, 111, 105, 110, 32, 99, 111, 117, 110, 116, 32, 115, 117, 109, 32, 108, 101, 97, 115, 116, 32, 109, 111, 115, 116, 32, 100, 105, 115, 116, 105, 110, 99, 116, 32, 118, 105, 101, 119]⟩ : ByteArray) (⟨#[32]⟩ : ByteArray)).bind fun t367 => (if 0 ≤ (wrap64 (a0_0 - 1)) then (if (wrap64 (a0_0 - 1)) < (t367.length : Int) then ((impl_Node_reads.f a0_0 a0_1 a0_2 a0_3 a0_4 a0_5 l0_6).bind fun t374 => (impl_Node_wordsOf.l0 k (([rdOf ByteArray.empty t367 (wrap64 (a0_0 - 1))] : List ByteArray)) t374 (t374.length : Int) 0 a0_0 a0_1 a0_2 a0_3 a0_4 a0_5 l0_6)) else (none)) else (none))) = some r := h
 clear h
 obtain ⟨t367, A2, H⟩ := bnd_ H
 try dsimp only at H
 obtain ⟨ji3, hji3⟩ : ∃ j_ : Int, (wrap64 (a0_0 - 1)) = j_ := ⟨_, rfl⟩
 replace H : (if 0 ≤ (ji3) then (if (ji3) < (t367.length : Int) then ((impl_Node_reads.f a0_0 a0_1 a0_2 a0_3 a0_4 a0_5 l0_6).bind fun t374 => (impl_Node_wordsOf.l0 k (([rdOf ByteArray.empty t367 (ji3)] : List ByteArray)) t374 (t374.length : Int) 0 a0_0 a0_1 a0_2 a0_3 a0_4 a0_5 l0_6)) else (none)) else (none)) = some r := by first | (rw [hji3] at H; exact H) | (simp only [hji3] at H ⊢; exact H)
 (try rw [hji3] at A2)
 have hji3w : (IntKind.i64.wrap (a0_0 - 1)) = ji3 := (i64_w _).trans hji3
 by_cases c4 : 0 ≤ (ji3)
 rotate_left
 ·rw [if_neg c4] at H
  exact absurd H (by simp)
 rw [if_pos c4] at H
 have c4b0 := decide_eq_true c4
 clear c4
 by_cases c5 : (ji3) < (t367.length : Int)
 rotate_left
 ·rw [if_neg c5] at H
  exact absurd H (by simp)
 rw [if_pos c5] at H
 have c5b0 := decide_eq_true c5
 clear c5
 obtain ⟨y371, hy_⟩ : ∃ y_ : List ByteArray, y_ = (([rdOf ByteArray.empty t367 (ji3)] : List ByteArray)) := ⟨_, rfl⟩
 replace H : ((impl_Node_reads.f a0_0 a0_1 a0_2 a0_3 a0_4 a0_5 l0_6).bind fun t374 => (impl_Node_wordsOf.l0 k y371 t374 (t374.length : Int) 0 a0_0 a0_1 a0_2 a0_3 a0_4 a0_5 l0_6)) = some r := yb_
 have Ny371 := Aside0.mk hy_
 clear hy_
 obtain ⟨t374, A6, H⟩ := bnd_ H
 try dsimp only at H
 have H' := Aside0.mk H
 clear H
 go_enter Tryz.func34, Tryz.ntmps34
 try go_wp2_with (first | (refine bx_ 1 #[.int .i64 a0_0, .int .i64 a0_1, .int .i64 a0_2, .int .i64 a0_3, .int .i64 a0_4, .int .i64 a0_5, .slice A0_6 l0_6.length c0_6] 36 ?_; intro gb366 hg w7 hbox hb; have BK366 := Aside0.mk (hbox); have GW366 := Aside0.mk ((by rw [hg]; exact (below_size cB0_) : w.heap.size ≤ gb366)); have GE366 := Aside0.mk ((by rw [hg]; exact (below_size cB0_) : w.heap.size ≤ gb366)); replace HB := Aside0.mk (below_step cB0_ hb); clear hb hbox hg))
 replace BK366 := Aside0.mk (blk_drew BK366.out)
 replace HB := Aside0.mk (below_drew1 HB.out)
 refine start_ (n := 8) (S := fun w' => w'.cell? ⟨gb366, 0, none⟩ = some (.int .i64 a0_0) ∧ w'.cell? ⟨gb366, 1, none⟩ = some (.int .i64 a0_1) ∧ w'.cell? ⟨gb366, 2, none⟩ = some (.int .i64 a0_2) ∧ w'.cell? ⟨gb366, 3, none⟩ = some (.int .i64 a0_3) ∧ w'.cell? ⟨gb366, 4, none⟩ = some (.int .i64 a0_4) ∧ w'.cell? ⟨gb366, 5, none⟩ = some (.int .i64 a0_5) ∧ w'.cell? ⟨gb366, 6, none⟩ = some (.slice A0_6 l0_6.length c0_6)) (ds := []) (bl 8 0) (by kernel_rfl) rfl rfl ⟨(blk_cell BK366.out 0).trans rfl, (blk_cell BK366.out 1).trans rfl, (blk_cell BK366.out 2).trans rfl, (blk_cell BK366.out 3).trans rfl, (blk_cell BK366.out 4).trans rfl, (blk_cell BK366.out 5).trans rfl, (blk_cell BK366.out 6).trans rfl⟩ (fun hHeld => ?_); refine with_tabW impl_Node_wordsOf.tab1 impl_Node_wordsOf.bits1 (fun HT_ HW_ => ?_)
 generalize w7.drew = w8 at BK366 HB hHeld ⊢
 refine pv_ 1 9 (bl 8 2) ?_
 refine tv_ 2 10 (bl 8 6) rfl hHeld (fun w' s_ => by obtain ⟨s0, s1, s2, s3, s4, s5, s6⟩ := s_; go_simp; with_reducible rfl) ?_
 refine pv_ 3 11 (bl 8 14) ?_
 refine ov_ 0 8 (bl 8 15) (fun K hK => ?_)
 refine goes_ Tryz.func47 (by kernel_rfl) rfl #[.string (⟨#[105, 110, 112, 117, 116, 32, 102, 105, 108, 116, 101, 114, 32, 112, 114, 111, 106, 101, 99, 116, 32, 117, 110, 105, 111, 110, 32, 110, 101, 103, 97, 116, 101, 32, 106, 111, 105, 110, 32, 99, 111, 117, 110, 116, 32, 115, 117, 109, 32, 108, 101, 97, 115, 116, 32, 109, 111, 115, 116, 32, 100, 105, 115, 116, 105, 110, 99, 116, 32, 118, 105, 101, 119]⟩ : ByteArray), .string (⟨#[32]⟩ : ByteArray)] (by rfl) rfl rfl cx_ ?_
 with_reducible refine (strings_Split.calls (⟨#[105, 110, 112, 117, 116, 32, 102, 105, 108, 116, 101, 114, 32, 112, 114, 111, 106, 101, 99, 116, 32, 117, 110, 105, 111, 110, 32, 110, 101, 103, 97, 116, 101, 32, 106, 111, 105, 110, 32, 99, 111, 117, 110, 116, 32, 115, 117, 109, 32, 108, 101, 97, 115, 116, 32, 109, 111, 115, 116, 32, 100, 105, 115, 116, 105, 110, 99, 116, 32, 118, 105, 101, 119]⟩ : ByteArray) (⟨#[32]⟩ : ByteArray) t367 _ (Tab.tabB HTB_.out b14_0) A2.out).mono ?_
 rintro e w9 ⟨v368, rfl, ho0, hb⟩
 skip
 refine ⟨_, rfl, ?_⟩
 have HO369 := Aside0.mk (Kd.R_lower ho0 (below_size b14_0))
 replace BK366 := Aside0.mk (blk_below (g := gb366) (o := .cells #[.int .i64 a0_0, .int .i64 a0_1, .int .i64 a0_2, .int .i64 a0_3, .int .i64 a0_4, .int .i64 a0_5, .slice A0_6 l0_6.length c0_6] 36 (0, 0)) b14_1 hb)
 replace HB := Aside0.mk (below_step b14_0 hb)
 (try clear hb)
 (try clear ho0)
 obtain ⟨Ao10, co10, eo10⟩ := Kd.R_slice HO369.out
 (first | subst eo10 | (injection eo10 with f1_ f2_ f3_; have f4_ := f1_.symm; have f5_ := f3_.symm; clear f1_ f2_ f3_; subst f4_; subst f5_))
 have p370 : 0 ≤ ((ji3) : Int) := cd_
 have q370 : (ji3) < (t367.length : Int) := cd_
 obtain ⟨ad370, e370, hx370_0⟩ := Kd.at_string (Kd.R_reads' HO369.out).2.2 (ji3) p370 q370
 cases e370
 replace p370 := eq_true p370
 replace q370 := eq_true q370
 refine hK.out _ _ ⟨(blk_cell BK366.out 0).trans rfl, (blk_cell BK366.out 1).trans rfl, (blk_cell BK366.out 2).trans rfl, (blk_cell BK366.out 3).trans rfl, (blk_cell BK366.out 4).trans rfl, (blk_cell BK366.out 5).trans rfl, (blk_cell BK366.out 6).trans rfl⟩ (fun hHeld => ?_)
 clear hK K
 refine nm_ (some 8) ?_
 refine pv_ 4 12 (bl 8 31) ?_
 refine Tab.lone_ (S' := fun w' => w'.cell? (ad370.add ((ji3)).toNat) = some (.string (rdOf ByteArray.empty t367 (ji3)))) (i := 5) (N := some 13) (v := ?_) (a' := ?_) (bl 8 63) rfl rfl (one_of HT_.out (by kernel_rfl)) (Or.inl ⟨by rfl, ?_⟩) hx370_0 ?_ ?_
 rotate_left
 ·rintro w' s7
  go_simp
  with_reducible rfl
 rotate_left
 ·simp only [Act.put, List.setIfInBounds_toArray, List.set_cons_zero, List.set_cons_succ, i64_w, i32_w]
  rfl
 refine ov_ 6 14 (bl 8 127) (fun K hK => ?_)
 refine Kd.R_lit_step Kd.string _ 9 ?hg (N := 14) ?hd (xs := ([rdOf ByteArray.empty t367 (ji3)] : List ByteArray)) (inner := [.string (rdOf ByteArray.empty t367 (ji3))]) (ok := fun _ => True) (okp := fun _ => True) ?hr ?hp (fun _ hk => hk) trivial (Below.refl _ _) (Nat.le_refl _) (by simp) ?_; (case hd => rfl); (case hg => rfl); (case hr => first | (go_simp; done) | (go_simp; rfl)); (case hp => exact (Reps.one (show Kd.M Kd.string _ _ _ (rdOf ByteArray.empty t367 (ji3)) [.string (rdOf ByteArray.empty t367 (ji3))] from rfl) (Reps.none _ _)))
 intro v372 w11 ho12 hb hg_ hnew_
 skip
 clear hg_ hnew_
 (first | rw [← Ny371.out] at ho12 | (simp only [Int.reduceToNat] at ho12; rw [← Ny371.out] at ho12))
 have HO373 := Aside0.mk (Kd.R_lower (Kd.R_new' ho12 (Kd.R_lt (cR_ HO369.out))) (below_size b14_0))
 replace HO369 := Aside0.mk (Kd.R_elder' (cR_ HO369.out) (Kd.R_base ho12) hb)
 replace BK366 := Aside0.mk (blk_below (g := gb366) (o := .cells #[.int .i64 a0_0, .int .i64 a0_1, .int .i64 a0_2, .int .i64 a0_3, .int .i64 a0_4, .int .i64 a0_5, .slice A0_6 l0_6.length c0_6] 36 (0, 0)) b14_1 hb)
 replace HB := Aside0.mk (below_step b14_0 hb)
 clear hb ho12
 refine hK.out _ _ ⟨(blk_cell BK366.out 0).trans rfl, (blk_cell BK366.out 1).trans rfl, (blk_cell BK366.out 2).trans rfl, (blk_cell BK366.out 3).trans rfl, (blk_cell BK366.out 4).trans rfl, (blk_cell BK366.out 5).trans rfl, (blk_cell BK366.out 6).trans rfl⟩ (fun hHeld => ?_)
 clear hK K
 refine nm_ (some 14) ?_
 refine pv_ 7 3 (bl 8 255) ?_
 refine done_ (done_of HT_.out (by kernel_rfl)) ?_
 obtain ⟨_, _, _, _, _, _, _, _, _, _, _, _, _, _⟩ := cells7 BK366.out
 try go_wp2_with (first | (refine gl_ 44 (some 16) Tryz.func44 #[.agg #[.int .i64 a0_0, .int .i64 a0_1, .int .i64 a0_2, .int .i64 a0_3, .int .i64 a0_4, .int .i64 a0_5, .slice A0_6 l0_6.length c0_6]] ?_; (with_reducible refine (impl_Node_reads.calls a0_0 a0_1 a0_2 a0_3 a0_4 a0_5 _ _ l0_6 t374 _ ?side1 ?side2 A6.out).mono ?_); (case side1 => exact cC_ (Kd.C_below HR0_6.out HB.out)); (case side2 => exact HC0_6.out); rintro e w14 ⟨v375, rfl, ho0, hb⟩; refine ⟨_, rfl, ?_⟩; replace HO369 := Aside0.mk (Kd.R_below (cR_ HO369.out) hb); replace HO373 := Aside0.mk (Kd.R_below (cR_ HO373.out) hb); have HO376 := Aside0.mk (Kd.R_lower ho0 (below_size b14_0)); replace BK366 := Aside0.mk (blk_below (g := gb366) (o := .cells #[.int .i64 a0_0, .int .i64 a0_1, .int .i64 a0_2, .int .i64 a0_3, .int .i64 a0_4, .int .i64 a0_5, .slice A0_6 l0_6.length c0_6] 36 (0, 0)) b14_1 hb); replace HB := Aside0.mk (below_step b14_0 hb); (try clear hb); (try clear ho0); obtain ⟨Ao15, co15, eo15⟩ := Kd.R_slice HO376.out; subst eo15))
 go_loopg [3, 18] k (fun kq v3 v18 w' => ∃ (x3_1 : List ByteArray) (x18_1 : Int), v18 = .int .i64 x18_1 ∧ Aside0 (impl_Node_wordsOf.l0 kq x3_1 t374 (t374.length : Int) x18_1 a0_0 a0_1 a0_2 a0_3 a0_4 a0_5 l0_6 = some r) ∧ Aside0 (kq ≤ k) ∧ Aside0 (Kd.R Kd.string 9 w' w.heap.size (fun _ => True) v3 x3_1) ∧ Aside0 (Kd.R (Kd.int .i64) 2 w' w.heap.size (fun _ => True) (.slice Ao15 t374.length co15) t374) ∧ Aside0 (w'.heap[gb366]? = some (.cells #[.int .i64 a0_0, .int .i64 a0_1, .int .i64 a0_2, .int .i64 a0_3, .int .i64 a0_4, .int .i64 a0_5, (.slice A0_6 l0_6.length c0_6)] 36 (0, 0))) ∧ Aside0 (Below w.heap.size w w'))
 case atStart => exact ⟨(y371), (0), cs_, H', ⟨Nat.le_refl _⟩, ⟨by refine cR_ ?_; exact Kd.R_mono HO373.out (fun _ hk => trivial)⟩, ⟨cR_ HO376.out⟩, ⟨cO_ BK366.out⟩, ⟨cB1_ GE366.out⟩⟩
 case round =>
  clear H'
  try clear c4b0
  try clear c5b0
  try clear hx370_0
  try clear p370
  try clear q370
  obtain ⟨x3_1, x18_1, rfl, HA, HK1, HO_3, HO_16, BK366, HB⟩ := hrel
  cases gk with
  | zero => exact absurd HA.out (by simp [impl_Node_wordsOf.l0])
  | succ k1 =>
   have H := HA.out
   clear HA
   simp only [impl_Node_wordsOf.l0] at H
   by_cases c16 : x18_1 < (t374.length : Int)
   ·rw [if_pos c16] at H
    have c16b0 := decide_eq_true c16
    clear c16
    by_cases c17 : 0 ≤ x18_1
    rotate_left
    ·rw [if_neg c17] at H
     exact absurd H (by simp)
    rw [if_pos c17] at H
    have c17b0 := decide_eq_true c17
    clear c17
    by_cases c18 : x18_1 < (t374.length : Int)
    rotate_left
    ·rw [if_neg c18] at H
     exact absurd H (by simp)
    rw [if_pos c18] at H
    have c18b0 := decide_eq_true c18
    clear c18
    obtain ⟨t378, A19, H⟩ := bnd_ H
    try dsimp only at H
    by_cases c20 : x3_1.length < 8796093022208
    rotate_left
    ·rw [if_neg c20] at H
     exact absurd H (by simp)
    rw [if_pos c20] at H
    have LMc20 := Aside0.mk c20
    clear c20
    obtain ⟨y379, hy_⟩ : ∃ y_ : List ByteArray, y_ = (x3_1 ++ [t378]) := ⟨_, rfl⟩
    replace H : (impl_Node_wordsOf.l0 k1 y379 t374 (t374.length : Int) (wrap64 (x18_1 + 1)) a0_0 a0_1 a0_2 a0_3 a0_4 a0_5 l0_6) = some r := yb_
    have Ny379 := Aside0.mk hy_
    clear hy_
    have H' := Aside0.mk H
    clear H
    have p377 : 0 ≤ (x18_1 : Int) := cd_
    have q377 : x18_1 < (t374.length : Int) := cd_
    obtain ⟨ad377, e377, hx377_0⟩ := Kd.at_int (Kd.R_reads' HO_16.out).2.2 x18_1 p377 q377
    cases e377
    replace p377 := eq_true p377
    replace q377 := eq_true q377
    go_wp2_with (first | (refine gl_ 66 (some 24) Tryz.func66 #[.int .i64 (rd t374 x18_1)] ?_; (with_reducible refine (impl_decimal.calls (rd t374 x18_1) t378 _ (Tab.tabB HTB_.out b14_0) A19.out).mono ?_); rintro e w21 ⟨rfl, hb⟩; refine ⟨_, rfl, ?_⟩; replace HO_3 := Aside0.mk (Kd.R_below b14_2 hb); replace HO_16 := Aside0.mk (Kd.R_below (cR_ HO_16.out) hb); replace BK366 := Aside0.mk (blk_below (g := gb366) (o := .cells #[.int .i64 a0_0, .int .i64 a0_1, .int .i64 a0_2, .int .i64 a0_3, .int .i64 a0_4, .int .i64 a0_5, .slice A0_6 l0_6.length c0_6] 36 (0, 0)) b14_1 hb); replace HB := Aside0.mk (below_step b14_0 hb); (try clear hb)) | ((with_reducible refine gate_builtin (b := .append) (xs := #[.tmp 22, .tmp 25]) rfl ?_); at_builtin; refine Kd.R_append Kd.string (w0 := w) w.heap.size rfl (.tmp 22) (.tmp 25) 46 9 (.string ⟨#[]⟩) 16 rfl Tryz.underlying46 info9 rfl (by decide) (by omega) u3 x3_1 t378 [.string t378] (fun _ => True) (fun _ => False) rfl rfl ?aP (fun _ hk => hk.elim) ?aF ?aO ?aB ?aS ?aL ?_; (case aP => exact rfl); (case aB => exact b14_0); (case aF => exact (fun _ _ => trivial)); (case aO => exact b14_2); (case aS => exact (by exact (below_size b14_0))); (case aL => exact co_ LMc20.out); intro v380 w22 ho hb hg hat; rw [← Ny379.out] at ho; replace HO_16 := Aside0.mk (Kd.R_over' (cR_ HO_16.out) (Kd.R_typed b14_2) (by decide) hg); replace BK366 := Aside0.mk (blk_grown (g := gb366) (o := .cells #[.int .i64 a0_0, .int .i64 a0_1, .int .i64 a0_2, .int .i64 a0_3, .int .i64 a0_4, .int .i64 a0_5, .slice A0_6 l0_6.length c0_6] 36 (0, 0)) b14_1 hg (Kd.R_ne HO_3.out BK366.out (by decide))); replace HB := Aside0.mk (hb); have HO381 := Aside0.mk (ho); clear HO_3; clear ho hb hg hat))
    go_roundg k1
    case measure => have := HK1.out; omega
    case rel => exact ⟨(y379), (wrap64 (x18_1 + 1)), cs_, H', ⟨co_ HK1.out⟩, ⟨cR_ HO381.out⟩, ⟨cR_ HO_16.out⟩, ⟨cO_ BK366.out⟩, ⟨cB1_ GE366.out⟩⟩
   rw [if_neg c16] at H
   have c16b0 := decide_eq_false c16
   clear c16
   have HC23 := Aside0.mk H
   clear H
   obtain ⟨_, _, _, _, _, _, _, _, _, _, _, _, _, _⟩ := cells7 BK366.out
   go_upto_if 30 with (fail)
   go_cut [30] (fun v30 wc => ∃ (kq : Nat) (x30_22 : Bool), v30 = .bool x30_22 ∧ Aside0 (impl_Node_wordsOf.j1 kq x3_1 a0_0 x30_22 a0_0 a0_1 a0_2 a0_3 a0_4 a0_5 l0_6 = some r) ∧ Aside0 (kq ≤ k1) ∧ Aside0 (Kd.R Kd.string 9 wc w.heap.size (fun _ => True) u3 x3_1) ∧ Aside0 (wc.heap[gb366]? = some (.cells #[.int .i64 a0_0, .int .i64 a0_1, .int .i64 a0_2, .int .i64 a0_3, .int .i64 a0_4, .int .i64 a0_5, (.slice A0_6 l0_6.length c0_6)] 36 (0, 0))) ∧ Aside0 (Below w.heap.size w wc))
   case first =>
    have H := HC23.out
    clear HC23
    by_cases c25 : a0_0 = 1
    ·rw [if_pos c25] at H
     have c25b0 : (a0_0 == 1) = true := beq_iff_eq.mpr c25
     have c25b1 : (a0_0 != 1) = false := bne_eq_false_iff_eq.mpr c25
     clear c25
     (first | rw [c25b0] | (simp only [i64_w, i32_w]; rw [c25b0]) | skip)
     have H' := Aside0.mk H
     clear H
     go_wp2
     go_meet
     case rel => exact ⟨_, ((a0_0 == 1)), cs_, H', ⟨q14_0⟩, ⟨cR_ HO_3.out⟩, ⟨cO_ BK366.out⟩, ⟨cB1_ GE366.out⟩⟩
    rw [if_neg c25] at H
    have c25b0 : (a0_0 == 1) = false := beq_eq_false_iff_ne.mpr c25
    have c25b1 : (a0_0 != 1) = true := bne_iff_ne.mpr c25
    (first | rw [c25b0] | (simp only [i64_w, i32_w]; rw [c25b0]) | skip)
    by_cases c26 : a0_0 = 6
    ·rw [if_pos c26] at H
     have c26b0 : (a0_0 == 6) = true := beq_iff_eq.mpr c26
     have c26b1 : (a0_0 != 6) = false := bne_eq_false_iff_eq.mpr c26
     clear c26
     have H' := Aside0.mk H
     clear H
     go_wp2
     go_meet
     case rel => exact ⟨_, ((a0_0 == 6)), cs_, H', ⟨q14_0⟩, ⟨cR_ HO_3.out⟩, ⟨cO_ BK366.out⟩, ⟨cB1_ GE366.out⟩⟩
    rw [if_neg c26] at H
    have c26b0 : (a0_0 == 6) = false := beq_eq_false_iff_ne.mpr c26
    have c26b1 : (a0_0 != 6) = true := bne_iff_ne.mpr c26
    by_cases c27 : a0_0 = 7
    ·rw [if_pos c27] at H
     have c27b0 : (a0_0 == 7) = true := beq_iff_eq.mpr c27
     have c27b1 : (a0_0 != 7) = false := bne_eq_false_iff_eq.mpr c27
     clear c27
     have H' := Aside0.mk H
     clear H
     go_wp2
     go_meet
     case rel => exact ⟨_, ((a0_0 == 7)), cs_, H', ⟨q14_0⟩, ⟨cR_ HO_3.out⟩, ⟨cO_ BK366.out⟩, ⟨cB1_ GE366.out⟩⟩
    rw [if_neg c27] at H
    have c27b0 : (a0_0 == 7) = false := beq_eq_false_iff_ne.mpr c27
    have c27b1 : (a0_0 != 7) = true := bne_iff_ne.mpr c27
    by_cases c28 : a0_0 = 8
    ·rw [if_pos c28] at H
     have c28b0 : (a0_0 == 8) = true := beq_iff_eq.mpr c28
     have c28b1 : (a0_0 != 8) = false := bne_eq_false_iff_eq.mpr c28
     clear c28
     have H' := Aside0.mk H
     clear H
     go_wp2
     go_meet
     case rel => exact ⟨_, ((a0_0 == 8)), cs_, H', ⟨q14_0⟩, ⟨cR_ HO_3.out⟩, ⟨cO_ BK366.out⟩, ⟨cB1_ GE366.out⟩⟩
    rw [if_neg c28] at H
    have c28b0 : (a0_0 == 8) = false := beq_eq_false_iff_ne.mpr c28
    have c28b1 : (a0_0 != 8) = true := bne_iff_ne.mpr c28
    by_cases c29 : a0_0 = 9
    ·rw [if_pos c29] at H
     have c29b0 : (a0_0 == 9) = true := beq_iff_eq.mpr c29
     have c29b1 : (a0_0 != 9) = false := bne_eq_false_iff_eq.mpr c29
     clear c29
     have H' := Aside0.mk H
     clear H
     go_wp2
     go_meet
     case rel => exact ⟨_, ((a0_0 == 9)), cs_, H', ⟨q14_0⟩, ⟨cR_ HO_3.out⟩, ⟨cO_ BK366.out⟩, ⟨cB1_ GE366.out⟩⟩
    rw [if_neg c29] at H
    have c29b0 : (a0_0 == 9) = false := beq_eq_false_iff_ne.mpr c29
    have c29b1 : (a0_0 != 9) = true := bne_iff_ne.mpr c29
    have H' := Aside0.mk H
    clear H
    go_wp2
    go_meet
    case rel => exact ⟨_, ((a0_0 == 10)), cs_, H', ⟨q14_0⟩, ⟨cR_ HO_3.out⟩, ⟨cO_ BK366.out⟩, ⟨cB1_ GE366.out⟩⟩
   case rest =>
    clear HC23
    try clear c16b0
    obtain ⟨kq, x30_22, rfl, HA, HJ22, HO_3, BK366, HB⟩ := hcut
    cases kq with
    | zero => exact absurd HA.out (by simp [impl_Node_wordsOf.j1])
    | succ kj22 =>
     have H := HA.out
     clear HA
     simp only [impl_Node_wordsOf.j1] at H
     by_cases c30 : x30_22 = true
     ·subst c30
      rw [if_pos rfl] at H
      obtain ⟨t382, A31, H⟩ := bnd_ H
      try dsimp only at H
      by_cases c32 : x3_1.length < 8796093022208
      ·rw [if_pos c32] at H
       have LMc32 := Aside0.mk c32
       clear c32
       obtain ⟨y383, hy_⟩ : ∃ y_ : List ByteArray, y_ = (x3_1 ++ [t382]) := ⟨_, rfl⟩
       replace H : (some y383) = some r := yb_
       have Ny383 := Aside0.mk hy_
       clear hy_
       obtain rfl := Option.some.inj H
       obtain ⟨_, _, _, _, _, _, _, _, _, _, _, _, _, _⟩ := cells7 BK366.out
       go_wp2_with (first | (refine gl_ 66 (some 40) Tryz.func66 #[.int .i64 a0_3] ?_; (with_reducible refine (impl_decimal.calls a0_3 t382 _ (Tab.tabB HTB_.out b14_0) A31.out).mono ?_); rintro e w34 ⟨rfl, hb⟩; refine ⟨_, rfl, ?_⟩; replace HO_3 := Aside0.mk (Kd.R_below b14_2 hb); replace BK366 := Aside0.mk (blk_below (g := gb366) (o := .cells #[.int .i64 a0_0, .int .i64 a0_1, .int .i64 a0_2, .int .i64 a0_3, .int .i64 a0_4, .int .i64 a0_5, .slice A0_6 l0_6.length c0_6] 36 (0, 0)) b14_1 hb); replace HB := Aside0.mk (below_step b14_0 hb); (try clear hb)) | ((with_reducible refine gate_builtin (b := .append) (xs := #[.tmp 37, .tmp 41]) rfl ?_); at_builtin; refine Kd.R_append Kd.string (w0 := w) w.heap.size rfl (.tmp 37) (.tmp 41) 46 9 (.string ⟨#[]⟩) 16 rfl Tryz.underlying46 info9 rfl (by decide) (by omega) u3 x3_1 t382 [.string t382] (fun _ => True) (fun _ => False) rfl rfl ?aP (fun _ hk => hk.elim) ?aF ?aO ?aB ?aS ?aL ?_; (case aP => exact rfl); (case aB => exact b14_0); (case aF => exact (fun _ _ => trivial)); (case aO => exact b14_2); (case aS => exact (by exact (below_size b14_0))); (case aL => exact co_ LMc32.out); intro v384 w35 ho hb hg hat; rw [← Ny383.out] at ho; replace BK366 := Aside0.mk (blk_grown (g := gb366) (o := .cells #[.int .i64 a0_0, .int .i64 a0_1, .int .i64 a0_2, .int .i64 a0_3, .int .i64 a0_4, .int .i64 a0_5, .slice A0_6 l0_6.length c0_6] 36 (0, 0)) b14_1 hg (Kd.R_ne HO_3.out BK366.out (by decide))); replace HB := Aside0.mk (hb); have HO385 := Aside0.mk (ho); clear HO_3; clear ho hb hg hat))
       go_ret
       exact ⟨_, q14_1, cR_ HO385.out, cB1_ GE366.out⟩
      rw [if_neg c32] at H
      exact absurd H (by simp)
     replace c30 := Bool.eq_false_iff.mpr c30
     subst c30
     rw [if_neg (show ¬ (false = true) by decide)] at H
     by_cases c36 : a0_0 = 2
     ·rw [if_pos c36] at H
      have c36b0 : (a0_0 == 2) = true := beq_iff_eq.mpr c36
      have c36b1 : (a0_0 != 2) = false := bne_eq_false_iff_eq.mpr c36
      clear c36
      obtain ⟨t386, A37, H⟩ := bnd_ H
      try dsimp only at H
      by_cases c38 : 0 ≤ a0_4
      rotate_left
      ·rw [if_neg c38] at H
       exact absurd H (by simp)
      rw [if_pos c38] at H
      have c38b0 := eq_true c38
      have c38b1 : decide (0 ≤ a0_4) = true := decide_eq_true c38
      clear c38
      by_cases c39 : a0_4 ≤ (wrap64 (a0_4 + 1))
      rotate_left
      ·rw [if_neg c39] at H
       exact absurd H (by simp)
      rw [if_pos c39] at H
      have c39b0 := eq_true c39
      have c39b1 : decide (a0_4 ≤ (wrap64 (a0_4 + 1))) = true := decide_eq_true c39
      by_cases c40 : (wrap64 (a0_4 + 1)) ≤ 3
      rotate_left
      ·rw [if_neg c40] at H
       exact absurd H (by simp)
      rw [if_pos c40] at H
      have c40b0 := eq_true c40
      have c40b1 : decide ((wrap64 (a0_4 + 1)) ≤ 3) = true := decide_eq_true c40
      obtain ⟨t387, A41, H⟩ := bnd_ H
      try dsimp only at H
      obtain ⟨y388, hy_⟩ : ∃ y_ : List ByteArray, y_ = (([t386, (⟨#[61, 60, 62]⟩ : ByteArray).extract (a0_4 : Int).toNat ((wrap64 (a0_4 + 1)) : Int).toNat, t387] : List ByteArray)) := ⟨_, rfl⟩
      replace H : (if x3_1.length + y388.length < 8796093022208 then (some (x3_1 ++ y388)) else (none)) = some r := yb_
      have Ny388 := Aside0.mk hy_
      clear hy_
      by_cases c42 : x3_1.length + y388.length < 8796093022208
      rotate_left
      ·rw [if_neg c42] at H
       exact absurd H (by simp)
      rw [if_pos c42] at H
      have LMc42 := Aside0.mk c42
      clear c42
      obtain ⟨y391, hy_⟩ : ∃ y_ : List ByteArray, y_ = (x3_1 ++ y388) := ⟨_, rfl⟩
      replace H : (some y391) = some r := yb_
      have Ny391 := Aside0.mk hy_
      clear hy_
      obtain rfl := Option.some.inj H
      try go_wp2
      replace HO_3 := Aside0.mk (Kd.R_drew HO_3.out)
      replace BK366 := Aside0.mk (blk_drew BK366.out)
      replace HB := Aside0.mk (below_drew1 HB.out)
      refine start_ (n := 16) (S := fun w' => w'.cell? ⟨gb366, 0, none⟩ = some (.int .i64 a0_0) ∧ w'.cell? ⟨gb366, 1, none⟩ = some (.int .i64 a0_1) ∧ w'.cell? ⟨gb366, 2, none⟩ = some (.int .i64 a0_2) ∧ w'.cell? ⟨gb366, 3, none⟩ = some (.int .i64 a0_3) ∧ w'.cell? ⟨gb366, 4, none⟩ = some (.int .i64 a0_4) ∧ w'.cell? ⟨gb366, 5, none⟩ = some (.int .i64 a0_5) ∧ w'.cell? ⟨gb366, 6, none⟩ = some (.slice A0_6 l0_6.length c0_6)) (ds := []) (bl 16 0) (by kernel_rfl) rfl rfl ⟨(blk_cell BK366.out 0).trans rfl, (blk_cell BK366.out 1).trans rfl, (blk_cell BK366.out 2).trans rfl, (blk_cell BK366.out 3).trans rfl, (blk_cell BK366.out 4).trans rfl, (blk_cell BK366.out 5).trans rfl, (blk_cell BK366.out 6).trans rfl⟩ (fun hHeld => ?_); refine with_tabW impl_Node_wordsOf.tab16 impl_Node_wordsOf.bits16 (fun HT_ HW_ => ?_)
      generalize wc.drew = w43 at HO_3 BK366 HB hHeld ⊢
      refine pv_ 0 45 (bl 16 1) ?_
      refine pv_ 1 46 (bl 16 3) ?_
      refine pv_ 4 49 (bl 16 19) ?_
      refine pv_ 6 51 (bl 16 83) ?_
      refine pv_ 10 55 (bl 16 1107) ?_
      refine tv_ 2 47 (bl 16 1111) rfl hHeld (fun w' s_ => by obtain ⟨s0, s1, s2, s3, s4, s5, s6⟩ := s_; go_simp; with_reducible rfl) ?_
      refine tv_ 5 50 (bl 16 1143) rfl hHeld (fun w' s_ => by obtain ⟨s0, s1, s2, s3, s4, s5, s6⟩ := s_; go_simp; with_reducible rfl) ?_
      refine tv_ 7 52 (bl 16 1271) rfl hHeld (fun w' s_ => by obtain ⟨s0, s1, s2, s3, s4, s5, s6⟩ := s_; go_simp; with_reducible rfl) ?_
      refine pv_ 8 53 (bl 16 1527) ?_
      refine pv_ 9 54 (bl 16 2039) ?_
      refine tv_ 11 56 (bl 16 4087) rfl hHeld (fun w' s_ => by obtain ⟨s0, s1, s2, s3, s4, s5, s6⟩ := s_; go_simp; with_reducible rfl) ?_
      refine ov_ 3 48 (bl 16 4095) (fun K hK => ?_)
      refine goes_ Tryz.func66 (by kernel_rfl) rfl #[.int .i64 a0_3] (by rfl) rfl rfl cx_ ?_
      with_reducible refine (impl_decimal.calls a0_3 t386 _ (Tab.tabB HTB_.out b14_0) A37.out).mono ?_
      rintro e w44 ⟨rfl, hb⟩
      refine ⟨_, rfl, ?_⟩
      replace HO_3 := Aside0.mk (Kd.R_below b14_2 hb)
      replace BK366 := Aside0.mk (blk_below (g := gb366) (o := .cells #[.int .i64 a0_0, .int .i64 a0_1, .int .i64 a0_2, .int .i64 a0_3, .int .i64 a0_4, .int .i64 a0_5, .slice A0_6 l0_6.length c0_6] 36 (0, 0)) b14_1 hb)
      replace HB := Aside0.mk (below_step b14_0 hb)
      (try clear hb)
      refine hK.out _ _ ⟨(blk_cell BK366.out 0).trans rfl, (blk_cell BK366.out 1).trans rfl, (blk_cell BK366.out 2).trans rfl, (blk_cell BK366.out 3).trans rfl, (blk_cell BK366.out 4).trans rfl, (blk_cell BK366.out 5).trans rfl, (blk_cell BK366.out 6).trans rfl⟩ (fun hHeld => ?_)
      clear hK K
      refine nm_ (some 48) ?_
      refine ov_ 12 57 (bl 16 8191) (fun K hK => ?_)
      refine goes_ Tryz.func66 (by kernel_rfl) rfl #[.int .i64 a0_5] (by rfl) rfl rfl cx_ ?_
      with_reducible refine (impl_decimal.calls a0_5 t387 _ (Tab.tabB HTB_.out b14_0) A41.out).mono ?_
      rintro e w45 ⟨rfl, hb⟩
      refine ⟨_, rfl, ?_⟩
      replace HO_3 := Aside0.mk (Kd.R_below b14_2 hb)
      replace BK366 := Aside0.mk (blk_below (g := gb366) (o := .cells #[.int .i64 a0_0, .int .i64 a0_1, .int .i64 a0_2, .int .i64 a0_3, .int .i64 a0_4, .int .i64 a0_5, .slice A0_6 l0_6.length c0_6] 36 (0, 0)) b14_1 hb)
      replace HB := Aside0.mk (below_step b14_0 hb)
      (try clear hb)
      refine hK.out _ _ ⟨(blk_cell BK366.out 0).trans rfl, (blk_cell BK366.out 1).trans rfl, (blk_cell BK366.out 2).trans rfl, (blk_cell BK366.out 3).trans rfl, (blk_cell BK366.out 4).trans rfl, (blk_cell BK366.out 5).trans rfl, (blk_cell BK366.out 6).trans rfl⟩ (fun hHeld => ?_)
      clear hK K
      refine nm_ (some 57) ?_
      refine ov_ 13 58 (bl 16 16383) (fun K hK => ?_)
      refine Kd.R_lit_step Kd.string _ 9 ?hg (N := 58) ?hd (xs := ([t386, (⟨#[61, 60, 62]⟩ : ByteArray).extract (a0_4 : Int).toNat ((wrap64 (a0_4 + 1)) : Int).toNat, t387] : List ByteArray)) (inner := [.string t386, .string ((⟨#[61, 60, 62]⟩ : ByteArray).extract (a0_4 : Int).toNat ((wrap64 (a0_4 + 1)) : Int).toNat), .string t387]) (ok := fun _ => True) (okp := fun _ => True) ?hr ?hp (fun _ hk => hk) trivial (Below.refl _ _) (Nat.le_refl _) (by simp) ?_; (case hd => rfl); (case hg => rfl); (case hr => first | (go_simp; done) | (go_simp; rfl)); (case hp => exact (Reps.one (show Kd.M Kd.string _ _ _ t386 [.string t386] from rfl) (Reps.one (show Kd.M Kd.string _ _ _ ((⟨#[61, 60, 62]⟩ : ByteArray).extract (a0_4 : Int).toNat ((wrap64 (a0_4 + 1)) : Int).toNat) [.string ((⟨#[61, 60, 62]⟩ : ByteArray).extract (a0_4 : Int).toNat ((wrap64 (a0_4 + 1)) : Int).toNat)] from rfl) (Reps.one (show Kd.M Kd.string _ _ _ t387 [.string t387] from rfl) (Reps.none _ _)))))
      intro v389 w46 ho47 hb hg_ hnew_
      clear hg_ hnew_
      (first | rw [← Ny388.out] at ho47 | (simp only [Int.reduceToNat] at ho47; rw [← Ny388.out] at ho47))
      have HO390 := Aside0.mk (Kd.R_lower (Kd.R_new' ho47 (Kd.R_lt b14_2)) (below_size b14_0))
      replace HO_3 := Aside0.mk (Kd.R_elder' b14_2 (Kd.R_base ho47) hb)
      replace BK366 := Aside0.mk (blk_below (g := gb366) (o := .cells #[.int .i64 a0_0, .int .i64 a0_1, .int .i64 a0_2, .int .i64 a0_3, .int .i64 a0_4, .int .i64 a0_5, .slice A0_6 l0_6.length c0_6] 36 (0, 0)) b14_1 hb)
      replace HB := Aside0.mk (below_step b14_0 hb)
      clear hb ho47
      obtain ⟨Ao49, co49, eo49⟩ := Kd.R_slice HO390.out
      (first | subst eo49 | (injection eo49 with f1_ f2_ f3_; have f4_ := f1_.symm; have f5_ := f3_.symm; clear f1_ f2_ f3_; subst f4_; subst f5_))
      refine hK.out _ _ ⟨(blk_cell BK366.out 0).trans rfl, (blk_cell BK366.out 1).trans rfl, (blk_cell BK366.out 2).trans rfl, (blk_cell BK366.out 3).trans rfl, (blk_cell BK366.out 4).trans rfl, (blk_cell BK366.out 5).trans rfl, (blk_cell BK366.out 6).trans rfl⟩ (fun hHeld => ?_)
      clear hK K
      refine nm_ (some 58) ?_
      refine ov_ 14 59 (bl 16 32767) (fun K hK => ?_)
      refine Kd.R_append_rows_step Kd.string (w0 := w) w.heap.size (by rfl) (.tmp 45) (.tmp 58) 46 9 (.string ⟨#[]⟩) 16 rfl Tryz.underlying46 info9 rfl (by decide) (by omega) u3 x3_1 y388 _ _ _ (fun k_ => some k_ ≠ (.slice Ao49 y388.length co49 : Value).ownBlock) (fun _ => False) rfl rfl ?aO ?aR (fun _ _ h => h) (fun _ h => h.elim) ?aF ?aB ?aS ?aL ?_
      (case aR => exact cC_ ((Kd.R_reads' HO390.out).2.2))
      (case aB => exact b14_0)
      (case aF => exact (by exact (fun k_ hk => Kd.fresh' (Kd.R_lt (cR_ HO390.out)) k_ hk)))
      (case aO => exact (by exact (by refine cR_ ?_; exact Kd.R_mono HO_3.out (fun _ hk => hk.2))))
      (case aS => exact (by exact (below_size b14_0)))
      (case aL => exact co_ LMc42.out)
      intro v392 w48 ho hb hg hat
      rw [← Ny391.out] at ho
      replace BK366 := Aside0.mk (blk_grown (g := gb366) (o := .cells #[.int .i64 a0_0, .int .i64 a0_1, .int .i64 a0_2, .int .i64 a0_3, .int .i64 a0_4, .int .i64 a0_5, .slice A0_6 l0_6.length c0_6] 36 (0, 0)) b14_1 hg (Kd.R_ne HO_3.out BK366.out (by decide)))
      replace HO390 := Aside0.mk (Kd.R_after (ok := (fun _ => True)) (cR_ HO390.out) hg hat)
      replace HB := Aside0.mk (hb)
      have HO393 := Aside0.mk (ho)
      clear HO_3
      clear ho hb hg hat
      refine hK.out _ _ ⟨(blk_cell BK366.out 0).trans rfl, (blk_cell BK366.out 1).trans rfl, (blk_cell BK366.out 2).trans rfl, (blk_cell BK366.out 3).trans rfl, (blk_cell BK366.out 4).trans rfl, (blk_cell BK366.out 5).trans rfl, (blk_cell BK366.out 6).trans rfl⟩ (fun hHeld => ?_)
      clear hK K
      refine nm_ (some 59) ?_
      refine pv_ 15 3 (bl 16 65535) ?_
      refine done_ (done_of HT_.out (by kernel_rfl)) ?_
      try go_wp2
      go_ret
      exact ⟨_, q14_1, by refine cR_ ?_; exact Kd.R_mono HO393.out (fun _ hk => trivial), cB1_ GE366.out⟩
     rw [if_neg c36] at H
     have c36b0 : (a0_0 == 2) = false := beq_eq_false_iff_ne.mpr c36
     have c36b1 : (a0_0 != 2) = true := bne_iff_ne.mpr c36
     by_cases c50 : a0_0 = 3
     rotate_left
     ·rw [if_neg c50] at H
      have c50b0 : (a0_0 == 3) = false := beq_eq_false_iff_ne.mpr c50
      have c50b1 : (a0_0 != 3) = true := bne_iff_ne.mpr c50
      obtain rfl := Option.some.inj H
      go_wp2
      go_ret
      exact ⟨_, q14_1, cR_ HO_3.out, cB1_ GE366.out⟩
     rw [if_pos c50] at H
     have c50b0 : (a0_0 == 3) = true := beq_iff_eq.mpr c50
     have c50b1 : (a0_0 != 3) = false := bne_eq_false_iff_eq.mpr c50
     clear c50
     have H' := Aside0.mk H
     clear H
     obtain ⟨_, _, _, _, _, _, _, _, _, _, _, _, _, _⟩ := cells7 BK366.out
     go_wp2
     go_loopg [3, 65] kj22 (fun kq v3 v65 w' => ∃ (x3_3 : List ByteArray) (x65_3 : Int), v65 = .int .i64 x65_3 ∧ Aside0 (impl_Node_wordsOf.l1 kq x3_3 l0_6 (l0_6.length : Int) x65_3 = some r) ∧ Aside0 (kq ≤ kj22) ∧ Aside0 (Kd.R Kd.string 9 w' w.heap.size (fun _ => True) v3 x3_3) ∧ Aside0 (w'.heap[gb366]? = some (.cells #[.int .i64 a0_0, .int .i64 a0_1, .int .i64 a0_2, .int .i64 a0_3, .int .i64 a0_4, .int .i64 a0_5, (.slice A0_6 l0_6.length c0_6)] 36 (0, 0))) ∧ Aside0 (Below w.heap.size w w'))
     case atStart => exact ⟨(x3_1), (0), cs_, H', ⟨Nat.le_refl _⟩, ⟨cR_ HO_3.out⟩, ⟨cO_ BK366.out⟩, ⟨cB1_ GE366.out⟩⟩
     case round =>
      clear H'
      try clear c36
      try clear c36b0
      try clear c36b1
      try clear c50b0
      try clear c50b1
      obtain ⟨x3_3, x65_3, rfl, HA, HK3, HO_3, BK366, HB⟩ := hrel
      cases gk with
      | zero => exact absurd HA.out (by simp [impl_Node_wordsOf.l1])
      | succ k3 =>
       have H := HA.out
       clear HA
       simp only [impl_Node_wordsOf.l1] at H
       by_cases c52 : x65_3 < (l0_6.length : Int)
       rotate_left
       ·rw [if_neg c52] at H
        have c52b0 := decide_eq_false c52
        clear c52
        obtain rfl := Option.some.inj H
        go_wp2
        go_ret
        exact ⟨_, q14_1, cR_ HO_3.out, cB1_ GE366.out⟩
       rw [if_pos c52] at H
       have c52b0 := decide_eq_true c52
       clear c52
       by_cases c53 : 0 ≤ x65_3
       rotate_left
       ·rw [if_neg c53] at H
        exact absurd H (by simp)
       rw [if_pos c53] at H
       have c53b0 := decide_eq_true c53
       clear c53
       by_cases c54 : x65_3 < (l0_6.length : Int)
       rotate_left
       ·rw [if_neg c54] at H
        exact absurd H (by simp)
       rw [if_pos c54] at H
       have c54b0 := decide_eq_true c54
       clear c54
       obtain ⟨t395, A55, H⟩ := bnd_ H
       try dsimp only at H
       by_cases c56 : x3_3.length < 8796093022208
       rotate_left
       ·rw [if_neg c56] at H
        exact absurd H (by simp)
       rw [if_pos c56] at H
       have LMc56 := Aside0.mk c56
       clear c56
       obtain ⟨y396, hy_⟩ : ∃ y_ : List ByteArray, y_ = (x3_3 ++ [t395]) := ⟨_, rfl⟩
       replace H : (impl_Node_wordsOf.l1 k3 y396 l0_6 (l0_6.length : Int) (wrap64 (x65_3 + 1))) = some r := yb_
       have Ny396 := Aside0.mk hy_
       clear hy_
       have H' := Aside0.mk H
       clear H
       have p394 : 0 ≤ (x65_3 : Int) := cd_
       have q394 : x65_3 < (l0_6.length : Int) := cd_
       obtain ⟨ad394, e394, hx394_0⟩ := Kd.at_int HR0_6.out x65_3 p394 q394
       cases e394
       replace hx394_0 := pw_cell_below HB.out hx394_0
       replace p394 := eq_true p394
       replace q394 := eq_true q394
       go_wp2_with (first | (refine gl_ 66 (some 71) Tryz.func66 #[.int .i64 (rd l0_6 x65_3)] ?_; (with_reducible refine (impl_decimal.calls (rd l0_6 x65_3) t395 _ (Tab.tabB HTB_.out b14_0) A55.out).mono ?_); rintro e w57 ⟨rfl, hb⟩; refine ⟨_, rfl, ?_⟩; replace HO_3 := Aside0.mk (Kd.R_below b14_2 hb); replace BK366 := Aside0.mk (blk_below (g := gb366) (o := .cells #[.int .i64 a0_0, .int .i64 a0_1, .int .i64 a0_2, .int .i64 a0_3, .int .i64 a0_4, .int .i64 a0_5, .slice (some ad394) l0_6.length c0_6] 36 (0, 0)) b14_1 hb); replace HB := Aside0.mk (below_step b14_0 hb); (try clear hb)) | ((with_reducible refine gate_builtin (b := .append) (xs := #[.tmp 69, .tmp 72]) rfl ?_); at_builtin; refine Kd.R_append Kd.string (w0 := w) w.heap.size rfl (.tmp 69) (.tmp 72) 46 9 (.string ⟨#[]⟩) 16 rfl Tryz.underlying46 info9 rfl (by decide) (by omega) u3 x3_3 t395 [.string t395] (fun _ => True) (fun _ => False) rfl rfl ?aP (fun _ hk => hk.elim) ?aF ?aO ?aB ?aS ?aL ?_; (case aP => exact rfl); (case aB => exact b14_0); (case aF => exact (fun _ _ => trivial)); (case aO => exact b14_2); (case aS => exact (by exact (below_size b14_0))); (case aL => exact co_ LMc56.out); intro v397 w58 ho hb hg hat; rw [← Ny396.out] at ho; replace BK366 := Aside0.mk (blk_grown (g := gb366) (o := .cells #[.int .i64 a0_0, .int .i64 a0_1, .int .i64 a0_2, .int .i64 a0_3, .int .i64 a0_4, .int .i64 a0_5, .slice (some ad394) l0_6.length c0_6] 36 (0, 0)) b14_1 hg (Kd.R_ne HO_3.out BK366.out (by decide))); replace HB := Aside0.mk (hb); have HO398 := Aside0.mk (ho); clear HO_3; clear ho hb hg hat))
       go_roundg k3
       case measure => have := HK1.out; have := HJ22.out; have := HK3.out; omega
       case rel => exact ⟨(y396), (wrap64 (x65_3 + 1)), cs_, H', ⟨by have := HK1.out; have := HJ22.out; have := HK3.out; omega⟩, ⟨cR_ HO398.out⟩, ⟨cO_ BK366.out⟩, ⟨cB1_ GE366.out⟩⟩

end Go.Proofs.YteibdjkfkcckkaaGreatDoor.PFnPlans
