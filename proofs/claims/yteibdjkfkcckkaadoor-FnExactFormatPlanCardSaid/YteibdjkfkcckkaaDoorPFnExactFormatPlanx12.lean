-- Written by fprint, a program of this session, out of Lean's own print of the translation. Lean checks it.
import Derived.Test.YteibdjkfkcckkaaDoorShort
import Derived.Test.YteibdjkfkcckkaaDoorPFnExactFormatPlanx0
import Derived.Test.YteibdjkfkcckkaaDoorPFnExactFormatPlanx9
import Derived.Test.YteibdjkfkcckkaaDoorPFnExactFormatPlanx11
namespace Go.Proofs.YteibdjkfkcckkaaDoor.PFnExactFormatPlan
open Go.RowKit Go.Proofs.YteibdjkfkcckkaaDoorW.PrintWords Go.Proofs.YteibdjkfkcckkaaDoorW.PrintLast Go.Proofs.YteibdjkfkcckkaaDoorW.PrintMore
attribute [local go_sem] max2_int min2_int max_two min_two max_three min_three max_four min_four   -- for this text's walks alone
set_option linter.unusedVariables false
set_option linter.unusedSimpArgs false

theorem b12_0 {p : Prop} (h : p := by repeat (first | (with_reducible first | exact HB.out | apply below_alloc | apply pw_below_drewN | apply below_drew1 | refine below_set ?_ GE296.out) | exact HB.out)) : p := h
theorem b12_1 {p : Prop} (h : p := by (with_reducible repeat (first | refine blk_drewN ?_ _ | refine blk_drew ?_ | refine blk_alloc ?_ _)); exact BK296.out) : p := h
theorem b12_2 {p : Prop} (h : p := by (with_reducible repeat (first | apply Kd.R_alloc | apply Kd.R_drewN | apply Kd.R_drew)); exact HO_3.out) : p := h
theorem b12_3 {p : Prop} (h : p := by (try simp only [List.map_toArray, List.map_cons, List.map_nil]); first | done | rfl | (simp only [List.length_drop, List.length_take]; rfl)) : p := h
/-! ### impl_Node_wordsOf: function 23 -/
mutual
def impl_Node_wordsOf.l0 : Nat → List ByteArray → List Int → Int → Int → Int → Int → Int → Int → Int → Int → List Int → Option (List ByteArray)
 | 0, _, _, _, _, _, _, _, _, _, _, _ => none
 | k + 1, x3, x16, x17, x18, x297000, x297001, x297002, x297003, x297004, x297005, x297006 => if x18 < x17 then (if 0 ≤ x18 then (if x18 < (x16.length : Int) then ((impl_decimal.f (rd x16 x18)).bind fun t308 => (if x3.length < 8796093022208 then (impl_Node_wordsOf.l0 k (x3 ++ [t308]) x16 x17 (wrap64 (x18 + 1)) x297000 x297001 x297002 x297003 x297004 x297005 x297006) else (none))) else (none)) else (none)) else (if x297000 = 1 then (impl_Node_wordsOf.j1 k x3 x297000 (x297000 == 1) x297000 x297001 x297002 x297003 x297004 x297005 x297006) else (if x297000 = 6 then (impl_Node_wordsOf.j1 k x3 x297000 (x297000 == 6) x297000 x297001 x297002 x297003 x297004 x297005 x297006) else (if x297000 = 7 then (impl_Node_wordsOf.j1 k x3 x297000 (x297000 == 7) x297000 x297001 x297002 x297003 x297004 x297005 x297006) else (if x297000 = 8 then (impl_Node_wordsOf.j1 k x3 x297000 (x297000 == 8) x297000 x297001 x297002 x297003 x297004 x297005 x297006) else (if x297000 = 9 then (impl_Node_wordsOf.j1 k x3 x297000 (x297000 == 9) x297000 x297001 x297002 x297003 x297004 x297005 x297006) else (impl_Node_wordsOf.j1 k x3 x297000 (x297000 == 10) x297000 x297001 x297002 x297003 x297004 x297005 x297006))))))
def impl_Node_wordsOf.j1 : Nat → List ByteArray → Int → Bool → Int → Int → Int → Int → Int → Int → List Int → Option (List ByteArray)
 | 0, _, _, _, _, _, _, _, _, _, _ => none
 | k + 1, x3, x29, x30, x297000, x297001, x297002, x297003, x297004, x297005, x297006 => if x30 = true then ((impl_decimal.f x297003).bind fun t312 => (if x3.length < 8796093022208 then (some (x3 ++ [t312])) else (none))) else (if x29 = 2 then ((impl_decimal.f x297003).bind fun t316 => (if 0 ≤ x297004 then (if x297004 ≤ (wrap64 (x297004 + 1)) then (if (wrap64 (x297004 + 1)) ≤ 3 then ((impl_decimal.f x297005).bind fun t317 => ((some (([t316, (⟨#[61, 60, 62]⟩ : ByteArray).extract (x297004 : Int).toNat ((wrap64 (x297004 + 1)) : Int).toNat, t317] : List ByteArray) : List ByteArray)).bind fun y318 => (if x3.length + y318.length < 8796093022208 then (some (x3 ++ y318)) else (none)))) else (none)) else (none)) else (none))) else (if x29 = 3 then (impl_Node_wordsOf.l1 k x3 x297006 (x297006.length : Int) 0) else (some x3)))
def impl_Node_wordsOf.l1 : Nat → List ByteArray → List Int → Int → Int → Option (List ByteArray)
 | 0, _, _, _, _ => none
 | k + 1, x3, x63, x64, x65 => if x65 < x64 then (if 0 ≤ x65 then (if x65 < (x63.length : Int) then ((impl_decimal.f (rd x63 x65)).bind fun t325 => (if x3.length < 8796093022208 then (impl_Node_wordsOf.l1 k (x3 ++ [t325]) x63 x64 (wrap64 (x65 + 1))) else (none))) else (none)) else (none)) else (some x3)
end
def impl_Node_wordsOf.f (k : Nat) (a0_0 : Int) (a0_1 : Int) (a0_2 : Int) (a0_3 : Int) (a0_4 : Int) (a0_5 : Int) (l0_6 : List Int) : Option (List ByteArray) := (strings_Split.f (⟨#[105, 110, 112, 117, 116, 32, 102, 105, 108, 116, 101, 114, 32, 112, 114, 111, 106, 101, 99, 116, 32, 117, 110, 105, 111, 110, 32, 110, 101, 103, 97, 116, 101, 32, 106, 111, 105, 110, 32, 99, 111, 117, 110, 116, 32, 115, 117, 109, 32, 108, 101, 97, 115, 116, 32, 109, 111, 115, 116, 32, 100, 105, 115, 116, 105, 110, 99, 116, 32, 118, 105, 101, 119]⟩ : ByteArray) (⟨#[32]⟩ : ByteArray)).bind fun t297 => (if 0 ≤ (wrap64 (a0_0 - 1)) then (if (wrap64 (a0_0 - 1)) < (t297.length : Int) then ((impl_Node_reads.f a0_0 a0_1 a0_2 a0_3 a0_4 a0_5 l0_6).bind fun t304 => (impl_Node_wordsOf.l0 k (([rdOf ByteArray.empty t297 (wrap64 (a0_0 - 1))] : List ByteArray)) t304 (t304.length : Int) 0 a0_0 a0_1 a0_2 a0_3 a0_4 a0_5 l0_6)) else (none)) else (none))
theorem impl_Node_wordsOf.mono_l : ∀ k, (∀ y0 y1 y2 y3 y4 y5 y6 y7 y8 y9 y10, LeO (impl_Node_wordsOf.l0 k y0 y1 y2 y3 y4 y5 y6 y7 y8 y9 y10) (impl_Node_wordsOf.l0 (k + 1) y0 y1 y2 y3 y4 y5 y6 y7 y8 y9 y10)) ∧ (∀ y0 y1 y2 y3 y4 y5 y6 y7 y8 y9, LeO (impl_Node_wordsOf.j1 k y0 y1 y2 y3 y4 y5 y6 y7 y8 y9) (impl_Node_wordsOf.j1 (k + 1) y0 y1 y2 y3 y4 y5 y6 y7 y8 y9)) ∧ (∀ y0 y1 y2 y3, LeO (impl_Node_wordsOf.l1 k y0 y1 y2 y3) (impl_Node_wordsOf.l1 (k + 1) y0 y1 y2 y3))
 | 0 => ⟨fun _ _ _ _ _ _ _ _ _ _ _ r h => by simp [impl_Node_wordsOf.l0] at h, fun _ _ _ _ _ _ _ _ _ _ r h => by simp [impl_Node_wordsOf.j1] at h, fun _ _ _ _ r h => by simp [impl_Node_wordsOf.l1] at h⟩
 | k + 1 => by
  obtain ⟨ih0, ih1, ih2⟩ := impl_Node_wordsOf.mono_l k
  refine ⟨?_, ?_, ?_⟩
  ·intro y0 y1 y2 y3 y4 y5 y6 y7 y8 y9 y10
   unfold impl_Node_wordsOf.l0
   repeat' first
   | (with_reducible exact ih0 _ _ _ _ _ _ _ _ _ _ _)
   | (with_reducible exact ih1 _ _ _ _ _ _ _ _ _ _)
   | (with_reducible exact ih2 _ _ _ _)
   | (with_reducible exact LeO.refl _)
   | (with_reducible exact LeO.none _)
   | (with_reducible refine LeO.ite ?_ ?_)
   | (with_reducible refine LeO.bind ?_ (fun _ => ?_))
   | exact ih0 _ _ _ _ _ _ _ _ _ _ _
   | exact ih1 _ _ _ _ _ _ _ _ _ _
   | exact ih2 _ _ _ _
   | exact LeO.none _
   | refine LeO.ite ?_ ?_
   | refine LeO.bind ?_ (fun _ => ?_)
  ·intro y0 y1 y2 y3 y4 y5 y6 y7 y8 y9
   unfold impl_Node_wordsOf.j1
   repeat' first
   | (with_reducible exact ih0 _ _ _ _ _ _ _ _ _ _ _)
   | (with_reducible exact ih1 _ _ _ _ _ _ _ _ _ _)
   | (with_reducible exact ih2 _ _ _ _)
   | (with_reducible exact LeO.refl _)
   | (with_reducible exact LeO.none _)
   | (with_reducible refine LeO.ite ?_ ?_)
   | (with_reducible refine LeO.bind ?_ (fun _ => ?_))
   | exact ih0 _ _ _ _ _ _ _ _ _ _ _
   | exact ih1 _ _ _ _ _ _ _ _ _ _
   | exact ih2 _ _ _ _
   | exact LeO.none _
   | refine LeO.ite ?_ ?_
   | refine LeO.bind ?_ (fun _ => ?_)
  ·intro y0 y1 y2 y3
   unfold impl_Node_wordsOf.l1
   repeat' first
   | (with_reducible exact ih0 _ _ _ _ _ _ _ _ _ _ _)
   | (with_reducible exact ih1 _ _ _ _ _ _ _ _ _ _)
   | (with_reducible exact ih2 _ _ _ _)
   | (with_reducible exact LeO.refl _)
   | (with_reducible exact LeO.none _)
   | (with_reducible refine LeO.ite ?_ ?_)
   | (with_reducible refine LeO.bind ?_ (fun _ => ?_))
   | exact ih0 _ _ _ _ _ _ _ _ _ _ _
   | exact ih1 _ _ _ _ _ _ _ _ _ _
   | exact ih2 _ _ _ _
   | exact LeO.none _
   | refine LeO.ite ?_ ?_
   | refine LeO.bind ?_ (fun _ => ?_)
theorem impl_Node_wordsOf.mono : ∀ a0 a1 a2 a3 a4 a5 a6 k, LeO (impl_Node_wordsOf.f k a0 a1 a2 a3 a4 a5 a6) (impl_Node_wordsOf.f (k + 1) a0 a1 a2 a3 a4 a5 a6) := by
 intro a0 a1 a2 a3 a4 a5 a6 k
 obtain ⟨ih0, ih1, ih2⟩ := impl_Node_wordsOf.mono_l k
 unfold impl_Node_wordsOf.f
 repeat' first
   | (with_reducible exact ih0 _ _ _ _ _ _ _ _ _ _ _)
   | (with_reducible exact ih1 _ _ _ _ _ _ _ _ _ _)
   | (with_reducible exact ih2 _ _ _ _)
   | (with_reducible exact LeO.refl _)
   | (with_reducible exact LeO.none _)
   | (with_reducible refine LeO.ite ?_ ?_)
   | (with_reducible refine LeO.bind ?_ (fun _ => ?_))
   | exact ih0 _ _ _ _ _ _ _ _ _ _ _
   | exact ih1 _ _ _ _ _ _ _ _ _ _
   | exact ih2 _ _ _ _
   | exact LeO.none _
   | refine LeO.ite ?_ ?_
   | refine LeO.bind ?_ (fun _ => ?_)
def impl_Node_wordsOf.T1 : Bool × List (List Nat × List Nat) := (true, [([], []), ([], []), ([1], [1]), ([2], [2]), ([0, 3], [0, 3]), ([4], [4]), ([5], [5]), ([6, 0, 0, 1, 2, 3, 4, 5, 6], [6])])
def impl_Node_wordsOf.B1 : List Nat := [0, 0, 2, 6, 15, 31, 63, 127]
theorem impl_Node_wordsOf.tab1 : rtab .any (opsOf Tryd.f23 1) = impl_Node_wordsOf.T1 := by kernel_rfl
theorem impl_Node_wordsOf.bits1 : waitsOk impl_Node_wordsOf.T1.2 impl_Node_wordsOf.B1 = true := by kernel_rfl
def impl_Node_wordsOf.T16 : Bool × List (List Nat × List Nat) := (true, [([], []), ([], []), ([1], [1]), ([2], [2]), ([], []), ([4], [4]), ([], []), ([6], [6]), ([7], [7]), ([5, 8], [5, 8]), ([], []), ([10], [10]), ([11, 3], [11]), ([3, 9, 12], [3, 9, 12]), ([0, 13, 12], [0, 13]), ([14, 14, 0, 1, 2, 3, 4, 5, 6, 7, 8, 9, 10, 11, 12, 13, 14], [0, 14])])
def impl_Node_wordsOf.B16 : List Nat := [0, 0, 2, 6, 0, 16, 0, 64, 192, 496, 0, 1024, 3086, 8190, 16383, 32767]
theorem impl_Node_wordsOf.tab16 : rtab .any (opsOf Tryd.f23 16) = impl_Node_wordsOf.T16 := by kernel_rfl
theorem impl_Node_wordsOf.bits16 : waitsOk impl_Node_wordsOf.T16.2 impl_Node_wordsOf.B16 = true := by kernel_rfl
set_option maxHeartbeats 8000000 in
set_option maxRecDepth 100000 in
theorem impl_Node_wordsOf.calls (k : Nat) (a0_0 : Int) (a0_1 : Int) (a0_2 : Int) (a0_3 : Int) (a0_4 : Int) (a0_5 : Int) (A0_6 : Option Addr) (c0_6 : Nat) (l0_6 : List Int) (r : List ByteArray) (w : World) (hr0_6 : Kd.C (Kd.int .i64) w A0_6 l0_6.length l0_6) (hc0_6 : l0_6.length ≤ c0_6) (htab_ : Tab.Tab w) (h : impl_Node_wordsOf.f k a0_0 a0_1 a0_2 a0_3 a0_4 a0_5 l0_6 = some r) :
  Calls Tryd.prog 23 #[.agg #[.int .i64 a0_0, .int .i64 a0_1, .int .i64 a0_2, .int .i64 a0_3, .int .i64 a0_4, .int .i64 a0_5, .slice A0_6 l0_6.length c0_6]] w fun e w' => ∃ v0_ : Value, e = .returned (v0_) ∧ Kd.R Kd.string 9 w' w.heap.size (fun _ => True) v0_ r ∧ Below w.heap.size w w' := by
 have HTB_ := Aside0.mk htab_
 clear htab_
 have hu35 := Tryd.underlying35
 have HR0_6 := Aside0.mk hr0_6
 have HC0_6 := Aside0.mk hc0_6
 clear hr0_6 hc0_6
 have HB := Aside0.mk (Below.refl w.heap.size w)
 have H : ((strings_Split.f (⟨#[105, 110, 112, 117, 116, 32, 102, 105, 108, 116, 101, 114, 32, 112, 114, 111, 106, 101, 99, 116, 32, 117, 110, 105, 111, 110, 32, 110, 101, 103, 97, 116, 101, 32, 106, 111, 105, 110, 32, 99, 111, 117, 110, 116, 32, 115, 117, 109, 32, 108, 101, 97, 115, 116, 32, 109, 111, 115, 116, 32, 100, 105, 115, 116, 105, 110, 99, 116, 32, 118, 105, 101, 119]⟩ : ByteArray) (⟨#[32]⟩ : ByteArray)).bind fun t297 => (if 0 ≤ (wrap64 (a0_0 - 1)) then (if (wrap64 (a0_0 - 1)) < (t297.length : Int) then ((impl_Node_reads.f a0_0 a0_1 a0_2 a0_3 a0_4 a0_5 l0_6).bind fun t304 => (impl_Node_wordsOf.l0 k (([rdOf ByteArray.empty t297 (wrap64 (a0_0 - 1))] : List ByteArray)) t304 (t304.length : Int) 0 a0_0 a0_1 a0_2 a0_3 a0_4 a0_5 l0_6)) else (none)) else (none))) = some r := h
 clear h
 replace H := Option.bind_eq_some_iff.mp H
 obtain ⟨t297, A20, H⟩ := H
 replace H : (if 0 ≤ (wrap64 (a0_0 - 1)) then (if (wrap64 (a0_0 - 1)) < (t297.length : Int) then ((impl_Node_reads.f a0_0 a0_1 a0_2 a0_3 a0_4 a0_5 l0_6).bind fun t304 => (impl_Node_wordsOf.l0 k (([rdOf ByteArray.empty t297 (wrap64 (a0_0 - 1))] : List ByteArray)) t304 (t304.length : Int) 0 a0_0 a0_1 a0_2 a0_3 a0_4 a0_5 l0_6)) else (none)) else (none)) = some r := H
 have A2 := Aside0.mk A20
 clear A20
 obtain ⟨ji3, hji3⟩ : ∃ j_ : Int, (wrap64 (a0_0 - 1)) = j_ := ⟨_, rfl⟩
 replace H : (if 0 ≤ (ji3) then (if (ji3) < (t297.length : Int) then ((impl_Node_reads.f a0_0 a0_1 a0_2 a0_3 a0_4 a0_5 l0_6).bind fun t304 => (impl_Node_wordsOf.l0 k (([rdOf ByteArray.empty t297 (ji3)] : List ByteArray)) t304 (t304.length : Int) 0 a0_0 a0_1 a0_2 a0_3 a0_4 a0_5 l0_6)) else (none)) else (none)) = some r := by first | (rw [hji3] at H; exact H) | (simp only [hji3] at H ⊢; exact H)
 (try rw [hji3] at A2)
 have hji3w : (IntKind.i64.wrap (a0_0 - 1)) = ji3 := (i64_w _).trans hji3
 by_cases c4 : 0 ≤ (ji3)
 ·rw [if_pos c4] at H
  have c4b0 : decide (0 ≤ (ji3)) = true := decide_eq_true c4
  clear c4
  by_cases c5 : (ji3) < (t297.length : Int)
  ·rw [if_pos c5] at H
   have c5b0 : decide ((ji3) < (t297.length : Int)) = true := decide_eq_true c5
   clear c5
   obtain ⟨y301, hy301⟩ : ∃ y_ : List ByteArray, y_ = (([rdOf ByteArray.empty t297 (ji3)] : List ByteArray)) := ⟨_, rfl⟩
   replace H : ((impl_Node_reads.f a0_0 a0_1 a0_2 a0_3 a0_4 a0_5 l0_6).bind fun t304 => (impl_Node_wordsOf.l0 k y301 t304 (t304.length : Int) 0 a0_0 a0_1 a0_2 a0_3 a0_4 a0_5 l0_6)) = some r := by first | (rw [hy301]; with_reducible exact H) | (have H2_ := (Option.bind_some _ _).symm.trans H; rw [hy301]; with_reducible exact H2_) | (have H2_ := (Option.bind_some _ _).symm.trans H; with_reducible exact H2_) | with_reducible exact H | (rw [hy301]; exact H) | exact H
   have Ny301 := Aside0.mk hy301
   clear hy301
   replace H := Option.bind_eq_some_iff.mp H
   obtain ⟨t304, A60, H⟩ := H
   replace H : (impl_Node_wordsOf.l0 k y301 t304 (t304.length : Int) 0 a0_0 a0_1 a0_2 a0_3 a0_4 a0_5 l0_6) = some r := H
   have A6 := Aside0.mk A60
   clear A60
   have H' := Aside0.mk H
   clear H
   go_enter Tryd.func23, Tryd.ntmps23
   try go_wp2_with (first | ((with_reducible refine gate_dst (N := 1) rfl ?_); refine box_event ?hg (N := 1) ?hd (cs := #[.int .i64 a0_0, .int .i64 a0_1, .int .i64 a0_2, .int .i64 a0_3, .int .i64 a0_4, .int .i64 a0_5, .slice A0_6 l0_6.length c0_6]) (t := 35) ?hr ?_; (case hd => rfl); (case hg => rfl); (case hr => first | (go_simp; done) | (go_simp; rfl)); intro gb296 hg w7 hbox hb; have n0_ := Aside0.mk (below_step (by repeat (first | (with_reducible first | exact HB.out | apply below_alloc | apply pw_below_drewN | apply below_drew1) | exact HB.out)) hb); have n1_ := Aside0.mk (hbox); have n2_ := Aside0.mk ((by rw [hg]; exact (below_size (by repeat (first | (with_reducible first | exact HB.out | apply below_alloc | apply pw_below_drewN | apply below_drew1) | exact HB.out))) : w.heap.size ≤ gb296)); have n3_ := Aside0.mk ((by rw [hg]; exact (below_size (by repeat (first | (with_reducible first | exact HB.out | apply below_alloc | apply pw_below_drewN | apply below_drew1) | exact HB.out))) : w.heap.size ≤ gb296)); clear HB; have HB := n0_; have BK296 := n1_; have GW296 := n2_; have GE296 := n3_; clear n0_ n1_ n2_ n3_; clear hb hbox hg))
   have n0_ := Aside0.mk (blk_drew BK296.out)
   have n1_ := Aside0.mk (below_drew1 HB.out)
   clear BK296
   clear HB
   have BK296 := n0_
   have HB := n1_
   clear n0_ n1_
   refine start_ (n := 8) (S := fun w' => w'.cell? ⟨gb296, 0, none⟩ = some (.int .i64 a0_0) ∧ w'.cell? ⟨gb296, 1, none⟩ = some (.int .i64 a0_1) ∧ w'.cell? ⟨gb296, 2, none⟩ = some (.int .i64 a0_2) ∧ w'.cell? ⟨gb296, 3, none⟩ = some (.int .i64 a0_3) ∧ w'.cell? ⟨gb296, 4, none⟩ = some (.int .i64 a0_4) ∧ w'.cell? ⟨gb296, 5, none⟩ = some (.int .i64 a0_5) ∧ w'.cell? ⟨gb296, 6, none⟩ = some (.slice A0_6 l0_6.length c0_6)) (ds := []) (bl 8 0) (by kernel_rfl) rfl rfl ⟨(blk_cell BK296.out 0).trans rfl, (blk_cell BK296.out 1).trans rfl, (blk_cell BK296.out 2).trans rfl, (blk_cell BK296.out 3).trans rfl, (blk_cell BK296.out 4).trans rfl, (blk_cell BK296.out 5).trans rfl, (blk_cell BK296.out 6).trans rfl⟩ (fun hHeld => ?_); refine with_tabW impl_Node_wordsOf.tab1 impl_Node_wordsOf.bits1 (fun HT_ HW_ => ?_)
   generalize w7.drew = w8 at BK296 HB hHeld ⊢
   refine pu_ 1 (some 9) (bl 8 2) HT_.out rfl ?_
   refine tw_ 2 (some 10) (bl 8 6) HT_.out HW_.out rfl hHeld (fun w' s_ => by obtain ⟨s0, s1, s2, s3, s4, s5, s6⟩ := s_; go_simp; with_reducible rfl) ?_
   refine pu_ 3 (some 11) (bl 8 14) HT_.out rfl ?_
   refine on_ 0 (some 8) (bl 8 15) HT_.out rfl (fun K hK => ?_)
   refine goes_ Tryd.func41 (by kernel_rfl) rfl #[.string (⟨#[105, 110, 112, 117, 116, 32, 102, 105, 108, 116, 101, 114, 32, 112, 114, 111, 106, 101, 99, 116, 32, 117, 110, 105, 111, 110, 32, 110, 101, 103, 97, 116, 101, 32, 106, 111, 105, 110, 32, 99, 111, 117, 110, 116, 32, 115, 117, 109, 32, 108, 101, 97, 115, 116, 32, 109, 111, 115, 116, 32, 100, 105, 115, 116, 105, 110, 99, 116, 32, 118, 105, 101, 119]⟩ : ByteArray), .string (⟨#[32]⟩ : ByteArray)] (by rfl) rfl rfl b12_3 ?_
   with_reducible refine (strings_Split.calls (⟨#[105, 110, 112, 117, 116, 32, 102, 105, 108, 116, 101, 114, 32, 112, 114, 111, 106, 101, 99, 116, 32, 117, 110, 105, 111, 110, 32, 110, 101, 103, 97, 116, 101, 32, 106, 111, 105, 110, 32, 99, 111, 117, 110, 116, 32, 115, 117, 109, 32, 108, 101, 97, 115, 116, 32, 109, 111, 115, 116, 32, 100, 105, 115, 116, 105, 110, 99, 116, 32, 118, 105, 101, 119]⟩ : ByteArray) (⟨#[32]⟩ : ByteArray) t297 _ (Tab.tabB HTB_.out b12_0) A2.out).mono ?_
   rintro e w9 ⟨v298, rfl, ho0, hb⟩
   skip
   refine ⟨_, rfl, ?_⟩
   have n0_ := Aside0.mk (Kd.R_lower ho0 (below_size b12_0))
   have n1_ := Aside0.mk (blk_below (g := gb296) (o := .cells #[.int .i64 a0_0, .int .i64 a0_1, .int .i64 a0_2, .int .i64 a0_3, .int .i64 a0_4, .int .i64 a0_5, .slice A0_6 l0_6.length c0_6] 35 (0, 0)) b12_1 hb)
   have n2_ := Aside0.mk (below_step b12_0 hb)
   clear BK296
   clear HB
   have HO299 := n0_
   have BK296 := n1_
   have HB := n2_
   clear n0_ n1_ n2_
   (try clear hb)
   (try clear hb2)
   (try clear hk)
   (try clear hi)
   (try clear ho0)
   obtain ⟨Ao10, co10, eo10⟩ := Kd.R_slice HO299.out
   (first | subst eo10 | (injection eo10 with f1_ f2_ f3_; have f4_ := f1_.symm; have f5_ := f3_.symm; clear f1_ f2_ f3_; subst f4_; subst f5_))
   have p300 : 0 ≤ ((ji3) : Int) := of_decide_eq_true (by first | (with_reducible assumption) | assumption)
   have q300 : (ji3) < (t297.length : Int) := of_decide_eq_true (by first | (with_reducible assumption) | assumption)
   obtain ⟨ad300, e300, hx300_0⟩ := Kd.at_string (Kd.R_reads' HO299.out).2.2 (ji3) p300 q300
   cases e300
   replace p300 := eq_true p300
   replace q300 := eq_true q300
   refine hK.out _ _ ⟨(blk_cell BK296.out 0).trans rfl, (blk_cell BK296.out 1).trans rfl, (blk_cell BK296.out 2).trans rfl, (blk_cell BK296.out 3).trans rfl, (blk_cell BK296.out 4).trans rfl, (blk_cell BK296.out 5).trans rfl, (blk_cell BK296.out 6).trans rfl⟩ (fun hHeld => ?_)
   clear hK K
   refine norm_ (a' := ?_) ?_ ?_
   rotate_left
   ·show Act.put _ (some 8) _ = _
    simp only [Act.put, List.setIfInBounds_toArray, List.set_cons_zero, List.set_cons_succ, i64_w, i32_w]
    rfl
   refine pu_ 4 (some 12) (bl 8 31) HT_.out rfl ?_
   refine Tab.lone_ (S' := fun w' => w'.cell? (ad300.add ((ji3)).toNat) = some (.string (rdOf ByteArray.empty t297 (ji3)))) (i := 5) (N := some 13) (v := ?_) (a' := ?_) (bl 8 63) rfl rfl (one_of HT_.out (by kernel_rfl)) (Or.inl ⟨by rfl, ?_⟩) hx300_0 ?_ ?_
   rotate_left
   ·rintro w' s7
    go_simp
    with_reducible rfl
   rotate_left
   ·simp only [Act.put, List.setIfInBounds_toArray, List.set_cons_zero, List.set_cons_succ, i64_w, i32_w]
    rfl
   refine on_ 6 (some 14) (bl 8 127) HT_.out rfl (fun K hK => ?_)
   refine Kd.R_lit_step Kd.string _ 9 ?hg (N := 14) ?hd (xs := ([rdOf ByteArray.empty t297 (ji3)] : List ByteArray)) (inner := [.string (rdOf ByteArray.empty t297 (ji3))]) (ok := fun _ => True) (okp := fun _ => True) ?hr ?hp (fun _ hk => hk) trivial (Below.refl _ _) (Nat.le_refl _) (by simp) ?_; (case hd => rfl); (case hg => rfl); (case hr => first | (go_simp; done) | (go_simp; rfl)); (case hp => exact (Reps.one (show Kd.M Kd.string _ _ _ (rdOf ByteArray.empty t297 (ji3)) [.string (rdOf ByteArray.empty t297 (ji3))] from rfl) (Reps.none _ _)))
   intro v302 w11 ho12 hb hg_ hnew_
   skip
   clear hg_ hnew_
   (first | rw [← Ny301.out] at ho12 | (simp only [Int.reduceToNat] at ho12; rw [← Ny301.out] at ho12))
   have n0_ := Aside0.mk (Kd.R_elder' (by (with_reducible repeat (first | apply Kd.R_alloc | apply Kd.R_drewN | apply Kd.R_drew)); exact HO299.out) (Kd.R_base ho12) hb)
   have n1_ := Aside0.mk (Kd.R_lower (Kd.R_new' ho12 (Kd.R_lt (by (with_reducible repeat (first | apply Kd.R_alloc | apply Kd.R_drewN | apply Kd.R_drew)); exact HO299.out))) (below_size b12_0))
   have n2_ := Aside0.mk (blk_below (g := gb296) (o := .cells #[.int .i64 a0_0, .int .i64 a0_1, .int .i64 a0_2, .int .i64 a0_3, .int .i64 a0_4, .int .i64 a0_5, .slice A0_6 l0_6.length c0_6] 35 (0, 0)) b12_1 hb)
   have n3_ := Aside0.mk (below_step b12_0 hb)
   clear HO299
   clear BK296
   clear HB
   have HO299 := n0_
   have HO303 := n1_
   have BK296 := n2_
   have HB := n3_
   clear n0_ n1_ n2_ n3_
   clear hb ho12
   refine hK.out _ _ ⟨(blk_cell BK296.out 0).trans rfl, (blk_cell BK296.out 1).trans rfl, (blk_cell BK296.out 2).trans rfl, (blk_cell BK296.out 3).trans rfl, (blk_cell BK296.out 4).trans rfl, (blk_cell BK296.out 5).trans rfl, (blk_cell BK296.out 6).trans rfl⟩ (fun hHeld => ?_)
   clear hK K
   refine norm_ (a' := ?_) ?_ ?_
   rotate_left
   ·show Act.put _ (some 14) _ = _
    simp only [Act.put, List.setIfInBounds_toArray, List.set_cons_zero, List.set_cons_succ, i64_w, i32_w]
    rfl
   refine pu_ 7 (some 3) (bl 8 255) HT_.out rfl ?_
   refine done_ (done_of HT_.out (by kernel_rfl)) ?_
   obtain ⟨hcz13_0, hcz13_1, hcz13_2, hcz13_3, hcz13_4, hcz13_5, hcz13_6, hfz13_0, hfz13_1, hfz13_2, hfz13_3, hfz13_4, hfz13_5, hfz13_6⟩ := cells7 BK296.out
   try go_wp2_with (first | ((with_reducible refine gate_callee (f := 35) rfl ?_); refine goesL_ (some 16) rfl rfl Tryd.func35 (by kernel_rfl) rfl #[.agg #[.int .i64 a0_0, .int .i64 a0_1, .int .i64 a0_2, .int .i64 a0_3, .int .i64 a0_4, .int .i64 a0_5, .slice A0_6 l0_6.length c0_6]] rfl b12_3 ?_; (with_reducible refine (impl_Node_reads.calls a0_0 a0_1 a0_2 a0_3 a0_4 a0_5 _ _ l0_6 t304 _ ?side1 ?side2 A6.out).mono ?_); (case side1 => exact (by repeat (first | exact (Kd.C_below HR0_6.out HB.out) | (with_reducible refine Kd.C_alloc ?_ _) | (with_reducible refine Kd.C_drewN ?_ _) | (with_reducible refine Kd.C_drew ?_)))); (case side2 => exact HC0_6.out); rintro e w14 ⟨v305, rfl, ho0, hb⟩; refine ⟨_, rfl, ?_⟩; have n0_ := Aside0.mk (Kd.R_below (by (with_reducible repeat (first | apply Kd.R_alloc | apply Kd.R_drewN | apply Kd.R_drew)); exact HO299.out) hb); have n1_ := Aside0.mk (Kd.R_below (by (with_reducible repeat (first | apply Kd.R_alloc | apply Kd.R_drewN | apply Kd.R_drew)); exact HO303.out) hb); have n2_ := Aside0.mk (Kd.R_lower ho0 (below_size b12_0)); have n3_ := Aside0.mk (blk_below (g := gb296) (o := .cells #[.int .i64 a0_0, .int .i64 a0_1, .int .i64 a0_2, .int .i64 a0_3, .int .i64 a0_4, .int .i64 a0_5, .slice A0_6 l0_6.length c0_6] 35 (0, 0)) b12_1 hb); have n4_ := Aside0.mk (below_step b12_0 hb); clear HO299; clear HO303; clear BK296; clear HB; have HO299 := n0_; have HO303 := n1_; have HO306 := n2_; have BK296 := n3_; have HB := n4_; clear n0_ n1_ n2_ n3_ n4_; (try clear hb); (try clear hb2); (try clear hk); (try clear hi); (try clear ho0); obtain ⟨Ao15, co15, eo15⟩ := Kd.R_slice HO306.out; subst eo15))
   go_loopg [3, 18] k (fun kq v3 v18 w' => ∃ (x3_1 : List ByteArray) (x18_1 : Int), v18 = .int .i64 x18_1 ∧ Aside0 (impl_Node_wordsOf.l0 kq x3_1 t304 (t304.length : Int) x18_1 a0_0 a0_1 a0_2 a0_3 a0_4 a0_5 l0_6 = some r) ∧ Aside0 (kq ≤ k) ∧ Aside0 (Kd.R Kd.string 9 w' w.heap.size (fun _ => True) v3 x3_1) ∧ Aside0 (Kd.R (Kd.int .i64) 2 w' w.heap.size (fun _ => True) (.slice Ao15 t304.length co15) t304) ∧ Aside0 (w'.heap[gb296]? = some (.cells #[.int .i64 a0_0, .int .i64 a0_1, .int .i64 a0_2, .int .i64 a0_3, .int .i64 a0_4, .int .i64 a0_5, (.slice A0_6 l0_6.length c0_6)] 35 (0, 0))) ∧ Aside0 (Below w.heap.size w w'))
   case atStart => exact ⟨(y301), (0), (by first | rfl | (simp; done) | (simp [*]; done)), H', ⟨Nat.le_refl _⟩, ⟨by (with_reducible repeat (first | apply Kd.R_alloc | apply Kd.R_drewN | apply Kd.R_drew)); exact Kd.R_mono HO303.out (fun _ hk => trivial)⟩, ⟨by (with_reducible repeat (first | apply Kd.R_alloc | apply Kd.R_drewN | apply Kd.R_drew)); exact HO306.out⟩, ⟨by (with_reducible repeat (first | refine blk_drewN ?_ _ | refine blk_drew ?_ | refine blk_alloc ?_ _)); exact BK296.out⟩, ⟨by repeat (first | (with_reducible first | exact HB.out | apply below_alloc | apply pw_below_drewN | apply below_drew1 | refine below_set ?_ GE296.out) | exact HB.out)⟩⟩
   case round =>
    clear H'
    try clear c2
    try clear p2
    try clear c3
    try clear p3
    try clear q3
    try clear hx3
    try clear c4
    try clear c4b0
    try clear c5
    try clear c5b0
    try clear p6
    try clear hcz13_0
    try clear hcz13_1
    try clear hcz13_2
    try clear hcz13_3
    try clear hcz13_4
    try clear hcz13_5
    try clear hcz13_6
    try clear hfz13_0
    try clear hfz13_1
    try clear hfz13_2
    try clear hfz13_3
    try clear hfz13_4
    try clear hfz13_5
    try clear hfz13_6
    try clear hx300_0
    try clear p300
    try clear q300
    obtain ⟨x3_1, x18_1, rfl, HA, HK1, HO_3, HO_16, BK296, HB⟩ := hrel
    cases gk with
    | zero => exact absurd HA.out (by simp [impl_Node_wordsOf.l0])
    | succ k1 =>
     have H := HA.out
     clear HA
     simp only [impl_Node_wordsOf.l0] at H
     by_cases c16 : x18_1 < (t304.length : Int)
     ·rw [if_pos c16] at H
      have c16b0 : decide (x18_1 < (t304.length : Int)) = true := decide_eq_true c16
      clear c16
      by_cases c17 : 0 ≤ x18_1
      ·rw [if_pos c17] at H
       have c17b0 : decide (0 ≤ x18_1) = true := decide_eq_true c17
       clear c17
       by_cases c18 : x18_1 < (t304.length : Int)
       ·rw [if_pos c18] at H
        have c18b0 : decide (x18_1 < (t304.length : Int)) = true := decide_eq_true c18
        clear c18
        replace H := Option.bind_eq_some_iff.mp H
        obtain ⟨t308, A190, H⟩ := H
        replace H : (if x3_1.length < 8796093022208 then (impl_Node_wordsOf.l0 k1 (x3_1 ++ [t308]) t304 (t304.length : Int) (wrap64 (x18_1 + 1)) a0_0 a0_1 a0_2 a0_3 a0_4 a0_5 l0_6) else (none)) = some r := H
        have A19 := Aside0.mk A190
        clear A190
        by_cases c20 : x3_1.length < 8796093022208
        ·rw [if_pos c20] at H
         have LMc20 := Aside0.mk c20
         clear c20
         obtain ⟨y309, hy309⟩ : ∃ y_ : List ByteArray, y_ = (x3_1 ++ [t308]) := ⟨_, rfl⟩
         replace H : (impl_Node_wordsOf.l0 k1 y309 t304 (t304.length : Int) (wrap64 (x18_1 + 1)) a0_0 a0_1 a0_2 a0_3 a0_4 a0_5 l0_6) = some r := by first | (rw [hy309]; with_reducible exact H) | (have H2_ := (Option.bind_some _ _).symm.trans H; rw [hy309]; with_reducible exact H2_) | (have H2_ := (Option.bind_some _ _).symm.trans H; with_reducible exact H2_) | with_reducible exact H | (rw [hy309]; exact H) | exact H
         have Ny309 := Aside0.mk hy309
         clear hy309
         have H' := Aside0.mk H
         clear H
         have p307 : 0 ≤ (x18_1 : Int) := of_decide_eq_true (by first | (with_reducible assumption) | assumption)
         have q307 : x18_1 < (t304.length : Int) := of_decide_eq_true (by first | (with_reducible assumption) | assumption)
         obtain ⟨ad307, e307, hx307_0⟩ := Kd.at_int (Kd.R_reads' HO_16.out).2.2 x18_1 p307 q307
         cases e307
         replace p307 := eq_true p307
         replace q307 := eq_true q307
         go_wp2_with (first | ((with_reducible refine gate_callee (f := 42) rfl ?_); refine goesL_ (some 24) rfl rfl Tryd.func42 (by kernel_rfl) rfl #[.int .i64 (rd t304 x18_1)] rfl b12_3 ?_; (with_reducible refine (impl_decimal.calls (rd t304 x18_1) t308 _ (Tab.tabB HTB_.out b12_0) A19.out).mono ?_); rintro e w21 ⟨rfl, hb⟩; refine ⟨_, rfl, ?_⟩; have n0_ := Aside0.mk (Kd.R_below b12_2 hb); have n1_ := Aside0.mk (Kd.R_below (by (with_reducible repeat (first | apply Kd.R_alloc | apply Kd.R_drewN | apply Kd.R_drew)); exact HO_16.out) hb); have n2_ := Aside0.mk (blk_below (g := gb296) (o := .cells #[.int .i64 a0_0, .int .i64 a0_1, .int .i64 a0_2, .int .i64 a0_3, .int .i64 a0_4, .int .i64 a0_5, .slice A0_6 l0_6.length c0_6] 35 (0, 0)) b12_1 hb); have n3_ := Aside0.mk (below_step b12_0 hb); clear HO_3; clear HO_16; clear BK296; clear HB; have HO_3 := n0_; have HO_16 := n1_; have BK296 := n2_; have HB := n3_; clear n0_ n1_ n2_ n3_; (try clear hb); (try clear hb2); (try clear hk); (try clear hi)) | ((with_reducible refine gate_builtin (b := .append) (xs := #[.tmp 22, .tmp 25]) rfl ?_); at_builtin; refine Kd.R_append Kd.string (w0 := w) w.heap.size rfl (.tmp 22) (.tmp 25) 40 9 (.string ⟨#[]⟩) 16 rfl Tryd.underlying40 info9 rfl (by decide) (by omega) u3 x3_1 t308 [.string t308] (fun _ => True) (fun _ => False) rfl rfl ?aP (fun _ hk => hk.elim) ?aF ?aO ?aB ?aS ?aL ?_; (case aP => exact rfl); (case aB => exact (by exact b12_0)); (case aF => exact (fun _ _ => trivial)); (case aO => exact (by exact b12_2)); (case aS => exact (by exact (below_size b12_0))); (case aL => have := LMc20.out; omega); intro v310 w22 ho hb hg hat; rw [← Ny309.out] at ho; have n0_ := Aside0.mk (Kd.R_over' (by (with_reducible repeat (first | apply Kd.R_alloc | apply Kd.R_drewN | apply Kd.R_drew)); exact HO_16.out) (Kd.R_typed b12_2) (by decide) hg); have n1_ := Aside0.mk (blk_grown (g := gb296) (o := .cells #[.int .i64 a0_0, .int .i64 a0_1, .int .i64 a0_2, .int .i64 a0_3, .int .i64 a0_4, .int .i64 a0_5, .slice A0_6 l0_6.length c0_6] 35 (0, 0)) b12_1 hg (Kd.R_ne HO_3.out BK296.out (by decide))); have n2_ := Aside0.mk (hb); have n3_ := Aside0.mk (ho); clear HO_16; clear BK296; clear HB; clear HO_3; have HO_16 := n0_; have BK296 := n1_; have HB := n2_; have HO311 := n3_; clear n0_ n1_ n2_ n3_; clear ho hb hg hat))
         go_roundg k1
         case measure => have := HK1.out; omega
         case rel => exact ⟨(y309), (wrap64 (x18_1 + 1)), (by first | rfl | (simp; done) | (simp [*]; done)), H', ⟨by have := HK1.out; omega⟩, ⟨by (with_reducible repeat (first | apply Kd.R_alloc | apply Kd.R_drewN | apply Kd.R_drew)); exact HO311.out⟩, ⟨by (with_reducible repeat (first | apply Kd.R_alloc | apply Kd.R_drewN | apply Kd.R_drew)); exact HO_16.out⟩, ⟨by (with_reducible repeat (first | refine blk_drewN ?_ _ | refine blk_drew ?_ | refine blk_alloc ?_ _)); exact BK296.out⟩, ⟨by repeat (first | (with_reducible first | exact HB.out | apply below_alloc | apply pw_below_drewN | apply below_drew1 | refine below_set ?_ GE296.out) | exact HB.out)⟩⟩
        ·rw [if_neg c20] at H
         exact absurd H (by simp)
       ·rw [if_neg c18] at H
        exact absurd H (by simp)
      ·rw [if_neg c17] at H
       exact absurd H (by simp)
     ·rw [if_neg c16] at H
      have c16b0 : decide (x18_1 < (t304.length : Int)) = false := decide_eq_false c16
      clear c16
      have HC23 := Aside0.mk H
      clear H
      obtain ⟨hcz24_0, hcz24_1, hcz24_2, hcz24_3, hcz24_4, hcz24_5, hcz24_6, hfz24_0, hfz24_1, hfz24_2, hfz24_3, hfz24_4, hfz24_5, hfz24_6⟩ := cells7 BK296.out
      go_upto_if 30 with (fail)
      go_cut [30] (fun v30 wc => ∃ (kq : Nat) (x30_22 : Bool), v30 = .bool x30_22 ∧ Aside0 (impl_Node_wordsOf.j1 kq x3_1 a0_0 x30_22 a0_0 a0_1 a0_2 a0_3 a0_4 a0_5 l0_6 = some r) ∧ Aside0 (kq ≤ k1) ∧ Aside0 (Kd.R Kd.string 9 wc w.heap.size (fun _ => True) u3 x3_1) ∧ Aside0 (wc.heap[gb296]? = some (.cells #[.int .i64 a0_0, .int .i64 a0_1, .int .i64 a0_2, .int .i64 a0_3, .int .i64 a0_4, .int .i64 a0_5, (.slice A0_6 l0_6.length c0_6)] 35 (0, 0))) ∧ Aside0 (Below w.heap.size w wc))
      case first =>
       have H := HC23.out
       clear HC23
       by_cases c25 : a0_0 = 1
       ·rw [if_pos c25] at H
        have c25b0 : (a0_0 == 1) = true := beq_iff_eq.mpr c25
        have c25b1 : (a0_0 != 1) = false := bne_eq_false_iff_eq.mpr c25
        clear c25
        (first | rw [c25b0] | (simp only [i64_w, i32_w]; rw [c25b0]) | skip)
        have H' := Aside0.mk H
        clear H
        go_wp2
        go_meet
        case rel => exact ⟨_, ((a0_0 == 1)), (by first | rfl | (simp; done) | (simp [*]; done)), H', ⟨by have := HK1.out; first | omega | exact Nat.le_refl _⟩, ⟨by (with_reducible repeat (first | apply Kd.R_alloc | apply Kd.R_drewN | apply Kd.R_drew)); exact HO_3.out⟩, ⟨by (with_reducible repeat (first | refine blk_drewN ?_ _ | refine blk_drew ?_ | refine blk_alloc ?_ _)); exact BK296.out⟩, ⟨by repeat (first | (with_reducible first | exact HB.out | apply below_alloc | apply pw_below_drewN | apply below_drew1 | refine below_set ?_ GE296.out) | exact HB.out)⟩⟩
       ·rw [if_neg c25] at H
        have c25b0 : (a0_0 == 1) = false := beq_eq_false_iff_ne.mpr c25
        have c25b1 : (a0_0 != 1) = true := bne_iff_ne.mpr c25
        (first | rw [c25b0] | (simp only [i64_w, i32_w]; rw [c25b0]) | skip)
        by_cases c26 : a0_0 = 6
        ·rw [if_pos c26] at H
         have c26b0 : (a0_0 == 6) = true := beq_iff_eq.mpr c26
         have c26b1 : (a0_0 != 6) = false := bne_eq_false_iff_eq.mpr c26
         clear c26
         have H' := Aside0.mk H
         clear H
         go_wp2
         go_meet
         case rel => exact ⟨_, ((a0_0 == 6)), (by first | rfl | (simp; done) | (simp [*]; done)), H', ⟨by have := HK1.out; first | omega | exact Nat.le_refl _⟩, ⟨by (with_reducible repeat (first | apply Kd.R_alloc | apply Kd.R_drewN | apply Kd.R_drew)); exact HO_3.out⟩, ⟨by (with_reducible repeat (first | refine blk_drewN ?_ _ | refine blk_drew ?_ | refine blk_alloc ?_ _)); exact BK296.out⟩, ⟨by repeat (first | (with_reducible first | exact HB.out | apply below_alloc | apply pw_below_drewN | apply below_drew1 | refine below_set ?_ GE296.out) | exact HB.out)⟩⟩
        ·rw [if_neg c26] at H
         have c26b0 : (a0_0 == 6) = false := beq_eq_false_iff_ne.mpr c26
         have c26b1 : (a0_0 != 6) = true := bne_iff_ne.mpr c26
         by_cases c27 : a0_0 = 7
         ·rw [if_pos c27] at H
          have c27b0 : (a0_0 == 7) = true := beq_iff_eq.mpr c27
          have c27b1 : (a0_0 != 7) = false := bne_eq_false_iff_eq.mpr c27
          clear c27
          have H' := Aside0.mk H
          clear H
          go_wp2
          go_meet
          case rel => exact ⟨_, ((a0_0 == 7)), (by first | rfl | (simp; done) | (simp [*]; done)), H', ⟨by have := HK1.out; first | omega | exact Nat.le_refl _⟩, ⟨by (with_reducible repeat (first | apply Kd.R_alloc | apply Kd.R_drewN | apply Kd.R_drew)); exact HO_3.out⟩, ⟨by (with_reducible repeat (first | refine blk_drewN ?_ _ | refine blk_drew ?_ | refine blk_alloc ?_ _)); exact BK296.out⟩, ⟨by repeat (first | (with_reducible first | exact HB.out | apply below_alloc | apply pw_below_drewN | apply below_drew1 | refine below_set ?_ GE296.out) | exact HB.out)⟩⟩
         ·rw [if_neg c27] at H
          have c27b0 : (a0_0 == 7) = false := beq_eq_false_iff_ne.mpr c27
          have c27b1 : (a0_0 != 7) = true := bne_iff_ne.mpr c27
          by_cases c28 : a0_0 = 8
          ·rw [if_pos c28] at H
           have c28b0 : (a0_0 == 8) = true := beq_iff_eq.mpr c28
           have c28b1 : (a0_0 != 8) = false := bne_eq_false_iff_eq.mpr c28
           clear c28
           have H' := Aside0.mk H
           clear H
           go_wp2
           go_meet
           case rel => exact ⟨_, ((a0_0 == 8)), (by first | rfl | (simp; done) | (simp [*]; done)), H', ⟨by have := HK1.out; first | omega | exact Nat.le_refl _⟩, ⟨by (with_reducible repeat (first | apply Kd.R_alloc | apply Kd.R_drewN | apply Kd.R_drew)); exact HO_3.out⟩, ⟨by (with_reducible repeat (first | refine blk_drewN ?_ _ | refine blk_drew ?_ | refine blk_alloc ?_ _)); exact BK296.out⟩, ⟨by repeat (first | (with_reducible first | exact HB.out | apply below_alloc | apply pw_below_drewN | apply below_drew1 | refine below_set ?_ GE296.out) | exact HB.out)⟩⟩
          ·rw [if_neg c28] at H
           have c28b0 : (a0_0 == 8) = false := beq_eq_false_iff_ne.mpr c28
           have c28b1 : (a0_0 != 8) = true := bne_iff_ne.mpr c28
           by_cases c29 : a0_0 = 9
           ·rw [if_pos c29] at H
            have c29b0 : (a0_0 == 9) = true := beq_iff_eq.mpr c29
            have c29b1 : (a0_0 != 9) = false := bne_eq_false_iff_eq.mpr c29
            clear c29
            have H' := Aside0.mk H
            clear H
            go_wp2
            go_meet
            case rel => exact ⟨_, ((a0_0 == 9)), (by first | rfl | (simp; done) | (simp [*]; done)), H', ⟨by have := HK1.out; first | omega | exact Nat.le_refl _⟩, ⟨by (with_reducible repeat (first | apply Kd.R_alloc | apply Kd.R_drewN | apply Kd.R_drew)); exact HO_3.out⟩, ⟨by (with_reducible repeat (first | refine blk_drewN ?_ _ | refine blk_drew ?_ | refine blk_alloc ?_ _)); exact BK296.out⟩, ⟨by repeat (first | (with_reducible first | exact HB.out | apply below_alloc | apply pw_below_drewN | apply below_drew1 | refine below_set ?_ GE296.out) | exact HB.out)⟩⟩
           ·rw [if_neg c29] at H
            have c29b0 : (a0_0 == 9) = false := beq_eq_false_iff_ne.mpr c29
            have c29b1 : (a0_0 != 9) = true := bne_iff_ne.mpr c29
            have H' := Aside0.mk H
            clear H
            go_wp2
            go_meet
            case rel => exact ⟨_, ((a0_0 == 10)), (by first | rfl | (simp; done) | (simp [*]; done)), H', ⟨by have := HK1.out; first | omega | exact Nat.le_refl _⟩, ⟨by (with_reducible repeat (first | apply Kd.R_alloc | apply Kd.R_drewN | apply Kd.R_drew)); exact HO_3.out⟩, ⟨by (with_reducible repeat (first | refine blk_drewN ?_ _ | refine blk_drew ?_ | refine blk_alloc ?_ _)); exact BK296.out⟩, ⟨by repeat (first | (with_reducible first | exact HB.out | apply below_alloc | apply pw_below_drewN | apply below_drew1 | refine below_set ?_ GE296.out) | exact HB.out)⟩⟩
      case rest =>
       clear HC23
       try clear c1
       try clear c2
       try clear p2
       try clear c3
       try clear p3
       try clear q3
       try clear hx3
       try clear c4
       try clear c4b0
       try clear c5
       try clear c5b0
       try clear p6
       try clear c16
       try clear c16b0
       try clear c17
       try clear c17b0
       try clear c18
       try clear c18b0
       try clear c20
       try clear c23
       try clear c25
       try clear c25b0
       try clear c25b1
       try clear c26
       try clear c26b0
       try clear c26b1
       try clear c27
       try clear c27b0
       try clear c27b1
       try clear c28
       try clear c28b0
       try clear c28b1
       try clear c29
       try clear c29b0
       try clear c29b1
       try clear hcz13_0
       try clear hcz13_1
       try clear hcz13_2
       try clear hcz13_3
       try clear hcz13_4
       try clear hcz13_5
       try clear hcz13_6
       try clear hcz24_0
       try clear hcz24_1
       try clear hcz24_2
       try clear hcz24_3
       try clear hcz24_4
       try clear hcz24_5
       try clear hcz24_6
       try clear hfz13_0
       try clear hfz13_1
       try clear hfz13_2
       try clear hfz13_3
       try clear hfz13_4
       try clear hfz13_5
       try clear hfz13_6
       try clear hfz24_0
       try clear hfz24_1
       try clear hfz24_2
       try clear hfz24_3
       try clear hfz24_4
       try clear hfz24_5
       try clear hfz24_6
       try clear hx300_0
       try clear hx307_0
       try clear p2
       try clear p3
       try clear p300
       try clear p307
       try clear p6
       try clear q3
       try clear q300
       try clear q307
       obtain ⟨kq, x30_22, rfl, HA, HJ22, HO_3, BK296, HB⟩ := hcut
       cases kq with
       | zero => exact absurd HA.out (by simp [impl_Node_wordsOf.j1])
       | succ kj22 =>
        have H := HA.out
        clear HA
        simp only [impl_Node_wordsOf.j1] at H
        by_cases c30 : x30_22 = true
        ·subst c30
         have H1 : ((impl_decimal.f a0_3).bind fun t312 => (if x3_1.length < 8796093022208 then (some (x3_1 ++ [t312])) else (none))) = some r := by rw [if_pos rfl] at H; exact H
         clear H
         have H := H1
         clear H1
         replace H := Option.bind_eq_some_iff.mp H
         obtain ⟨t312, A310, H⟩ := H
         replace H : (if x3_1.length < 8796093022208 then (some (x3_1 ++ [t312])) else (none)) = some r := H
         have A31 := Aside0.mk A310
         clear A310
         by_cases c32 : x3_1.length < 8796093022208
         ·rw [if_pos c32] at H
          have LMc32 := Aside0.mk c32
          clear c32
          obtain ⟨y313, hy313⟩ : ∃ y_ : List ByteArray, y_ = (x3_1 ++ [t312]) := ⟨_, rfl⟩
          replace H : (some y313) = some r := by first | (rw [hy313]; with_reducible exact H) | (have H2_ := (Option.bind_some _ _).symm.trans H; rw [hy313]; with_reducible exact H2_) | (have H2_ := (Option.bind_some _ _).symm.trans H; with_reducible exact H2_) | with_reducible exact H | (rw [hy313]; exact H) | exact H
          have Ny313 := Aside0.mk hy313
          clear hy313
          obtain rfl := Option.some.inj H
          obtain ⟨hcz33_0, hcz33_1, hcz33_2, hcz33_3, hcz33_4, hcz33_5, hcz33_6, hfz33_0, hfz33_1, hfz33_2, hfz33_3, hfz33_4, hfz33_5, hfz33_6⟩ := cells7 BK296.out
          go_wp2_with (first | ((with_reducible refine gate_callee (f := 42) rfl ?_); refine goesL_ (some 40) rfl rfl Tryd.func42 (by kernel_rfl) rfl #[.int .i64 a0_3] rfl b12_3 ?_; (with_reducible refine (impl_decimal.calls a0_3 t312 _ (Tab.tabB HTB_.out b12_0) A31.out).mono ?_); rintro e w34 ⟨rfl, hb⟩; refine ⟨_, rfl, ?_⟩; have n0_ := Aside0.mk (Kd.R_below b12_2 hb); have n1_ := Aside0.mk (blk_below (g := gb296) (o := .cells #[.int .i64 a0_0, .int .i64 a0_1, .int .i64 a0_2, .int .i64 a0_3, .int .i64 a0_4, .int .i64 a0_5, .slice A0_6 l0_6.length c0_6] 35 (0, 0)) b12_1 hb); have n2_ := Aside0.mk (below_step b12_0 hb); clear HO_3; clear BK296; clear HB; have HO_3 := n0_; have BK296 := n1_; have HB := n2_; clear n0_ n1_ n2_; (try clear hb); (try clear hb2); (try clear hk); (try clear hi)) | ((with_reducible refine gate_builtin (b := .append) (xs := #[.tmp 37, .tmp 41]) rfl ?_); at_builtin; refine Kd.R_append Kd.string (w0 := w) w.heap.size rfl (.tmp 37) (.tmp 41) 40 9 (.string ⟨#[]⟩) 16 rfl Tryd.underlying40 info9 rfl (by decide) (by omega) u3 x3_1 t312 [.string t312] (fun _ => True) (fun _ => False) rfl rfl ?aP (fun _ hk => hk.elim) ?aF ?aO ?aB ?aS ?aL ?_; (case aP => exact rfl); (case aB => exact (by exact b12_0)); (case aF => exact (fun _ _ => trivial)); (case aO => exact (by exact b12_2)); (case aS => exact (by exact (below_size b12_0))); (case aL => have := LMc32.out; omega); intro v314 w35 ho hb hg hat; rw [← Ny313.out] at ho; have n0_ := Aside0.mk (blk_grown (g := gb296) (o := .cells #[.int .i64 a0_0, .int .i64 a0_1, .int .i64 a0_2, .int .i64 a0_3, .int .i64 a0_4, .int .i64 a0_5, .slice A0_6 l0_6.length c0_6] 35 (0, 0)) b12_1 hg (Kd.R_ne HO_3.out BK296.out (by decide))); have n1_ := Aside0.mk (hb); have n2_ := Aside0.mk (ho); clear BK296; clear HB; clear HO_3; have BK296 := n0_; have HB := n1_; have HO315 := n2_; clear n0_ n1_ n2_; clear ho hb hg hat))
          go_ret
          exact ⟨_, by first | rfl | (simp [errW_none, errW_some] <;> rfl) | (simp only [← hji3]; first | rfl | (simp [errW_none, errW_some] <;> rfl)) | (simp [*, errW_none, errW_some] <;> rfl), by (with_reducible repeat (first | apply Kd.R_alloc | apply Kd.R_drewN | apply Kd.R_drew)); exact HO315.out, by repeat (first | (with_reducible first | exact HB.out | apply below_alloc | apply pw_below_drewN | apply below_drew1 | refine below_set ?_ GE296.out) | exact HB.out)⟩
         ·rw [if_neg c32] at H
          exact absurd H (by simp)
        ·replace c30 := Bool.eq_false_iff.mpr c30
         subst c30
         have H1 : (if a0_0 = 2 then ((impl_decimal.f a0_3).bind fun t316 => (if 0 ≤ a0_4 then (if a0_4 ≤ (wrap64 (a0_4 + 1)) then (if (wrap64 (a0_4 + 1)) ≤ 3 then ((impl_decimal.f a0_5).bind fun t317 => ((some (([t316, (⟨#[61, 60, 62]⟩ : ByteArray).extract (a0_4 : Int).toNat ((wrap64 (a0_4 + 1)) : Int).toNat, t317] : List ByteArray) : List ByteArray)).bind fun y318 => (if x3_1.length + y318.length < 8796093022208 then (some (x3_1 ++ y318)) else (none)))) else (none)) else (none)) else (none))) else (if a0_0 = 3 then (impl_Node_wordsOf.l1 kj22 x3_1 l0_6 (l0_6.length : Int) 0) else (some x3_1))) = some r := by rw [if_neg (show ¬ (false = true) by decide)] at H; exact H
         clear H
         have H := H1
         clear H1
         by_cases c36 : a0_0 = 2
         ·rw [if_pos c36] at H
          have c36b0 : (a0_0 == 2) = true := beq_iff_eq.mpr c36
          have c36b1 : (a0_0 != 2) = false := bne_eq_false_iff_eq.mpr c36
          clear c36
          replace H := Option.bind_eq_some_iff.mp H
          obtain ⟨t316, A370, H⟩ := H
          replace H : (if 0 ≤ a0_4 then (if a0_4 ≤ (wrap64 (a0_4 + 1)) then (if (wrap64 (a0_4 + 1)) ≤ 3 then ((impl_decimal.f a0_5).bind fun t317 => ((some (([t316, (⟨#[61, 60, 62]⟩ : ByteArray).extract (a0_4 : Int).toNat ((wrap64 (a0_4 + 1)) : Int).toNat, t317] : List ByteArray) : List ByteArray)).bind fun y318 => (if x3_1.length + y318.length < 8796093022208 then (some (x3_1 ++ y318)) else (none)))) else (none)) else (none)) else (none)) = some r := H
          have A37 := Aside0.mk A370
          clear A370
          by_cases c38 : 0 ≤ a0_4
          ·rw [if_pos c38] at H
           have c38b0 := eq_true c38
           have c38b1 : decide (0 ≤ a0_4) = true := decide_eq_true c38
           clear c38
           by_cases c39 : a0_4 ≤ (wrap64 (a0_4 + 1))
           ·rw [if_pos c39] at H
            have c39b0 := eq_true c39
            have c39b1 : decide (a0_4 ≤ (wrap64 (a0_4 + 1))) = true := decide_eq_true c39
            by_cases c40 : (wrap64 (a0_4 + 1)) ≤ 3
            ·rw [if_pos c40] at H
             have c40b0 := eq_true c40
             have c40b1 : decide ((wrap64 (a0_4 + 1)) ≤ 3) = true := decide_eq_true c40
             replace H := Option.bind_eq_some_iff.mp H
             obtain ⟨t317, A410, H⟩ := H
             replace H : ((some (([t316, (⟨#[61, 60, 62]⟩ : ByteArray).extract (a0_4 : Int).toNat ((wrap64 (a0_4 + 1)) : Int).toNat, t317] : List ByteArray) : List ByteArray)).bind fun y318 => (if x3_1.length + y318.length < 8796093022208 then (some (x3_1 ++ y318)) else (none))) = some r := H
             have A41 := Aside0.mk A410
             clear A410
             obtain ⟨y318, hy318⟩ : ∃ y_ : List ByteArray, y_ = (([t316, (⟨#[61, 60, 62]⟩ : ByteArray).extract (a0_4 : Int).toNat ((wrap64 (a0_4 + 1)) : Int).toNat, t317] : List ByteArray)) := ⟨_, rfl⟩
             replace H : (if x3_1.length + y318.length < 8796093022208 then (some (x3_1 ++ y318)) else (none)) = some r := by first | (rw [hy318]; with_reducible exact H) | (have H2_ := (Option.bind_some _ _).symm.trans H; rw [hy318]; with_reducible exact H2_) | (have H2_ := (Option.bind_some _ _).symm.trans H; with_reducible exact H2_) | with_reducible exact H | (rw [hy318]; exact H) | exact H
             have Ny318 := Aside0.mk hy318
             clear hy318
             by_cases c42 : x3_1.length + y318.length < 8796093022208
             ·rw [if_pos c42] at H
              have LMc42 := Aside0.mk c42
              clear c42
              obtain ⟨y321, hy321⟩ : ∃ y_ : List ByteArray, y_ = (x3_1 ++ y318) := ⟨_, rfl⟩
              replace H : (some y321) = some r := by first | (rw [hy321]; with_reducible exact H) | (have H2_ := (Option.bind_some _ _).symm.trans H; rw [hy321]; with_reducible exact H2_) | (have H2_ := (Option.bind_some _ _).symm.trans H; with_reducible exact H2_) | with_reducible exact H | (rw [hy321]; exact H) | exact H
              have Ny321 := Aside0.mk hy321
              clear hy321
              obtain rfl := Option.some.inj H
              try go_wp2
              have n0_ := Aside0.mk (Kd.R_drew HO_3.out)
              have n1_ := Aside0.mk (blk_drew BK296.out)
              have n2_ := Aside0.mk (below_drew1 HB.out)
              clear HO_3
              clear BK296
              clear HB
              have HO_3 := n0_
              have BK296 := n1_
              have HB := n2_
              clear n0_ n1_ n2_
              refine start_ (n := 16) (S := fun w' => w'.cell? ⟨gb296, 0, none⟩ = some (.int .i64 a0_0) ∧ w'.cell? ⟨gb296, 1, none⟩ = some (.int .i64 a0_1) ∧ w'.cell? ⟨gb296, 2, none⟩ = some (.int .i64 a0_2) ∧ w'.cell? ⟨gb296, 3, none⟩ = some (.int .i64 a0_3) ∧ w'.cell? ⟨gb296, 4, none⟩ = some (.int .i64 a0_4) ∧ w'.cell? ⟨gb296, 5, none⟩ = some (.int .i64 a0_5) ∧ w'.cell? ⟨gb296, 6, none⟩ = some (.slice A0_6 l0_6.length c0_6)) (ds := []) (bl 16 0) (by kernel_rfl) rfl rfl ⟨(blk_cell BK296.out 0).trans rfl, (blk_cell BK296.out 1).trans rfl, (blk_cell BK296.out 2).trans rfl, (blk_cell BK296.out 3).trans rfl, (blk_cell BK296.out 4).trans rfl, (blk_cell BK296.out 5).trans rfl, (blk_cell BK296.out 6).trans rfl⟩ (fun hHeld => ?_); refine with_tabW impl_Node_wordsOf.tab16 impl_Node_wordsOf.bits16 (fun HT_ HW_ => ?_)
              generalize wc.drew = w43 at HO_3 BK296 HB hHeld ⊢
              refine pu_ 0 (some 45) (bl 16 1) HT_.out rfl ?_
              refine pu_ 1 (some 46) (bl 16 3) HT_.out rfl ?_
              refine pu_ 4 (some 49) (bl 16 19) HT_.out rfl ?_
              refine pu_ 6 (some 51) (bl 16 83) HT_.out rfl ?_
              refine pu_ 10 (some 55) (bl 16 1107) HT_.out rfl ?_
              refine tw_ 2 (some 47) (bl 16 1111) HT_.out HW_.out rfl hHeld (fun w' s_ => by obtain ⟨s0, s1, s2, s3, s4, s5, s6⟩ := s_; go_simp; with_reducible rfl) ?_
              refine tw_ 5 (some 50) (bl 16 1143) HT_.out HW_.out rfl hHeld (fun w' s_ => by obtain ⟨s0, s1, s2, s3, s4, s5, s6⟩ := s_; go_simp; with_reducible rfl) ?_
              refine tw_ 7 (some 52) (bl 16 1271) HT_.out HW_.out rfl hHeld (fun w' s_ => by obtain ⟨s0, s1, s2, s3, s4, s5, s6⟩ := s_; go_simp; with_reducible rfl) ?_
              refine pu_ 8 (some 53) (bl 16 1527) HT_.out rfl ?_
              refine pu_ 9 (some 54) (bl 16 2039) HT_.out rfl ?_
              refine tw_ 11 (some 56) (bl 16 4087) HT_.out HW_.out rfl hHeld (fun w' s_ => by obtain ⟨s0, s1, s2, s3, s4, s5, s6⟩ := s_; go_simp; with_reducible rfl) ?_
              refine on_ 3 (some 48) (bl 16 4095) HT_.out rfl (fun K hK => ?_)
              refine goes_ Tryd.func42 (by kernel_rfl) rfl #[.int .i64 a0_3] (by rfl) rfl rfl b12_3 ?_
              with_reducible refine (impl_decimal.calls a0_3 t316 _ (Tab.tabB HTB_.out b12_0) A37.out).mono ?_
              rintro e w44 ⟨rfl, hb⟩
              refine ⟨_, rfl, ?_⟩
              have n0_ := Aside0.mk (Kd.R_below b12_2 hb)
              have n1_ := Aside0.mk (blk_below (g := gb296) (o := .cells #[.int .i64 a0_0, .int .i64 a0_1, .int .i64 a0_2, .int .i64 a0_3, .int .i64 a0_4, .int .i64 a0_5, .slice A0_6 l0_6.length c0_6] 35 (0, 0)) b12_1 hb)
              have n2_ := Aside0.mk (below_step b12_0 hb)
              clear HO_3
              clear BK296
              clear HB
              have HO_3 := n0_
              have BK296 := n1_
              have HB := n2_
              clear n0_ n1_ n2_
              (try clear hb)
              (try clear hb2)
              (try clear hk)
              (try clear hi)
              refine hK.out _ _ ⟨(blk_cell BK296.out 0).trans rfl, (blk_cell BK296.out 1).trans rfl, (blk_cell BK296.out 2).trans rfl, (blk_cell BK296.out 3).trans rfl, (blk_cell BK296.out 4).trans rfl, (blk_cell BK296.out 5).trans rfl, (blk_cell BK296.out 6).trans rfl⟩ (fun hHeld => ?_)
              clear hK K
              refine norm_ (a' := ?_) ?_ ?_
              rotate_left
              ·show Act.put _ (some 48) _ = _
               simp only [Act.put, List.setIfInBounds_toArray, List.set_cons_zero, List.set_cons_succ, i64_w, i32_w]
               rfl
              refine on_ 12 (some 57) (bl 16 8191) HT_.out rfl (fun K hK => ?_)
              refine goes_ Tryd.func42 (by kernel_rfl) rfl #[.int .i64 a0_5] (by rfl) rfl rfl b12_3 ?_
              with_reducible refine (impl_decimal.calls a0_5 t317 _ (Tab.tabB HTB_.out b12_0) A41.out).mono ?_
              rintro e w45 ⟨rfl, hb⟩
              refine ⟨_, rfl, ?_⟩
              have n0_ := Aside0.mk (Kd.R_below b12_2 hb)
              have n1_ := Aside0.mk (blk_below (g := gb296) (o := .cells #[.int .i64 a0_0, .int .i64 a0_1, .int .i64 a0_2, .int .i64 a0_3, .int .i64 a0_4, .int .i64 a0_5, .slice A0_6 l0_6.length c0_6] 35 (0, 0)) b12_1 hb)
              have n2_ := Aside0.mk (below_step b12_0 hb)
              clear HO_3
              clear BK296
              clear HB
              have HO_3 := n0_
              have BK296 := n1_
              have HB := n2_
              clear n0_ n1_ n2_
              (try clear hb)
              (try clear hb2)
              (try clear hk)
              (try clear hi)
              refine hK.out _ _ ⟨(blk_cell BK296.out 0).trans rfl, (blk_cell BK296.out 1).trans rfl, (blk_cell BK296.out 2).trans rfl, (blk_cell BK296.out 3).trans rfl, (blk_cell BK296.out 4).trans rfl, (blk_cell BK296.out 5).trans rfl, (blk_cell BK296.out 6).trans rfl⟩ (fun hHeld => ?_)
              clear hK K
              refine norm_ (a' := ?_) ?_ ?_
              rotate_left
              ·show Act.put _ (some 57) _ = _
               simp only [Act.put, List.setIfInBounds_toArray, List.set_cons_zero, List.set_cons_succ, i64_w, i32_w]
               rfl
              refine on_ 13 (some 58) (bl 16 16383) HT_.out rfl (fun K hK => ?_)
              refine Kd.R_lit_step Kd.string _ 9 ?hg (N := 58) ?hd (xs := ([t316, (⟨#[61, 60, 62]⟩ : ByteArray).extract (a0_4 : Int).toNat ((wrap64 (a0_4 + 1)) : Int).toNat, t317] : List ByteArray)) (inner := [.string t316, .string ((⟨#[61, 60, 62]⟩ : ByteArray).extract (a0_4 : Int).toNat ((wrap64 (a0_4 + 1)) : Int).toNat), .string t317]) (ok := fun _ => True) (okp := fun _ => True) ?hr ?hp (fun _ hk => hk) trivial (Below.refl _ _) (Nat.le_refl _) (by simp) ?_; (case hd => rfl); (case hg => rfl); (case hr => first | (go_simp; done) | (go_simp; rfl)); (case hp => exact (Reps.one (show Kd.M Kd.string _ _ _ t316 [.string t316] from rfl) (Reps.one (show Kd.M Kd.string _ _ _ ((⟨#[61, 60, 62]⟩ : ByteArray).extract (a0_4 : Int).toNat ((wrap64 (a0_4 + 1)) : Int).toNat) [.string ((⟨#[61, 60, 62]⟩ : ByteArray).extract (a0_4 : Int).toNat ((wrap64 (a0_4 + 1)) : Int).toNat)] from rfl) (Reps.one (show Kd.M Kd.string _ _ _ t317 [.string t317] from rfl) (Reps.none _ _)))))
              intro v319 w46 ho47 hb hg_ hnew_
              clear hg_ hnew_
              (first | rw [← Ny318.out] at ho47 | (simp only [Int.reduceToNat] at ho47; rw [← Ny318.out] at ho47))
              have n0_ := Aside0.mk (Kd.R_elder' b12_2 (Kd.R_base ho47) hb)
              have n1_ := Aside0.mk (Kd.R_lower (Kd.R_new' ho47 (Kd.R_lt b12_2)) (below_size b12_0))
              have n2_ := Aside0.mk (blk_below (g := gb296) (o := .cells #[.int .i64 a0_0, .int .i64 a0_1, .int .i64 a0_2, .int .i64 a0_3, .int .i64 a0_4, .int .i64 a0_5, .slice A0_6 l0_6.length c0_6] 35 (0, 0)) b12_1 hb)
              have n3_ := Aside0.mk (below_step b12_0 hb)
              clear HO_3
              clear BK296
              clear HB
              have HO_3 := n0_
              have HO320 := n1_
              have BK296 := n2_
              have HB := n3_
              clear n0_ n1_ n2_ n3_
              clear hb ho47
              obtain ⟨Ao49, co49, eo49⟩ := Kd.R_slice HO320.out
              (first | subst eo49 | (injection eo49 with f1_ f2_ f3_; have f4_ := f1_.symm; have f5_ := f3_.symm; clear f1_ f2_ f3_; subst f4_; subst f5_))
              refine hK.out _ _ ⟨(blk_cell BK296.out 0).trans rfl, (blk_cell BK296.out 1).trans rfl, (blk_cell BK296.out 2).trans rfl, (blk_cell BK296.out 3).trans rfl, (blk_cell BK296.out 4).trans rfl, (blk_cell BK296.out 5).trans rfl, (blk_cell BK296.out 6).trans rfl⟩ (fun hHeld => ?_)
              clear hK K
              refine norm_ (a' := ?_) ?_ ?_
              rotate_left
              ·show Act.put _ (some 58) _ = _
               simp only [Act.put, List.setIfInBounds_toArray, List.set_cons_zero, List.set_cons_succ, i64_w, i32_w]
               rfl
              refine on_ 14 (some 59) (bl 16 32767) HT_.out rfl (fun K hK => ?_)
              refine Kd.R_append_rows_step Kd.string (w0 := w) w.heap.size (by rfl) (.tmp 45) (.tmp 58) 40 9 (.string ⟨#[]⟩) 16 rfl Tryd.underlying40 info9 rfl (by decide) (by omega) u3 x3_1 y318 _ _ _ (fun k_ => some k_ ≠ (.slice Ao49 y318.length co49 : Value).ownBlock) (fun _ => False) rfl rfl ?aO ?aR (fun _ _ h => h) (fun _ h => h.elim) ?aF ?aB ?aS ?aL ?_
              (case aR => exact (by repeat (first | exact (Kd.R_reads' HO320.out).2.2 | (with_reducible refine Kd.C_alloc ?_ _) | (with_reducible refine Kd.C_drewN ?_ _) | (with_reducible refine Kd.C_drew ?_))))
              (case aB => exact (by exact b12_0))
              (case aF => exact (by exact (fun k_ hk => Kd.fresh' (Kd.R_lt (by (with_reducible repeat (first | apply Kd.R_alloc | apply Kd.R_drewN | apply Kd.R_drew)); exact HO320.out)) k_ hk)))
              (case aO => exact (by exact (by (with_reducible repeat (first | apply Kd.R_alloc | apply Kd.R_drewN | apply Kd.R_drew)); exact Kd.R_mono HO_3.out (fun _ hk => hk.2))))
              (case aS => exact (by exact (below_size b12_0)))
              (case aL => have := LMc42.out; omega)
              intro v322 w48 ho hb hg hat
              rw [← Ny321.out] at ho
              have n0_ := Aside0.mk (blk_grown (g := gb296) (o := .cells #[.int .i64 a0_0, .int .i64 a0_1, .int .i64 a0_2, .int .i64 a0_3, .int .i64 a0_4, .int .i64 a0_5, .slice A0_6 l0_6.length c0_6] 35 (0, 0)) b12_1 hg (Kd.R_ne HO_3.out BK296.out (by decide)))
              have n1_ := Aside0.mk (Kd.R_after (ok := (fun _ => True)) (by (with_reducible repeat (first | apply Kd.R_alloc | apply Kd.R_drewN | apply Kd.R_drew)); exact HO320.out) hg hat)
              have n2_ := Aside0.mk (hb)
              have n3_ := Aside0.mk (ho)
              clear BK296
              clear HO320
              clear HB
              clear HO_3
              have BK296 := n0_
              have HO320 := n1_
              have HB := n2_
              have HO323 := n3_
              clear n0_ n1_ n2_ n3_
              clear ho hb hg hat
              refine hK.out _ _ ⟨(blk_cell BK296.out 0).trans rfl, (blk_cell BK296.out 1).trans rfl, (blk_cell BK296.out 2).trans rfl, (blk_cell BK296.out 3).trans rfl, (blk_cell BK296.out 4).trans rfl, (blk_cell BK296.out 5).trans rfl, (blk_cell BK296.out 6).trans rfl⟩ (fun hHeld => ?_)
              clear hK K
              refine norm_ (a' := ?_) ?_ ?_
              rotate_left
              ·show Act.put _ (some 59) _ = _
               simp only [Act.put, List.setIfInBounds_toArray, List.set_cons_zero, List.set_cons_succ, i64_w, i32_w]
               rfl
              refine pu_ 15 (some 3) (bl 16 65535) HT_.out rfl ?_
              refine done_ (done_of HT_.out (by kernel_rfl)) ?_
              try go_wp2
              go_ret
              exact ⟨_, by first | rfl | (simp [errW_none, errW_some] <;> rfl) | (simp only [← hji3]; first | rfl | (simp [errW_none, errW_some] <;> rfl)) | (simp [*, errW_none, errW_some] <;> rfl), by (with_reducible repeat (first | apply Kd.R_alloc | apply Kd.R_drewN | apply Kd.R_drew)); exact Kd.R_mono HO323.out (fun _ hk => trivial), by repeat (first | (with_reducible first | exact HB.out | apply below_alloc | apply pw_below_drewN | apply below_drew1 | refine below_set ?_ GE296.out) | exact HB.out)⟩
             ·rw [if_neg c42] at H
              exact absurd H (by simp)
            ·rw [if_neg c40] at H
             exact absurd H (by simp)
           ·rw [if_neg c39] at H
            exact absurd H (by simp)
          ·rw [if_neg c38] at H
           exact absurd H (by simp)
         ·rw [if_neg c36] at H
          have c36b0 : (a0_0 == 2) = false := beq_eq_false_iff_ne.mpr c36
          have c36b1 : (a0_0 != 2) = true := bne_iff_ne.mpr c36
          by_cases c50 : a0_0 = 3
          ·rw [if_pos c50] at H
           have c50b0 : (a0_0 == 3) = true := beq_iff_eq.mpr c50
           have c50b1 : (a0_0 != 3) = false := bne_eq_false_iff_eq.mpr c50
           clear c50
           have H' := Aside0.mk H
           clear H
           obtain ⟨hcz51_0, hcz51_1, hcz51_2, hcz51_3, hcz51_4, hcz51_5, hcz51_6, hfz51_0, hfz51_1, hfz51_2, hfz51_3, hfz51_4, hfz51_5, hfz51_6⟩ := cells7 BK296.out
           go_wp2
           go_loopg [3, 65] kj22 (fun kq v3 v65 w' => ∃ (x3_3 : List ByteArray) (x65_3 : Int), v65 = .int .i64 x65_3 ∧ Aside0 (impl_Node_wordsOf.l1 kq x3_3 l0_6 (l0_6.length : Int) x65_3 = some r) ∧ Aside0 (kq ≤ kj22) ∧ Aside0 (Kd.R Kd.string 9 w' w.heap.size (fun _ => True) v3 x3_3) ∧ Aside0 (w'.heap[gb296]? = some (.cells #[.int .i64 a0_0, .int .i64 a0_1, .int .i64 a0_2, .int .i64 a0_3, .int .i64 a0_4, .int .i64 a0_5, (.slice A0_6 l0_6.length c0_6)] 35 (0, 0))) ∧ Aside0 (Below w.heap.size w w'))
           case atStart => exact ⟨(x3_1), (0), (by first | rfl | (simp; done) | (simp [*]; done)), H', ⟨Nat.le_refl _⟩, ⟨by (with_reducible repeat (first | apply Kd.R_alloc | apply Kd.R_drewN | apply Kd.R_drew)); exact HO_3.out⟩, ⟨by (with_reducible repeat (first | refine blk_drewN ?_ _ | refine blk_drew ?_ | refine blk_alloc ?_ _)); exact BK296.out⟩, ⟨by repeat (first | (with_reducible first | exact HB.out | apply below_alloc | apply pw_below_drewN | apply below_drew1 | refine below_set ?_ GE296.out) | exact HB.out)⟩⟩
           case round =>
            clear H'
            try clear c1
            try clear c2
            try clear p2
            try clear c3
            try clear p3
            try clear q3
            try clear hx3
            try clear c4
            try clear c4b0
            try clear c5
            try clear c5b0
            try clear p6
            try clear c16
            try clear c16b0
            try clear c17
            try clear c17b0
            try clear c18
            try clear c18b0
            try clear c20
            try clear c23
            try clear c25
            try clear c25b0
            try clear c25b1
            try clear c26
            try clear c26b0
            try clear c26b1
            try clear c27
            try clear c27b0
            try clear c27b1
            try clear c28
            try clear c28b0
            try clear c28b1
            try clear c29
            try clear c29b0
            try clear c29b1
            try clear c30
            try clear p30
            try clear q30
            try clear hx30
            try clear c32
            try clear c36
            try clear c36b0
            try clear c36b1
            try clear c38
            try clear c38b0
            try clear c38b1
            try clear c39
            try clear c39b0
            try clear c39b1
            try clear c40
            try clear c40b0
            try clear c40b1
            try clear c42
            try clear c50
            try clear c50b0
            try clear c50b1
            try clear hcz13_0
            try clear hcz13_1
            try clear hcz13_2
            try clear hcz13_3
            try clear hcz13_4
            try clear hcz13_5
            try clear hcz13_6
            try clear hcz24_0
            try clear hcz24_1
            try clear hcz24_2
            try clear hcz24_3
            try clear hcz24_4
            try clear hcz24_5
            try clear hcz24_6
            try clear hcz33_0
            try clear hcz33_1
            try clear hcz33_2
            try clear hcz33_3
            try clear hcz33_4
            try clear hcz33_5
            try clear hcz33_6
            try clear hcz51_0
            try clear hcz51_1
            try clear hcz51_2
            try clear hcz51_3
            try clear hcz51_4
            try clear hcz51_5
            try clear hcz51_6
            try clear hfz13_0
            try clear hfz13_1
            try clear hfz13_2
            try clear hfz13_3
            try clear hfz13_4
            try clear hfz13_5
            try clear hfz13_6
            try clear hfz24_0
            try clear hfz24_1
            try clear hfz24_2
            try clear hfz24_3
            try clear hfz24_4
            try clear hfz24_5
            try clear hfz24_6
            try clear hfz33_0
            try clear hfz33_1
            try clear hfz33_2
            try clear hfz33_3
            try clear hfz33_4
            try clear hfz33_5
            try clear hfz33_6
            try clear hfz51_0
            try clear hfz51_1
            try clear hfz51_2
            try clear hfz51_3
            try clear hfz51_4
            try clear hfz51_5
            try clear hfz51_6
            try clear hx300_0
            try clear hx307_0
            try clear p2
            try clear p3
            try clear p300
            try clear p307
            try clear p6
            try clear q3
            try clear q300
            try clear q307
            obtain ⟨x3_3, x65_3, rfl, HA, HK3, HO_3, BK296, HB⟩ := hrel
            cases gk with
            | zero => exact absurd HA.out (by simp [impl_Node_wordsOf.l1])
            | succ k3 =>
             have H := HA.out
             clear HA
             simp only [impl_Node_wordsOf.l1] at H
             by_cases c52 : x65_3 < (l0_6.length : Int)
             ·rw [if_pos c52] at H
              have c52b0 : decide (x65_3 < (l0_6.length : Int)) = true := decide_eq_true c52
              clear c52
              by_cases c53 : 0 ≤ x65_3
              ·rw [if_pos c53] at H
               have c53b0 : decide (0 ≤ x65_3) = true := decide_eq_true c53
               clear c53
               by_cases c54 : x65_3 < (l0_6.length : Int)
               ·rw [if_pos c54] at H
                have c54b0 : decide (x65_3 < (l0_6.length : Int)) = true := decide_eq_true c54
                clear c54
                replace H := Option.bind_eq_some_iff.mp H
                obtain ⟨t325, A550, H⟩ := H
                replace H : (if x3_3.length < 8796093022208 then (impl_Node_wordsOf.l1 k3 (x3_3 ++ [t325]) l0_6 (l0_6.length : Int) (wrap64 (x65_3 + 1))) else (none)) = some r := H
                have A55 := Aside0.mk A550
                clear A550
                by_cases c56 : x3_3.length < 8796093022208
                ·rw [if_pos c56] at H
                 have LMc56 := Aside0.mk c56
                 clear c56
                 obtain ⟨y326, hy326⟩ : ∃ y_ : List ByteArray, y_ = (x3_3 ++ [t325]) := ⟨_, rfl⟩
                 replace H : (impl_Node_wordsOf.l1 k3 y326 l0_6 (l0_6.length : Int) (wrap64 (x65_3 + 1))) = some r := by first | (rw [hy326]; with_reducible exact H) | (have H2_ := (Option.bind_some _ _).symm.trans H; rw [hy326]; with_reducible exact H2_) | (have H2_ := (Option.bind_some _ _).symm.trans H; with_reducible exact H2_) | with_reducible exact H | (rw [hy326]; exact H) | exact H
                 have Ny326 := Aside0.mk hy326
                 clear hy326
                 have H' := Aside0.mk H
                 clear H
                 have p324 : 0 ≤ (x65_3 : Int) := of_decide_eq_true (by first | (with_reducible assumption) | assumption)
                 have q324 : x65_3 < (l0_6.length : Int) := of_decide_eq_true (by first | (with_reducible assumption) | assumption)
                 obtain ⟨ad324, e324, hx324_0⟩ := Kd.at_int HR0_6.out x65_3 p324 q324
                 cases e324
                 replace hx324_0 := (HB.out.cell (World.block_lt_of_cell? w _ hx324_0)).trans hx324_0
                 replace p324 := eq_true p324
                 replace q324 := eq_true q324
                 go_wp2_with (first | ((with_reducible refine gate_callee (f := 42) rfl ?_); refine goesL_ (some 71) rfl rfl Tryd.func42 (by kernel_rfl) rfl #[.int .i64 (rd l0_6 x65_3)] rfl b12_3 ?_; (with_reducible refine (impl_decimal.calls (rd l0_6 x65_3) t325 _ (Tab.tabB HTB_.out b12_0) A55.out).mono ?_); rintro e w57 ⟨rfl, hb⟩; refine ⟨_, rfl, ?_⟩; have n0_ := Aside0.mk (Kd.R_below b12_2 hb); have n1_ := Aside0.mk (blk_below (g := gb296) (o := .cells #[.int .i64 a0_0, .int .i64 a0_1, .int .i64 a0_2, .int .i64 a0_3, .int .i64 a0_4, .int .i64 a0_5, .slice (some ad324) l0_6.length c0_6] 35 (0, 0)) b12_1 hb); have n2_ := Aside0.mk (below_step b12_0 hb); clear HO_3; clear BK296; clear HB; have HO_3 := n0_; have BK296 := n1_; have HB := n2_; clear n0_ n1_ n2_; (try clear hb); (try clear hb2); (try clear hk); (try clear hi)) | ((with_reducible refine gate_builtin (b := .append) (xs := #[.tmp 69, .tmp 72]) rfl ?_); at_builtin; refine Kd.R_append Kd.string (w0 := w) w.heap.size rfl (.tmp 69) (.tmp 72) 40 9 (.string ⟨#[]⟩) 16 rfl Tryd.underlying40 info9 rfl (by decide) (by omega) u3 x3_3 t325 [.string t325] (fun _ => True) (fun _ => False) rfl rfl ?aP (fun _ hk => hk.elim) ?aF ?aO ?aB ?aS ?aL ?_; (case aP => exact rfl); (case aB => exact (by exact b12_0)); (case aF => exact (fun _ _ => trivial)); (case aO => exact (by exact b12_2)); (case aS => exact (by exact (below_size b12_0))); (case aL => have := LMc56.out; omega); intro v327 w58 ho hb hg hat; rw [← Ny326.out] at ho; have n0_ := Aside0.mk (blk_grown (g := gb296) (o := .cells #[.int .i64 a0_0, .int .i64 a0_1, .int .i64 a0_2, .int .i64 a0_3, .int .i64 a0_4, .int .i64 a0_5, .slice (some ad324) l0_6.length c0_6] 35 (0, 0)) b12_1 hg (Kd.R_ne HO_3.out BK296.out (by decide))); have n1_ := Aside0.mk (hb); have n2_ := Aside0.mk (ho); clear BK296; clear HB; clear HO_3; have BK296 := n0_; have HB := n1_; have HO328 := n2_; clear n0_ n1_ n2_; clear ho hb hg hat))
                 go_roundg k3
                 case measure => have := HK1.out; have := HJ22.out; have := HK3.out; omega
                 case rel => exact ⟨(y326), (wrap64 (x65_3 + 1)), (by first | rfl | (simp; done) | (simp [*]; done)), H', ⟨by have := HK1.out; have := HJ22.out; have := HK3.out; omega⟩, ⟨by (with_reducible repeat (first | apply Kd.R_alloc | apply Kd.R_drewN | apply Kd.R_drew)); exact HO328.out⟩, ⟨by (with_reducible repeat (first | refine blk_drewN ?_ _ | refine blk_drew ?_ | refine blk_alloc ?_ _)); exact BK296.out⟩, ⟨by repeat (first | (with_reducible first | exact HB.out | apply below_alloc | apply pw_below_drewN | apply below_drew1 | refine below_set ?_ GE296.out) | exact HB.out)⟩⟩
                ·rw [if_neg c56] at H
                 exact absurd H (by simp)
               ·rw [if_neg c54] at H
                exact absurd H (by simp)
              ·rw [if_neg c53] at H
               exact absurd H (by simp)
             ·rw [if_neg c52] at H
              have c52b0 : decide (x65_3 < (l0_6.length : Int)) = false := decide_eq_false c52
              clear c52
              obtain rfl := Option.some.inj H
              go_wp2
              go_ret
              exact ⟨_, by first | rfl | (simp [errW_none, errW_some] <;> rfl) | (simp only [← hji3]; first | rfl | (simp [errW_none, errW_some] <;> rfl)) | (simp [*, errW_none, errW_some] <;> rfl), by (with_reducible repeat (first | apply Kd.R_alloc | apply Kd.R_drewN | apply Kd.R_drew)); exact HO_3.out, by repeat (first | (with_reducible first | exact HB.out | apply below_alloc | apply pw_below_drewN | apply below_drew1 | refine below_set ?_ GE296.out) | exact HB.out)⟩
          ·rw [if_neg c50] at H
           have c50b0 : (a0_0 == 3) = false := beq_eq_false_iff_ne.mpr c50
           have c50b1 : (a0_0 != 3) = true := bne_iff_ne.mpr c50
           obtain rfl := Option.some.inj H
           go_wp2
           go_ret
           exact ⟨_, by first | rfl | (simp [errW_none, errW_some] <;> rfl) | (simp only [← hji3]; first | rfl | (simp [errW_none, errW_some] <;> rfl)) | (simp [*, errW_none, errW_some] <;> rfl), by (with_reducible repeat (first | apply Kd.R_alloc | apply Kd.R_drewN | apply Kd.R_drew)); exact HO_3.out, by repeat (first | (with_reducible first | exact HB.out | apply below_alloc | apply pw_below_drewN | apply below_drew1 | refine below_set ?_ GE296.out) | exact HB.out)⟩
  ·rw [if_neg c5] at H
   exact absurd H (by simp)
 ·rw [if_neg c4] at H
  exact absurd H (by simp)

end Go.Proofs.YteibdjkfkcckkaaDoor.PFnExactFormatPlan
