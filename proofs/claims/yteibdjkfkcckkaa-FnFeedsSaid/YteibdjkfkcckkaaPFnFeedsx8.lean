-- Written by fprint, a program of this session, out of Lean's own print of the translation. Lean checks it.
import Derived.Test.YteibdjkfkcckkaaDense
import Derived.Test.YteibdjkfkcckkaaShort
import Derived.Test.YteibdjkfkcckkaaPFnFeedsx0
import Derived.Test.YteibdjkfkcckkaaPFnFeedsx4
import Derived.Test.YteibdjkfkcckkaaPFnFeedsx5
import Derived.Test.YteibdjkfkcckkaaPFnFeedsx6
import Derived.Test.YteibdjkfkcckkaaPFnFeedsx7
namespace Go.Proofs.Yteibdjkfkcckkaa.PFnFeeds
open Go.RowKit Go.Proofs.YteibdjkfkcckkaaW.PrintWords Go.Proofs.YteibdjkfkcckkaaW.PrintLast Go.Proofs.YteibdjkfkcckkaaW.PrintMore
attribute [local go_sem] max2_int min2_int max_two min_two max_three min_three max_four min_four   -- for this text's walks alone
set_option linter.unusedVariables false
set_option linter.unusedSimpArgs false

theorem b8_0 {p : Prop} (h : p := by exact cB1_ GE185.out) : p := h
theorem b8_2 {p : Prop} (h : p := by exact cR_ HO_4.out) : p := h
theorem b8_4 {p : Prop} (h : p := by exact cO_ BK185.out) : p := h
theorem b8_5 {p : Prop} (h : p := by exact cC_ (Kd.C_below HR184_6.out HB.out)) : p := h
theorem q8_0 {p : Prop} (h : p := by first | exact Kd.R_nil _ _ _ _ _ | exact Kd.N_nil _ _ _ _ _ | exact Kd.V_nil _ _ _ _ _ | exact Kd.Q_nil _ _ _ _ _ | exact Kd.S_nil _ _ _ _ _) : p := h
/-! ### impl_looked: function 41 -/
mutual
def impl_looked.l0 : Nat → List (S58) → List Int → List (S58) → Int → Int → Option (List Int × Int)
 | 0, _, _, _, _, _ => none
 | k + 1, x0, x4, x15, x16, x17 => if x17 < x16 then (if 0 ≤ x17 then (if x17 < (x15.length : Int) then ((impl_in.f ((rd_T58 x15 x17).f0) 1 12).bind fun t186 => (if t186 = true then ((impl_Node_plain.f k ((rd_T58 x15 x17).f0) ((rd_T58 x15 x17).f1) ((rd_T58 x15 x17).f2) ((rd_T58 x15 x17).f3) ((rd_T58 x15 x17).f4) ((rd_T58 x15 x17).f5) ((rd_T58 x15 x17).f6)).bind fun bt187 => ((impl_sameNode.f k ((rd_T58 x15 x17).f0) ((rd_T58 x15 x17).f1) ((rd_T58 x15 x17).f2) ((rd_T58 x15 x17).f3) ((rd_T58 x15 x17).f4) ((rd_T58 x15 x17).f5) ((rd_T58 x15 x17).f6) bt187.1 bt187.2.1 bt187.2.2.1 bt187.2.2.2.1 bt187.2.2.2.2.1 bt187.2.2.2.2.2.1 bt187.2.2.2.2.2.2).bind fun t196 => (if t196 = true then ((impl_Node_reads.f ((rd_T58 x15 x17).f0) ((rd_T58 x15 x17).f1) ((rd_T58 x15 x17).f2) ((rd_T58 x15 x17).f3) ((rd_T58 x15 x17).f4) ((rd_T58 x15 x17).f5) ((rd_T58 x15 x17).f6)).bind fun t197 => (impl_looked.l1 k x0 x4 x17 x15 x16 x17 t197 (t197.length : Int) 0 ((rd_T58 x15 x17).f0) ((rd_T58 x15 x17).f1) ((rd_T58 x15 x17).f2) ((rd_T58 x15 x17).f3) ((rd_T58 x15 x17).f4) ((rd_T58 x15 x17).f5) ((rd_T58 x15 x17).f6))) else (some (([] : List Int), 1))))) else (some (([] : List Int), 5)))) else (none)) else (none)) else (some (x4, 0))
def impl_looked.l1 : Nat → List (S58) → List Int → Int → List (S58) → Int → Int → List Int → Int → Int → Int → Int → Int → Int → Int → Int → List Int → Option (List Int × Int)
 | 0, _, _, _, _, _, _, _, _, _, _, _, _, _, _, _, _ => none
 | k + 1, x0, x4, x5, x15, x16, x17, x34, x35, x36, x186000, x186001, x186002, x186003, x186004, x186005, x186006 => if x36 < x35 then (if 0 ≤ x36 then (if x36 < (x34.length : Int) then ((impl_in.f (rd x34 x36) 0 (wrap64 (x5 - 1))).bind fun t201 => (if t201 = true then (if 0 ≤ (rd x34 x36) then (if (rd x34 x36) < (x0.length : Int) then (if ((rd_T58 x0 (rd x34 x36)).f0) = 12 then (some (([] : List Int), 3)) else (impl_looked.l1 k x0 x4 x5 x15 x16 x17 x34 x35 (wrap64 (x36 + 1)) x186000 x186001 x186002 x186003 x186004 x186005 x186006)) else (none)) else (none)) else (some (([] : List Int), 3)))) else (none)) else (none)) else ((impl_Node_fault.f k x186000 x186001 x186002 x186003 x186004 x186005 x186006 x4).bind fun t203 => (if t203 = 0 then ((impl_Node_width.f x186000 x186001 x186002 x186003 x186004 x186005 x186006 x4).bind fun t204 => (if x4.length < 17592186044416 then (impl_looked.l0 k x0 (x4 ++ [t204]) x15 x16 (wrap64 (x17 + 1))) else (none))) else (some (([] : List Int), t203))))
end
def impl_looked.f (k : Nat) (l0 : List (S58)) : Option (List Int × Int) := (impl_Node.f l0).bind fun t179 => ((impl_in.f t179 1 8).bind fun t180 => (if t180 = true then (impl_looked.l0 k l0 (([] : List Int)) l0 (l0.length : Int) 0) else (some (([] : List Int), 2))))
theorem impl_looked.mono_l : ∀ k, (∀ y0 y1 y2 y3 y4, LeO (impl_looked.l0 k y0 y1 y2 y3 y4) (impl_looked.l0 (k + 1) y0 y1 y2 y3 y4)) ∧ (∀ y0 y1 y2 y3 y4 y5 y6 y7 y8 y9 y10 y11 y12 y13 y14 y15, LeO (impl_looked.l1 k y0 y1 y2 y3 y4 y5 y6 y7 y8 y9 y10 y11 y12 y13 y14 y15) (impl_looked.l1 (k + 1) y0 y1 y2 y3 y4 y5 y6 y7 y8 y9 y10 y11 y12 y13 y14 y15))
 | 0 => ⟨fun _ _ _ _ _ r h => by simp [impl_looked.l0] at h, fun _ _ _ _ _ _ _ _ _ _ _ _ _ _ _ _ r h => by simp [impl_looked.l1] at h⟩
 | k + 1 => by
  obtain ⟨ih0, ih1⟩ := impl_looked.mono_l k
  refine ⟨?_, ?_⟩
  ·intro y0 y1 y2 y3 y4
   unfold impl_looked.l0
   repeat' first
   | (with_reducible exact ih0 _ _ _ _ _)
   | (with_reducible exact ih1 _ _ _ _ _ _ _ _ _ _ _ _ _ _ _ _)
   | (with_reducible exact impl_Node_fault.mono _ _ _ _ _ _ _ _ _)
   | (with_reducible exact impl_Node_plain.mono _ _ _ _ _ _ _ _)
   | (with_reducible exact impl_sameNode.mono _ _ _ _ _ _ _ _ _ _ _ _ _ _ _)
   | (with_reducible exact LeO.refl _)
   | (with_reducible exact LeO.none _)
   | (with_reducible refine LeO.ite ?_ ?_)
   | (with_reducible refine LeO.bind ?_ (fun _ => ?_))
   | exact ih0 _ _ _ _ _
   | exact ih1 _ _ _ _ _ _ _ _ _ _ _ _ _ _ _ _
   | exact impl_Node_fault.mono _ _ _ _ _ _ _ _ _
   | exact impl_Node_plain.mono _ _ _ _ _ _ _ _
   | exact impl_sameNode.mono _ _ _ _ _ _ _ _ _ _ _ _ _ _ _
   | exact LeO.none _
   | refine LeO.ite ?_ ?_
   | refine LeO.bind ?_ (fun _ => ?_)
  ·intro y0 y1 y2 y3 y4 y5 y6 y7 y8 y9 y10 y11 y12 y13 y14 y15
   unfold impl_looked.l1
   repeat' first
   | (with_reducible exact ih0 _ _ _ _ _)
   | (with_reducible exact ih1 _ _ _ _ _ _ _ _ _ _ _ _ _ _ _ _)
   | (with_reducible exact impl_Node_fault.mono _ _ _ _ _ _ _ _ _)
   | (with_reducible exact impl_Node_plain.mono _ _ _ _ _ _ _ _)
   | (with_reducible exact impl_sameNode.mono _ _ _ _ _ _ _ _ _ _ _ _ _ _ _)
   | (with_reducible exact LeO.refl _)
   | (with_reducible exact LeO.none _)
   | (with_reducible refine LeO.ite ?_ ?_)
   | (with_reducible refine LeO.bind ?_ (fun _ => ?_))
   | exact ih0 _ _ _ _ _
   | exact ih1 _ _ _ _ _ _ _ _ _ _ _ _ _ _ _ _
   | exact impl_Node_fault.mono _ _ _ _ _ _ _ _ _
   | exact impl_Node_plain.mono _ _ _ _ _ _ _ _
   | exact impl_sameNode.mono _ _ _ _ _ _ _ _ _ _ _ _ _ _ _
   | exact LeO.none _
   | refine LeO.ite ?_ ?_
   | refine LeO.bind ?_ (fun _ => ?_)
theorem impl_looked.mono : ∀ a0 k, LeO (impl_looked.f k a0) (impl_looked.f (k + 1) a0) := by
 intro a0 k
 obtain ⟨ih0, ih1⟩ := impl_looked.mono_l k
 unfold impl_looked.f
 repeat' first
   | (with_reducible exact ih0 _ _ _ _ _)
   | (with_reducible exact ih1 _ _ _ _ _ _ _ _ _ _ _ _ _ _ _ _)
   | (with_reducible exact impl_Node_fault.mono _ _ _ _ _ _ _ _ _)
   | (with_reducible exact impl_Node_plain.mono _ _ _ _ _ _ _ _)
   | (with_reducible exact impl_sameNode.mono _ _ _ _ _ _ _ _ _ _ _ _ _ _ _)
   | (with_reducible exact LeO.refl _)
   | (with_reducible exact LeO.none _)
   | (with_reducible refine LeO.ite ?_ ?_)
   | (with_reducible refine LeO.bind ?_ (fun _ => ?_))
   | exact ih0 _ _ _ _ _
   | exact ih1 _ _ _ _ _ _ _ _ _ _ _ _ _ _ _ _
   | exact impl_Node_fault.mono _ _ _ _ _ _ _ _ _
   | exact impl_Node_plain.mono _ _ _ _ _ _ _ _
   | exact impl_sameNode.mono _ _ _ _ _ _ _ _ _ _ _ _ _ _ _
   | exact LeO.none _
   | refine LeO.ite ?_ ?_
   | refine LeO.bind ?_ (fun _ => ?_)
set_option maxHeartbeats 8000000 in
set_option maxRecDepth 100000 in
theorem impl_looked.calls (k : Nat) (A0 : Option Addr) (c0 : Nat) (l0 : List (S58)) (r1 : List Int) (r2 : Int) (w : World) (hr0 : Kd.C k58 w A0 l0.length l0) (hc0 : l0.length ≤ c0) (h : impl_looked.f k l0 = some (r1, r2)) :
  Calls Try.prog 41 #[.slice A0 l0.length c0] w fun e w' => ∃ v0_ : Value, e = .returned (.tuple #[v0_, .int .i64 r2]) ∧ Kd.R (Kd.int .i64) 2 w' w.heap.size (fun _ => True) v0_ r1 ∧ Below w.heap.size w w' := by
 have hu58 := Try.underlying58
 have HR0 := Aside0.mk hr0
 have HC0 := Aside0.mk hc0
 clear hr0 hc0
 have HB := Aside0.mk (Below.refl w.heap.size w)
 have H : ((impl_Node.f l0).bind fun t179 => ((impl_in.f t179 1 8).bind fun t180 => (if t180 = true then (impl_looked.l0 k l0 (([] : List Int)) l0 (l0.length : Int) 0) else (some (([] : List Int), 2))))) = some (r1, r2) := h
 clear h
 obtain ⟨t179, A2, H⟩ := bnd_ H
 try dsimp only at H
 obtain ⟨t180, A3, H⟩ := bnd_ H
 try dsimp only at H
 by_cases c4 : t180 = true
 rotate_left
 ·replace c4 := Bool.eq_false_iff.mpr c4
  subst c4
  rw [if_neg (show ¬ (false = true) by decide)] at H
  simp only [Option.some.injEq, Prod.mk.injEq] at H
  obtain ⟨rfl, rfl⟩ := H
  go_enter Try.func41, Try.ntmps41
  go_wp2_with (first | (refine gl_ 48 (some 11) Try.func48 #[.slice A0 l0.length c0] ?_; (with_reducible refine (impl_Node.calls _ _ l0 t179 _ ?side1 ?side2 A2.out).mono ?_); (case side1 => exact cC_ HR0.out); (case side2 => exact HC0.out); rintro e w' ⟨rfl, ⟨nd, rfl⟩⟩; refine ⟨_, rfl, ?_⟩) | (refine gl_ 47 (some 12) Try.func47 #[.int .i64 t179, .int .i64 1, .int .i64 8] ?_; (with_reducible refine (impl_in.calls t179 1 8 false _ A3.out).mono ?_); rintro e w' ⟨rfl, ⟨nd, rfl⟩⟩; refine ⟨_, rfl, ?_⟩))
  go_ret2
  exact ⟨_, ce_, q8_0, cB0_⟩
 subst c4
 rw [if_pos rfl] at H
 obtain ⟨y181, hy_⟩ : ∃ y_ : List Int, y_ = (([] : List Int)) := ⟨_, rfl⟩
 replace H : (impl_looked.l0 k l0 y181 l0 (l0.length : Int) 0) = some (r1, r2) := yb_
 have Ny181 := Aside0.mk hy_
 clear hy_
 have H' := Aside0.mk H
 clear H
 go_enter Try.func41, Try.ntmps41
 go_wp2_with (first | (refine gl_ 48 (some 11) Try.func48 #[.slice A0 l0.length c0] ?_; (with_reducible refine (impl_Node.calls _ _ l0 t179 _ ?side1 ?side2 A2.out).mono ?_); (case side1 => exact cC_ HR0.out); (case side2 => exact HC0.out); rintro e w' ⟨rfl, ⟨nd, rfl⟩⟩; refine ⟨_, rfl, ?_⟩) | (refine gl_ 47 (some 12) Try.func47 #[.int .i64 t179, .int .i64 1, .int .i64 8] ?_; (with_reducible refine (impl_in.calls t179 1 8 true _ A3.out).mono ?_); rintro e w' ⟨rfl, ⟨nd, rfl⟩⟩; refine ⟨_, rfl, ?_⟩) | ((with_reducible refine gate_dst (N := 14) rfl ?_); refine Kd.R_lit (Kd.int .i64) _ 2 ?hg (N := 14) ?hd (xs := ([] : List Int)) (inner := []) (ok := fun _ => True) (okp := fun _ => True) ?hr ?hp (fun _ hk => hk) trivial (Below.refl _ _) (Nat.le_refl _) (by simp) ?_; (case hd => rfl); (case hg => rfl); (case hr => first | (go_simp; done) | (go_simp; rfl)); (case hp => exact (Reps.none _ _)); intro v182 w5 ho6 hb hg_ hnew_; clear hg_ hnew_; (first | rw [← Ny181.out] at ho6 | (simp only [Int.reduceToNat] at ho6; rw [← Ny181.out] at ho6)); have HO183 := Aside0.mk (Kd.R_lower ho6 (below_size cB0_)); replace HB := Aside0.mk (below_step cB0_ hb); clear hb ho6))
 go_loopg [4, 17] k (fun kq v4 v17 w' => ∃ (x4_1 : List Int) (x17_1 : Int), v17 = .int .i64 x17_1 ∧ Aside0 (impl_looked.l0 kq l0 x4_1 l0 (l0.length : Int) x17_1 = some (r1, r2)) ∧ Aside0 (kq ≤ k) ∧ Aside0 (Kd.R (Kd.int .i64) 2 w' w.heap.size (fun _ => True) v4 x4_1) ∧ Aside0 (Below w.heap.size w w'))
 case atStart => exact ⟨(y181), (0), cs_, H', ⟨Nat.le_refl _⟩, ⟨cR_ HO183.out⟩, ⟨cB0_⟩⟩
 case round =>
  clear H'
  try clear p2
  try clear c4
  obtain ⟨x4_1, x17_1, rfl, HA, HK1, HO_4, HB⟩ := hrel
  cases gk with
  | zero => exact absurd HA.out (by simp [impl_looked.l0])
  | succ k1 =>
   have H := HA.out
   clear HA
   simp only [impl_looked.l0] at H
   by_cases c7 : x17_1 < (l0.length : Int)
   rotate_left
   ·rw [if_neg c7] at H
    have c7b0 : decide (x17_1 < (l0.length : Int)) = false := decide_eq_false c7
    clear c7
    simp only [Option.some.injEq, Prod.mk.injEq] at H
    obtain ⟨rfl, rfl⟩ := H
    go_wp2
    go_ret2
    exact ⟨_, ce_, cR_ HO_4.out, cB0_⟩
   rw [if_pos c7] at H
   have c7b0 : decide (x17_1 < (l0.length : Int)) = true := decide_eq_true c7
   clear c7
   by_cases c8 : 0 ≤ x17_1
   rotate_left
   ·rw [if_neg c8] at H
    exact absurd H (by simp)
   rw [if_pos c8] at H
   have c8b0 : decide (0 ≤ x17_1) = true := decide_eq_true c8
   clear c8
   by_cases c9 : x17_1 < (l0.length : Int)
   rotate_left
   ·rw [if_neg c9] at H
    exact absurd H (by simp)
   rw [if_pos c9] at H
   have c9b0 : decide (x17_1 < (l0.length : Int)) = true := decide_eq_true c9
   clear c9
   obtain ⟨t186, A10, H⟩ := bnd_ H
   try dsimp only at H
   by_cases c11 : t186 = true
   rotate_left
   ·replace c11 := Bool.eq_false_iff.mpr c11
    subst c11
    rw [if_neg (show ¬ (false = true) by decide)] at H
    simp only [Option.some.injEq, Prod.mk.injEq] at H
    obtain ⟨rfl, rfl⟩ := H
    have p184 : 0 ≤ (x17_1 : Int) := of_decide_eq_true ca_
    have q184 : x17_1 < (l0.length : Int) := of_decide_eq_true ca_
    obtain ⟨ad184, A184_6, c184_6, e184, hx184_0, hx184_1, hx184_2, hx184_3, hx184_4, hx184_5, hx184_6, hl184_6, hi184_6⟩ := at_T58 HR0.out x17_1 p184 q184
    cases e184
    replace hx184_0 := (HB.out.cell (World.block_lt_of_cell? w _ hx184_0)).trans hx184_0
    replace hx184_1 := (HB.out.cell (World.block_lt_of_cell? w _ hx184_1)).trans hx184_1
    replace hx184_2 := (HB.out.cell (World.block_lt_of_cell? w _ hx184_2)).trans hx184_2
    replace hx184_3 := (HB.out.cell (World.block_lt_of_cell? w _ hx184_3)).trans hx184_3
    replace hx184_4 := (HB.out.cell (World.block_lt_of_cell? w _ hx184_4)).trans hx184_4
    replace hx184_5 := (HB.out.cell (World.block_lt_of_cell? w _ hx184_5)).trans hx184_5
    replace hx184_6 := (HB.out.cell (World.block_lt_of_cell? w _ hx184_6)).trans hx184_6
    have HR184_6 := Aside0.mk hi184_6
    have HC184_6 := Aside0.mk hl184_6
    clear hi184_6 hl184_6
    replace p184 := eq_true p184
    replace q184 := eq_true q184
    go_wp2_with (first | (refine bx_ 6 #[.int .i64 0, .int .i64 0, .int .i64 0, .int .i64 0, .int .i64 0, .int .i64 0, .slice none 0 0] 58 ?_; intro gb185 hg w54 hbox hb; replace HO_4 := Aside0.mk (Kd.R_below b8_2 hb); have BK185 := Aside0.mk (hbox); have GW185 := Aside0.mk ((by rw [hg]; exact (below_size cB0_) : w.heap.size ≤ gb185)); have GE185 := Aside0.mk ((by rw [hg]; exact (below_size cB0_) : w.heap.size ≤ gb185)); replace HB := Aside0.mk (below_step cB0_ hb); clear hb hbox hg; obtain ⟨hcz55_0, hcz55_1, hcz55_2, hcz55_3, hcz55_4, hcz55_5, hcz55_6, hfz55_0, hfz55_1, hfz55_2, hfz55_3, hfz55_4, hfz55_5, hfz55_6⟩ := cells7 BK185.out) | (refine gl_ 47 (some 25) Try.func47 #[.int .i64 ((rd_T58 l0 x17_1).f0), .int .i64 1, .int .i64 12] ?_; (with_reducible refine (impl_in.calls ((rd_T58 l0 x17_1).f0) 1 12 false _ A10.out).mono ?_); rintro e w' ⟨rfl, ⟨nd, rfl⟩⟩; refine ⟨_, rfl, ?_⟩))
    go_ret2
    exact ⟨_, ce_, q8_0, cB1_ GE185.out⟩
   subst c11
   rw [if_pos rfl] at H
   obtain ⟨⟨t187, t188, t189, t190, t191, t192, t193⟩, A12, H⟩ := bnd_ H
   try dsimp only at H
   obtain ⟨t196, A13, H⟩ := bnd_ H
   try dsimp only at H
   by_cases c14 : t196 = true
   rotate_left
   ·replace c14 := Bool.eq_false_iff.mpr c14
    subst c14
    rw [if_neg (show ¬ (false = true) by decide)] at H
    simp only [Option.some.injEq, Prod.mk.injEq] at H
    obtain ⟨rfl, rfl⟩ := H
    have p184 : 0 ≤ (x17_1 : Int) := of_decide_eq_true ca_
    have q184 : x17_1 < (l0.length : Int) := of_decide_eq_true ca_
    obtain ⟨ad184, A184_6, c184_6, e184, hx184_0, hx184_1, hx184_2, hx184_3, hx184_4, hx184_5, hx184_6, hl184_6, hi184_6⟩ := at_T58 HR0.out x17_1 p184 q184
    cases e184
    replace hx184_0 := (HB.out.cell (World.block_lt_of_cell? w _ hx184_0)).trans hx184_0
    replace hx184_1 := (HB.out.cell (World.block_lt_of_cell? w _ hx184_1)).trans hx184_1
    replace hx184_2 := (HB.out.cell (World.block_lt_of_cell? w _ hx184_2)).trans hx184_2
    replace hx184_3 := (HB.out.cell (World.block_lt_of_cell? w _ hx184_3)).trans hx184_3
    replace hx184_4 := (HB.out.cell (World.block_lt_of_cell? w _ hx184_4)).trans hx184_4
    replace hx184_5 := (HB.out.cell (World.block_lt_of_cell? w _ hx184_5)).trans hx184_5
    replace hx184_6 := (HB.out.cell (World.block_lt_of_cell? w _ hx184_6)).trans hx184_6
    have HR184_6 := Aside0.mk hi184_6
    have HC184_6 := Aside0.mk hl184_6
    clear hi184_6 hl184_6
    replace p184 := eq_true p184
    replace q184 := eq_true q184
    try go_wp2_with (first | (refine bx_ 6 #[.int .i64 0, .int .i64 0, .int .i64 0, .int .i64 0, .int .i64 0, .int .i64 0, .slice none 0 0] 58 ?_; intro gb185 hg w47 hbox hb; replace HO_4 := Aside0.mk (Kd.R_below b8_2 hb); have BK185 := Aside0.mk (hbox); have GW185 := Aside0.mk ((by rw [hg]; exact (below_size cB0_) : w.heap.size ≤ gb185)); have GE185 := Aside0.mk ((by rw [hg]; exact (below_size cB0_) : w.heap.size ≤ gb185)); replace HB := Aside0.mk (below_step cB0_ hb); clear hb hbox hg; obtain ⟨hcz48_0, hcz48_1, hcz48_2, hcz48_3, hcz48_4, hcz48_5, hcz48_6, hfz48_0, hfz48_1, hfz48_2, hfz48_3, hfz48_4, hfz48_5, hfz48_6⟩ := cells7 BK185.out) | (refine gl_ 47 (some 25) Try.func47 #[.int .i64 ((rd_T58 l0 x17_1).f0), .int .i64 1, .int .i64 12] ?_; (with_reducible refine (impl_in.calls ((rd_T58 l0 x17_1).f0) 1 12 true _ A10.out).mono ?_); rintro e w' ⟨rfl, ⟨nd, rfl⟩⟩; refine ⟨_, rfl, ?_⟩))
    have n0_ : Aside0 (Kd.R (Kd.int .i64) 2 (((((((w47.setCell ⟨gb185, 0, none⟩ (.int .i64 ((rd_T58 l0 x17_1).f0))).setCell ⟨gb185, 1, none⟩ (.int .i64 ((rd_T58 l0 x17_1).f1))).setCell ⟨gb185, 2, none⟩ (.int .i64 ((rd_T58 l0 x17_1).f2))).setCell ⟨gb185, 3, none⟩ (.int .i64 ((rd_T58 l0 x17_1).f3))).setCell ⟨gb185, 4, none⟩ (.int .i64 ((rd_T58 l0 x17_1).f4))).setCell ⟨gb185, 5, none⟩ (.int .i64 ((rd_T58 l0 x17_1).f5))).setCell ⟨gb185, 6, none⟩ (.slice A184_6 ((rd_T58 l0 x17_1).f6).length c184_6)) w.heap.size (fun _ => True) u4 x4_1) := ⟨by refine cR_ ?_; exact Kd.R_mono (Kd.R_far (p := ⟨gb185, 6, none⟩) (Kd.R_far (p := ⟨gb185, 5, none⟩) (Kd.R_far (p := ⟨gb185, 4, none⟩) (Kd.R_far (p := ⟨gb185, 3, none⟩) (Kd.R_far (p := ⟨gb185, 2, none⟩) (Kd.R_far (p := ⟨gb185, 1, none⟩) (Kd.R_far (p := ⟨gb185, 0, none⟩) (Kd.R_types HO_4.out BK185.out (by decide)) (fun _ hk => hk.2) (.int .i64 ((rd_T58 l0 x17_1).f0))) (fun _ hk => hk.2) (.int .i64 ((rd_T58 l0 x17_1).f1))) (fun _ hk => hk.2) (.int .i64 ((rd_T58 l0 x17_1).f2))) (fun _ hk => hk.2) (.int .i64 ((rd_T58 l0 x17_1).f3))) (fun _ hk => hk.2) (.int .i64 ((rd_T58 l0 x17_1).f4))) (fun _ hk => hk.2) (.int .i64 ((rd_T58 l0 x17_1).f5))) (fun _ hk => hk.2) (.slice A184_6 ((rd_T58 l0 x17_1).f6).length c184_6)) (fun _ hk => trivial)⟩
    have n1_ : Aside0 ((((((((w47.setCell ⟨gb185, 0, none⟩ (.int .i64 ((rd_T58 l0 x17_1).f0))).setCell ⟨gb185, 1, none⟩ (.int .i64 ((rd_T58 l0 x17_1).f1))).setCell ⟨gb185, 2, none⟩ (.int .i64 ((rd_T58 l0 x17_1).f2))).setCell ⟨gb185, 3, none⟩ (.int .i64 ((rd_T58 l0 x17_1).f3))).setCell ⟨gb185, 4, none⟩ (.int .i64 ((rd_T58 l0 x17_1).f4))).setCell ⟨gb185, 5, none⟩ (.int .i64 ((rd_T58 l0 x17_1).f5))).setCell ⟨gb185, 6, none⟩ (.slice A184_6 ((rd_T58 l0 x17_1).f6).length c184_6)).heap[gb185]? = some (.cells #[.int .i64 ((rd_T58 l0 x17_1).f0), .int .i64 ((rd_T58 l0 x17_1).f1), .int .i64 ((rd_T58 l0 x17_1).f2), .int .i64 ((rd_T58 l0 x17_1).f3), .int .i64 ((rd_T58 l0 x17_1).f4), .int .i64 ((rd_T58 l0 x17_1).f5), .slice A184_6 ((rd_T58 l0 x17_1).f6).length c184_6] 58 (0, 0))) := ⟨by refine cO_ ?_; refine blk_put (cs := #[.int .i64 ((rd_T58 l0 x17_1).f0), .int .i64 ((rd_T58 l0 x17_1).f1), .int .i64 ((rd_T58 l0 x17_1).f2), .int .i64 ((rd_T58 l0 x17_1).f3), .int .i64 ((rd_T58 l0 x17_1).f4), .int .i64 ((rd_T58 l0 x17_1).f5), .slice none 0 0]) ?_ 6 _ rfl; refine cO_ ?_; refine blk_put (cs := #[.int .i64 ((rd_T58 l0 x17_1).f0), .int .i64 ((rd_T58 l0 x17_1).f1), .int .i64 ((rd_T58 l0 x17_1).f2), .int .i64 ((rd_T58 l0 x17_1).f3), .int .i64 ((rd_T58 l0 x17_1).f4), .int .i64 0, .slice none 0 0]) ?_ 5 _ rfl; refine cO_ ?_; refine blk_put (cs := #[.int .i64 ((rd_T58 l0 x17_1).f0), .int .i64 ((rd_T58 l0 x17_1).f1), .int .i64 ((rd_T58 l0 x17_1).f2), .int .i64 ((rd_T58 l0 x17_1).f3), .int .i64 0, .int .i64 0, .slice none 0 0]) ?_ 4 _ rfl; refine cO_ ?_; refine blk_put (cs := #[.int .i64 ((rd_T58 l0 x17_1).f0), .int .i64 ((rd_T58 l0 x17_1).f1), .int .i64 ((rd_T58 l0 x17_1).f2), .int .i64 0, .int .i64 0, .int .i64 0, .slice none 0 0]) ?_ 3 _ rfl; refine cO_ ?_; refine blk_put (cs := #[.int .i64 ((rd_T58 l0 x17_1).f0), .int .i64 ((rd_T58 l0 x17_1).f1), .int .i64 0, .int .i64 0, .int .i64 0, .int .i64 0, .slice none 0 0]) ?_ 2 _ rfl; refine cO_ ?_; refine blk_put (cs := #[.int .i64 ((rd_T58 l0 x17_1).f0), .int .i64 0, .int .i64 0, .int .i64 0, .int .i64 0, .int .i64 0, .slice none 0 0]) ?_ 1 _ rfl; refine cO_ ?_; refine blk_put (cs := #[.int .i64 0, .int .i64 0, .int .i64 0, .int .i64 0, .int .i64 0, .int .i64 0, .slice none 0 0]) ?_ 0 _ rfl; refine cO_ ?_; exact BK185.out⟩
    have n2_ : Aside0 (Below w.heap.size w (((((((w47.setCell ⟨gb185, 0, none⟩ (.int .i64 ((rd_T58 l0 x17_1).f0))).setCell ⟨gb185, 1, none⟩ (.int .i64 ((rd_T58 l0 x17_1).f1))).setCell ⟨gb185, 2, none⟩ (.int .i64 ((rd_T58 l0 x17_1).f2))).setCell ⟨gb185, 3, none⟩ (.int .i64 ((rd_T58 l0 x17_1).f3))).setCell ⟨gb185, 4, none⟩ (.int .i64 ((rd_T58 l0 x17_1).f4))).setCell ⟨gb185, 5, none⟩ (.int .i64 ((rd_T58 l0 x17_1).f5))).setCell ⟨gb185, 6, none⟩ (.slice A184_6 ((rd_T58 l0 x17_1).f6).length c184_6))) := ⟨cB1_ GE185.out⟩
    (try clear HO_4)
    (try clear BK185)
    (try clear HB)
    generalize (((((((w47.setCell ⟨gb185, 0, none⟩ (.int .i64 ((rd_T58 l0 x17_1).f0))).setCell ⟨gb185, 1, none⟩ (.int .i64 ((rd_T58 l0 x17_1).f1))).setCell ⟨gb185, 2, none⟩ (.int .i64 ((rd_T58 l0 x17_1).f2))).setCell ⟨gb185, 3, none⟩ (.int .i64 ((rd_T58 l0 x17_1).f3))).setCell ⟨gb185, 4, none⟩ (.int .i64 ((rd_T58 l0 x17_1).f4))).setCell ⟨gb185, 5, none⟩ (.int .i64 ((rd_T58 l0 x17_1).f5))).setCell ⟨gb185, 6, none⟩ (.slice A184_6 ((rd_T58 l0 x17_1).f6).length c184_6)) = w49 at n0_ n1_ n2_ ⊢
    have HO_4 := n0_
    have BK185 := n1_
    have HB := n2_
    clear n0_ n1_ n2_
    (try simp only [World.drewN_drewN]); (try (rw [drewN_self w49]; generalize hq_ : World.drewN w49 _ = w49; have n0_ : Aside0 (Kd.R (Kd.int .i64) 2 w49 w.heap.size (fun _ => True) u4 x4_1) := ⟨by rw [← hq_]; exact b8_2⟩; have n1_ : Aside0 (w49.heap[gb185]? = some (.cells #[.int .i64 ((rd_T58 l0 x17_1).f0), .int .i64 ((rd_T58 l0 x17_1).f1), .int .i64 ((rd_T58 l0 x17_1).f2), .int .i64 ((rd_T58 l0 x17_1).f3), .int .i64 ((rd_T58 l0 x17_1).f4), .int .i64 ((rd_T58 l0 x17_1).f5), .slice A184_6 ((rd_T58 l0 x17_1).f6).length c184_6] 58 (0, 0))) := ⟨by rw [← hq_]; exact b8_4⟩; have n2_ : Aside0 (Below w.heap.size w w49) := ⟨by rw [← hq_]; exact b8_0⟩; clear HO_4 BK185 HB hq_; have HO_4 := n0_; have BK185 := n1_; have HB := n2_; clear n0_ n1_ n2_))
    replace HO_4 := Aside0.mk (Kd.R_drew HO_4.out)
    replace BK185 := Aside0.mk (blk_drew BK185.out)
    replace HB := Aside0.mk (below_drew1 HB.out)
    refine start_ (n := 6) (S := fun w' => w'.cell? ⟨gb185, 0, none⟩ = some (.int .i64 ((rd_T58 l0 x17_1).f0)) ∧ w'.cell? ⟨gb185, 1, none⟩ = some (.int .i64 ((rd_T58 l0 x17_1).f1)) ∧ w'.cell? ⟨gb185, 2, none⟩ = some (.int .i64 ((rd_T58 l0 x17_1).f2)) ∧ w'.cell? ⟨gb185, 3, none⟩ = some (.int .i64 ((rd_T58 l0 x17_1).f3)) ∧ w'.cell? ⟨gb185, 4, none⟩ = some (.int .i64 ((rd_T58 l0 x17_1).f4)) ∧ w'.cell? ⟨gb185, 5, none⟩ = some (.int .i64 ((rd_T58 l0 x17_1).f5)) ∧ w'.cell? ⟨gb185, 6, none⟩ = some (.slice A184_6 ((rd_T58 l0 x17_1).f6).length c184_6)) (ds := []) (bl 6 0) (by kernel_rfl) rfl rfl ⟨(blk_cell BK185.out 0).trans rfl, (blk_cell BK185.out 1).trans rfl, (blk_cell BK185.out 2).trans rfl, (blk_cell BK185.out 3).trans rfl, (blk_cell BK185.out 4).trans rfl, (blk_cell BK185.out 5).trans rfl, (blk_cell BK185.out 6).trans rfl⟩ (fun hHeld => ?_)
    generalize w49.drew = w50 at HO_4 BK185 HB hHeld ⊢
    refine tk_ 0 (some 28) (bl 6 1) rfl hHeld (fun w' s_ => by obtain ⟨s0, s1, s2, s3, s4, s5, s6⟩ := s_; go_simp; with_reducible rfl) ?_
    refine tk_ 1 (some 29) (bl 6 3) rfl hHeld (fun w' s_ => by obtain ⟨s0, s1, s2, s3, s4, s5, s6⟩ := s_; go_simp; with_reducible rfl) ?_
    refine ok_ 2 (some 30) (bl 6 7) rfl (fun K hK => ?_)
    refine goes_ Try.func76 (by kernel_rfl) rfl #[.agg #[.int .i64 ((rd_T58 l0 x17_1).f0), .int .i64 ((rd_T58 l0 x17_1).f1), .int .i64 ((rd_T58 l0 x17_1).f2), .int .i64 ((rd_T58 l0 x17_1).f3), .int .i64 ((rd_T58 l0 x17_1).f4), .int .i64 ((rd_T58 l0 x17_1).f5), .slice A184_6 ((rd_T58 l0 x17_1).f6).length c184_6]] (by rfl) rfl rfl cx_ ?_
    with_reducible refine (impl_Node_plain.calls k1 ((rd_T58 l0 x17_1).f0) ((rd_T58 l0 x17_1).f1) ((rd_T58 l0 x17_1).f2) ((rd_T58 l0 x17_1).f3) ((rd_T58 l0 x17_1).f4) ((rd_T58 l0 x17_1).f5) (fun k_ => k_ < w.heap.size) _ _ ((rd_T58 l0 x17_1).f6) t187 t188 t189 t190 t191 t192 t193 _ ?side1 A12.out).mono ?_
    (case side1 => exact (by exact Kd.V_mk HC184_6.out (Kd.F_below (Kd.C_F (Kd.heap_int .i64) HR184_6.out) b8_0)))
    rintro e w51 ⟨v194, rfl, ho0, hb⟩
    refine ⟨_, rfl, ?_⟩
    have HO195 := Aside0.mk (Kd.V_lower (Kd.V_mono (ok' := fun k_ => some k_ ≠ (u4 : Value).ownBlock ∧ k_ ≠ gb185) ho0 (fun k_ hk_ => ⟨Or.elim hk_ (fun hs_ => fun e_ => Nat.not_le.2 hs_ (Kd.R_base HO_4.out k_ e_.symm)) (fun hn_ => (Kd.fresh' (Kd.R_lt b8_2) k_ hn_)), Or.elim hk_ (fun hs_ => fun e_ => Nat.not_le.2 hs_ (by rw [e_]; exact GW185.out)) (fun hn_ => (Kd.freshB (g := gb185) (o := .cells #[.int .i64 ((rd_T58 l0 x17_1).f0), .int .i64 ((rd_T58 l0 x17_1).f1), .int .i64 ((rd_T58 l0 x17_1).f2), .int .i64 ((rd_T58 l0 x17_1).f3), .int .i64 ((rd_T58 l0 x17_1).f4), .int .i64 ((rd_T58 l0 x17_1).f5), .slice A184_6 ((rd_T58 l0 x17_1).f6).length c184_6] 58 (0, 0)) b8_4 k_ hn_))⟩)) (below_size b8_0))
    replace HO_4 := Aside0.mk (Kd.R_below b8_2 hb)
    replace BK185 := Aside0.mk (blk_below (g := gb185) (o := .cells #[.int .i64 ((rd_T58 l0 x17_1).f0), .int .i64 ((rd_T58 l0 x17_1).f1), .int .i64 ((rd_T58 l0 x17_1).f2), .int .i64 ((rd_T58 l0 x17_1).f3), .int .i64 ((rd_T58 l0 x17_1).f4), .int .i64 ((rd_T58 l0 x17_1).f5), .slice A184_6 ((rd_T58 l0 x17_1).f6).length c184_6] 58 (0, 0)) b8_4 hb)
    replace HB := Aside0.mk (below_step b8_0 hb)
    (try clear hb)
    (try clear hb2)
    (try clear hk)
    (try clear hi)
    (try clear ho0)
    obtain ⟨Ao52, co52, eo52⟩ := Kd.V_slice HO195.out
    (first | subst eo52 | (injection eo52 with f1_ f2_ f3_; have f4_ := f1_.symm; have f5_ := f3_.symm; clear f1_ f2_ f3_; subst f4_; subst f5_))
    refine hK.out _ _ ⟨(blk_cell BK185.out 0).trans rfl, (blk_cell BK185.out 1).trans rfl, (blk_cell BK185.out 2).trans rfl, (blk_cell BK185.out 3).trans rfl, (blk_cell BK185.out 4).trans rfl, (blk_cell BK185.out 5).trans rfl, (blk_cell BK185.out 6).trans rfl⟩ (fun hHeld => ?_)
    clear hK K
    refine norm_ (a' := ?_) ?_ ?_
    rotate_left
    ·show Act.put _ (some 30) _ = _
     simp only [Act.put, List.setIfInBounds_toArray, List.set_cons_zero, List.set_cons_succ, i64_w, i32_w]
     rfl
    refine ok_ 3 (some 31) (bl 6 15) rfl (fun K hK => ?_)
    refine goes_ Try.func75 (by kernel_rfl) rfl #[.agg #[.int .i64 ((rd_T58 l0 x17_1).f0), .int .i64 ((rd_T58 l0 x17_1).f1), .int .i64 ((rd_T58 l0 x17_1).f2), .int .i64 ((rd_T58 l0 x17_1).f3), .int .i64 ((rd_T58 l0 x17_1).f4), .int .i64 ((rd_T58 l0 x17_1).f5), .slice A184_6 ((rd_T58 l0 x17_1).f6).length c184_6], .agg #[.int .i64 t187, .int .i64 t188, .int .i64 t189, .int .i64 t190, .int .i64 t191, .int .i64 t192, .slice Ao52 t193.length co52]] (by rfl) rfl rfl cx_ ?_
    with_reducible refine (impl_sameNode.calls k1 ((rd_T58 l0 x17_1).f0) ((rd_T58 l0 x17_1).f1) ((rd_T58 l0 x17_1).f2) ((rd_T58 l0 x17_1).f3) ((rd_T58 l0 x17_1).f4) ((rd_T58 l0 x17_1).f5) _ _ ((rd_T58 l0 x17_1).f6) t187 t188 t189 t190 t191 t192 _ _ t193 false _ ?side1 ?side2 ?side3 ?side4 A13.out).mono ?_
    (case side1 => exact b8_5)
    (case side2 => exact HC184_6.out)
    (case side3 => exact cC_ ((Kd.V_reads' HO195.out).2.2))
    (case side4 => exact (Kd.V_reads' HO195.out).2.1)
    rintro e w53 ⟨rfl, hb⟩
    refine ⟨_, rfl, ?_⟩
    replace HO_4 := Aside0.mk (Kd.R_below b8_2 hb)
    replace HO195 := Aside0.mk (Kd.V_below (cV_ HO195.out) hb)
    replace BK185 := Aside0.mk (blk_below (g := gb185) (o := .cells #[.int .i64 ((rd_T58 l0 x17_1).f0), .int .i64 ((rd_T58 l0 x17_1).f1), .int .i64 ((rd_T58 l0 x17_1).f2), .int .i64 ((rd_T58 l0 x17_1).f3), .int .i64 ((rd_T58 l0 x17_1).f4), .int .i64 ((rd_T58 l0 x17_1).f5), .slice A184_6 ((rd_T58 l0 x17_1).f6).length c184_6] 58 (0, 0)) b8_4 hb)
    replace HB := Aside0.mk (below_step b8_0 hb)
    (try clear hb)
    (try clear hb2)
    (try clear hk)
    (try clear hi)
    refine hK.out _ _ ⟨(blk_cell BK185.out 0).trans rfl, (blk_cell BK185.out 1).trans rfl, (blk_cell BK185.out 2).trans rfl, (blk_cell BK185.out 3).trans rfl, (blk_cell BK185.out 4).trans rfl, (blk_cell BK185.out 5).trans rfl, (blk_cell BK185.out 6).trans rfl⟩ (fun hHeld => ?_)
    clear hK K
    refine norm_ (a' := ?_) ?_ ?_
    rotate_left
    ·show Act.put _ (some 31) _ = _
     simp only [Act.put, List.setIfInBounds_toArray, List.set_cons_zero, List.set_cons_succ, i64_w, i32_w]
     rfl
    refine pk_ 4 (some 32) (bl 6 31) rfl ?_
    refine pk_ 5 (some 27) (bl 6 63) rfl ?_
    refine done_ (by kernel_rfl) ?_
    try go_wp2
    go_ret2
    exact ⟨_, ce_, q8_0, cB1_ GE185.out⟩
   subst c14
   rw [if_pos rfl] at H
   obtain ⟨t197, A15, H⟩ := bnd_ H
   try dsimp only at H
   have H' := Aside0.mk H
   clear H
   have p184 : 0 ≤ (x17_1 : Int) := of_decide_eq_true ca_
   have q184 : x17_1 < (l0.length : Int) := of_decide_eq_true ca_
   obtain ⟨ad184, A184_6, c184_6, e184, hx184_0, hx184_1, hx184_2, hx184_3, hx184_4, hx184_5, hx184_6, hl184_6, hi184_6⟩ := at_T58 HR0.out x17_1 p184 q184
   cases e184
   replace hx184_0 := (HB.out.cell (World.block_lt_of_cell? w _ hx184_0)).trans hx184_0
   replace hx184_1 := (HB.out.cell (World.block_lt_of_cell? w _ hx184_1)).trans hx184_1
   replace hx184_2 := (HB.out.cell (World.block_lt_of_cell? w _ hx184_2)).trans hx184_2
   replace hx184_3 := (HB.out.cell (World.block_lt_of_cell? w _ hx184_3)).trans hx184_3
   replace hx184_4 := (HB.out.cell (World.block_lt_of_cell? w _ hx184_4)).trans hx184_4
   replace hx184_5 := (HB.out.cell (World.block_lt_of_cell? w _ hx184_5)).trans hx184_5
   replace hx184_6 := (HB.out.cell (World.block_lt_of_cell? w _ hx184_6)).trans hx184_6
   have HR184_6 := Aside0.mk hi184_6
   have HC184_6 := Aside0.mk hl184_6
   clear hi184_6 hl184_6
   replace p184 := eq_true p184
   replace q184 := eq_true q184
   try go_wp2_with (first | (refine bx_ 6 #[.int .i64 0, .int .i64 0, .int .i64 0, .int .i64 0, .int .i64 0, .int .i64 0, .slice none 0 0] 58 ?_; intro gb185 hg w16 hbox hb; replace HO_4 := Aside0.mk (Kd.R_below b8_2 hb); have BK185 := Aside0.mk (hbox); have GW185 := Aside0.mk ((by rw [hg]; exact (below_size cB0_) : w.heap.size ≤ gb185)); have GE185 := Aside0.mk ((by rw [hg]; exact (below_size cB0_) : w.heap.size ≤ gb185)); replace HB := Aside0.mk (below_step cB0_ hb); clear hb hbox hg; obtain ⟨hcz17_0, hcz17_1, hcz17_2, hcz17_3, hcz17_4, hcz17_5, hcz17_6, hfz17_0, hfz17_1, hfz17_2, hfz17_3, hfz17_4, hfz17_5, hfz17_6⟩ := cells7 BK185.out) | (refine gl_ 47 (some 25) Try.func47 #[.int .i64 ((rd_T58 l0 x17_1).f0), .int .i64 1, .int .i64 12] ?_; (with_reducible refine (impl_in.calls ((rd_T58 l0 x17_1).f0) 1 12 true _ A10.out).mono ?_); rintro e w' ⟨rfl, ⟨nd, rfl⟩⟩; refine ⟨_, rfl, ?_⟩))
   have n0_ : Aside0 (Kd.R (Kd.int .i64) 2 (((((((w16.setCell ⟨gb185, 0, none⟩ (.int .i64 ((rd_T58 l0 x17_1).f0))).setCell ⟨gb185, 1, none⟩ (.int .i64 ((rd_T58 l0 x17_1).f1))).setCell ⟨gb185, 2, none⟩ (.int .i64 ((rd_T58 l0 x17_1).f2))).setCell ⟨gb185, 3, none⟩ (.int .i64 ((rd_T58 l0 x17_1).f3))).setCell ⟨gb185, 4, none⟩ (.int .i64 ((rd_T58 l0 x17_1).f4))).setCell ⟨gb185, 5, none⟩ (.int .i64 ((rd_T58 l0 x17_1).f5))).setCell ⟨gb185, 6, none⟩ (.slice A184_6 ((rd_T58 l0 x17_1).f6).length c184_6)) w.heap.size (fun _ => True) u4 x4_1) := ⟨by refine cR_ ?_; exact Kd.R_mono (Kd.R_far (p := ⟨gb185, 6, none⟩) (Kd.R_far (p := ⟨gb185, 5, none⟩) (Kd.R_far (p := ⟨gb185, 4, none⟩) (Kd.R_far (p := ⟨gb185, 3, none⟩) (Kd.R_far (p := ⟨gb185, 2, none⟩) (Kd.R_far (p := ⟨gb185, 1, none⟩) (Kd.R_far (p := ⟨gb185, 0, none⟩) (Kd.R_types HO_4.out BK185.out (by decide)) (fun _ hk => hk.2) (.int .i64 ((rd_T58 l0 x17_1).f0))) (fun _ hk => hk.2) (.int .i64 ((rd_T58 l0 x17_1).f1))) (fun _ hk => hk.2) (.int .i64 ((rd_T58 l0 x17_1).f2))) (fun _ hk => hk.2) (.int .i64 ((rd_T58 l0 x17_1).f3))) (fun _ hk => hk.2) (.int .i64 ((rd_T58 l0 x17_1).f4))) (fun _ hk => hk.2) (.int .i64 ((rd_T58 l0 x17_1).f5))) (fun _ hk => hk.2) (.slice A184_6 ((rd_T58 l0 x17_1).f6).length c184_6)) (fun _ hk => trivial)⟩
   have n1_ : Aside0 ((((((((w16.setCell ⟨gb185, 0, none⟩ (.int .i64 ((rd_T58 l0 x17_1).f0))).setCell ⟨gb185, 1, none⟩ (.int .i64 ((rd_T58 l0 x17_1).f1))).setCell ⟨gb185, 2, none⟩ (.int .i64 ((rd_T58 l0 x17_1).f2))).setCell ⟨gb185, 3, none⟩ (.int .i64 ((rd_T58 l0 x17_1).f3))).setCell ⟨gb185, 4, none⟩ (.int .i64 ((rd_T58 l0 x17_1).f4))).setCell ⟨gb185, 5, none⟩ (.int .i64 ((rd_T58 l0 x17_1).f5))).setCell ⟨gb185, 6, none⟩ (.slice A184_6 ((rd_T58 l0 x17_1).f6).length c184_6)).heap[gb185]? = some (.cells #[.int .i64 ((rd_T58 l0 x17_1).f0), .int .i64 ((rd_T58 l0 x17_1).f1), .int .i64 ((rd_T58 l0 x17_1).f2), .int .i64 ((rd_T58 l0 x17_1).f3), .int .i64 ((rd_T58 l0 x17_1).f4), .int .i64 ((rd_T58 l0 x17_1).f5), .slice A184_6 ((rd_T58 l0 x17_1).f6).length c184_6] 58 (0, 0))) := ⟨by refine cO_ ?_; refine blk_put (cs := #[.int .i64 ((rd_T58 l0 x17_1).f0), .int .i64 ((rd_T58 l0 x17_1).f1), .int .i64 ((rd_T58 l0 x17_1).f2), .int .i64 ((rd_T58 l0 x17_1).f3), .int .i64 ((rd_T58 l0 x17_1).f4), .int .i64 ((rd_T58 l0 x17_1).f5), .slice none 0 0]) ?_ 6 _ rfl; refine cO_ ?_; refine blk_put (cs := #[.int .i64 ((rd_T58 l0 x17_1).f0), .int .i64 ((rd_T58 l0 x17_1).f1), .int .i64 ((rd_T58 l0 x17_1).f2), .int .i64 ((rd_T58 l0 x17_1).f3), .int .i64 ((rd_T58 l0 x17_1).f4), .int .i64 0, .slice none 0 0]) ?_ 5 _ rfl; refine cO_ ?_; refine blk_put (cs := #[.int .i64 ((rd_T58 l0 x17_1).f0), .int .i64 ((rd_T58 l0 x17_1).f1), .int .i64 ((rd_T58 l0 x17_1).f2), .int .i64 ((rd_T58 l0 x17_1).f3), .int .i64 0, .int .i64 0, .slice none 0 0]) ?_ 4 _ rfl; refine cO_ ?_; refine blk_put (cs := #[.int .i64 ((rd_T58 l0 x17_1).f0), .int .i64 ((rd_T58 l0 x17_1).f1), .int .i64 ((rd_T58 l0 x17_1).f2), .int .i64 0, .int .i64 0, .int .i64 0, .slice none 0 0]) ?_ 3 _ rfl; refine cO_ ?_; refine blk_put (cs := #[.int .i64 ((rd_T58 l0 x17_1).f0), .int .i64 ((rd_T58 l0 x17_1).f1), .int .i64 0, .int .i64 0, .int .i64 0, .int .i64 0, .slice none 0 0]) ?_ 2 _ rfl; refine cO_ ?_; refine blk_put (cs := #[.int .i64 ((rd_T58 l0 x17_1).f0), .int .i64 0, .int .i64 0, .int .i64 0, .int .i64 0, .int .i64 0, .slice none 0 0]) ?_ 1 _ rfl; refine cO_ ?_; refine blk_put (cs := #[.int .i64 0, .int .i64 0, .int .i64 0, .int .i64 0, .int .i64 0, .int .i64 0, .slice none 0 0]) ?_ 0 _ rfl; refine cO_ ?_; exact BK185.out⟩
   have n2_ : Aside0 (Below w.heap.size w (((((((w16.setCell ⟨gb185, 0, none⟩ (.int .i64 ((rd_T58 l0 x17_1).f0))).setCell ⟨gb185, 1, none⟩ (.int .i64 ((rd_T58 l0 x17_1).f1))).setCell ⟨gb185, 2, none⟩ (.int .i64 ((rd_T58 l0 x17_1).f2))).setCell ⟨gb185, 3, none⟩ (.int .i64 ((rd_T58 l0 x17_1).f3))).setCell ⟨gb185, 4, none⟩ (.int .i64 ((rd_T58 l0 x17_1).f4))).setCell ⟨gb185, 5, none⟩ (.int .i64 ((rd_T58 l0 x17_1).f5))).setCell ⟨gb185, 6, none⟩ (.slice A184_6 ((rd_T58 l0 x17_1).f6).length c184_6))) := ⟨cB1_ GE185.out⟩
   (try clear HO_4)
   (try clear BK185)
   (try clear HB)
   generalize (((((((w16.setCell ⟨gb185, 0, none⟩ (.int .i64 ((rd_T58 l0 x17_1).f0))).setCell ⟨gb185, 1, none⟩ (.int .i64 ((rd_T58 l0 x17_1).f1))).setCell ⟨gb185, 2, none⟩ (.int .i64 ((rd_T58 l0 x17_1).f2))).setCell ⟨gb185, 3, none⟩ (.int .i64 ((rd_T58 l0 x17_1).f3))).setCell ⟨gb185, 4, none⟩ (.int .i64 ((rd_T58 l0 x17_1).f4))).setCell ⟨gb185, 5, none⟩ (.int .i64 ((rd_T58 l0 x17_1).f5))).setCell ⟨gb185, 6, none⟩ (.slice A184_6 ((rd_T58 l0 x17_1).f6).length c184_6)) = w18 at n0_ n1_ n2_ ⊢
   have HO_4 := n0_
   have BK185 := n1_
   have HB := n2_
   clear n0_ n1_ n2_
   (try simp only [World.drewN_drewN]); (try (rw [drewN_self w18]; generalize hq_ : World.drewN w18 _ = w18; have n0_ : Aside0 (Kd.R (Kd.int .i64) 2 w18 w.heap.size (fun _ => True) u4 x4_1) := ⟨by rw [← hq_]; exact b8_2⟩; have n1_ : Aside0 (w18.heap[gb185]? = some (.cells #[.int .i64 ((rd_T58 l0 x17_1).f0), .int .i64 ((rd_T58 l0 x17_1).f1), .int .i64 ((rd_T58 l0 x17_1).f2), .int .i64 ((rd_T58 l0 x17_1).f3), .int .i64 ((rd_T58 l0 x17_1).f4), .int .i64 ((rd_T58 l0 x17_1).f5), .slice A184_6 ((rd_T58 l0 x17_1).f6).length c184_6] 58 (0, 0))) := ⟨by rw [← hq_]; exact b8_4⟩; have n2_ : Aside0 (Below w.heap.size w w18) := ⟨by rw [← hq_]; exact b8_0⟩; clear HO_4 BK185 HB hq_; have HO_4 := n0_; have BK185 := n1_; have HB := n2_; clear n0_ n1_ n2_))
   replace HO_4 := Aside0.mk (Kd.R_drew HO_4.out)
   replace BK185 := Aside0.mk (blk_drew BK185.out)
   replace HB := Aside0.mk (below_drew1 HB.out)
   refine start_ (n := 6) (S := fun w' => w'.cell? ⟨gb185, 0, none⟩ = some (.int .i64 ((rd_T58 l0 x17_1).f0)) ∧ w'.cell? ⟨gb185, 1, none⟩ = some (.int .i64 ((rd_T58 l0 x17_1).f1)) ∧ w'.cell? ⟨gb185, 2, none⟩ = some (.int .i64 ((rd_T58 l0 x17_1).f2)) ∧ w'.cell? ⟨gb185, 3, none⟩ = some (.int .i64 ((rd_T58 l0 x17_1).f3)) ∧ w'.cell? ⟨gb185, 4, none⟩ = some (.int .i64 ((rd_T58 l0 x17_1).f4)) ∧ w'.cell? ⟨gb185, 5, none⟩ = some (.int .i64 ((rd_T58 l0 x17_1).f5)) ∧ w'.cell? ⟨gb185, 6, none⟩ = some (.slice A184_6 ((rd_T58 l0 x17_1).f6).length c184_6)) (ds := []) (bl 6 0) (by kernel_rfl) rfl rfl ⟨(blk_cell BK185.out 0).trans rfl, (blk_cell BK185.out 1).trans rfl, (blk_cell BK185.out 2).trans rfl, (blk_cell BK185.out 3).trans rfl, (blk_cell BK185.out 4).trans rfl, (blk_cell BK185.out 5).trans rfl, (blk_cell BK185.out 6).trans rfl⟩ (fun hHeld => ?_)
   generalize w18.drew = w19 at HO_4 BK185 HB hHeld ⊢
   refine tk_ 0 (some 28) (bl 6 1) rfl hHeld (fun w' s_ => by obtain ⟨s0, s1, s2, s3, s4, s5, s6⟩ := s_; go_simp; with_reducible rfl) ?_
   refine tk_ 1 (some 29) (bl 6 3) rfl hHeld (fun w' s_ => by obtain ⟨s0, s1, s2, s3, s4, s5, s6⟩ := s_; go_simp; with_reducible rfl) ?_
   refine ok_ 2 (some 30) (bl 6 7) rfl (fun K hK => ?_)
   refine goes_ Try.func76 (by kernel_rfl) rfl #[.agg #[.int .i64 ((rd_T58 l0 x17_1).f0), .int .i64 ((rd_T58 l0 x17_1).f1), .int .i64 ((rd_T58 l0 x17_1).f2), .int .i64 ((rd_T58 l0 x17_1).f3), .int .i64 ((rd_T58 l0 x17_1).f4), .int .i64 ((rd_T58 l0 x17_1).f5), .slice A184_6 ((rd_T58 l0 x17_1).f6).length c184_6]] (by rfl) rfl rfl cx_ ?_
   with_reducible refine (impl_Node_plain.calls k1 ((rd_T58 l0 x17_1).f0) ((rd_T58 l0 x17_1).f1) ((rd_T58 l0 x17_1).f2) ((rd_T58 l0 x17_1).f3) ((rd_T58 l0 x17_1).f4) ((rd_T58 l0 x17_1).f5) (fun k_ => k_ < w.heap.size) _ _ ((rd_T58 l0 x17_1).f6) t187 t188 t189 t190 t191 t192 t193 _ ?side1 A12.out).mono ?_
   (case side1 => exact (by exact Kd.V_mk HC184_6.out (Kd.F_below (Kd.C_F (Kd.heap_int .i64) HR184_6.out) b8_0)))
   rintro e w20 ⟨v194, rfl, ho0, hb⟩
   refine ⟨_, rfl, ?_⟩
   have HO195 := Aside0.mk (Kd.V_lower (Kd.V_mono (ok' := fun k_ => some k_ ≠ (u4 : Value).ownBlock ∧ k_ ≠ gb185) ho0 (fun k_ hk_ => ⟨Or.elim hk_ (fun hs_ => fun e_ => Nat.not_le.2 hs_ (Kd.R_base HO_4.out k_ e_.symm)) (fun hn_ => (Kd.fresh' (Kd.R_lt b8_2) k_ hn_)), Or.elim hk_ (fun hs_ => fun e_ => Nat.not_le.2 hs_ (by rw [e_]; exact GW185.out)) (fun hn_ => (Kd.freshB (g := gb185) (o := .cells #[.int .i64 ((rd_T58 l0 x17_1).f0), .int .i64 ((rd_T58 l0 x17_1).f1), .int .i64 ((rd_T58 l0 x17_1).f2), .int .i64 ((rd_T58 l0 x17_1).f3), .int .i64 ((rd_T58 l0 x17_1).f4), .int .i64 ((rd_T58 l0 x17_1).f5), .slice A184_6 ((rd_T58 l0 x17_1).f6).length c184_6] 58 (0, 0)) b8_4 k_ hn_))⟩)) (below_size b8_0))
   replace HO_4 := Aside0.mk (Kd.R_below b8_2 hb)
   replace BK185 := Aside0.mk (blk_below (g := gb185) (o := .cells #[.int .i64 ((rd_T58 l0 x17_1).f0), .int .i64 ((rd_T58 l0 x17_1).f1), .int .i64 ((rd_T58 l0 x17_1).f2), .int .i64 ((rd_T58 l0 x17_1).f3), .int .i64 ((rd_T58 l0 x17_1).f4), .int .i64 ((rd_T58 l0 x17_1).f5), .slice A184_6 ((rd_T58 l0 x17_1).f6).length c184_6] 58 (0, 0)) b8_4 hb)
   replace HB := Aside0.mk (below_step b8_0 hb)
   (try clear hb)
   (try clear hb2)
   (try clear hk)
   (try clear hi)
   (try clear ho0)
   obtain ⟨Ao21, co21, eo21⟩ := Kd.V_slice HO195.out
   (first | subst eo21 | (injection eo21 with f1_ f2_ f3_; have f4_ := f1_.symm; have f5_ := f3_.symm; clear f1_ f2_ f3_; subst f4_; subst f5_))
   refine hK.out _ _ ⟨(blk_cell BK185.out 0).trans rfl, (blk_cell BK185.out 1).trans rfl, (blk_cell BK185.out 2).trans rfl, (blk_cell BK185.out 3).trans rfl, (blk_cell BK185.out 4).trans rfl, (blk_cell BK185.out 5).trans rfl, (blk_cell BK185.out 6).trans rfl⟩ (fun hHeld => ?_)
   clear hK K
   refine norm_ (a' := ?_) ?_ ?_
   rotate_left
   ·show Act.put _ (some 30) _ = _
    simp only [Act.put, List.setIfInBounds_toArray, List.set_cons_zero, List.set_cons_succ, i64_w, i32_w]
    rfl
   refine ok_ 3 (some 31) (bl 6 15) rfl (fun K hK => ?_)
   refine goes_ Try.func75 (by kernel_rfl) rfl #[.agg #[.int .i64 ((rd_T58 l0 x17_1).f0), .int .i64 ((rd_T58 l0 x17_1).f1), .int .i64 ((rd_T58 l0 x17_1).f2), .int .i64 ((rd_T58 l0 x17_1).f3), .int .i64 ((rd_T58 l0 x17_1).f4), .int .i64 ((rd_T58 l0 x17_1).f5), .slice A184_6 ((rd_T58 l0 x17_1).f6).length c184_6], .agg #[.int .i64 t187, .int .i64 t188, .int .i64 t189, .int .i64 t190, .int .i64 t191, .int .i64 t192, .slice Ao21 t193.length co21]] (by rfl) rfl rfl cx_ ?_
   with_reducible refine (impl_sameNode.calls k1 ((rd_T58 l0 x17_1).f0) ((rd_T58 l0 x17_1).f1) ((rd_T58 l0 x17_1).f2) ((rd_T58 l0 x17_1).f3) ((rd_T58 l0 x17_1).f4) ((rd_T58 l0 x17_1).f5) _ _ ((rd_T58 l0 x17_1).f6) t187 t188 t189 t190 t191 t192 _ _ t193 true _ ?side1 ?side2 ?side3 ?side4 A13.out).mono ?_
   (case side1 => exact b8_5)
   (case side2 => exact HC184_6.out)
   (case side3 => exact cC_ ((Kd.V_reads' HO195.out).2.2))
   (case side4 => exact (Kd.V_reads' HO195.out).2.1)
   rintro e w22 ⟨rfl, hb⟩
   refine ⟨_, rfl, ?_⟩
   replace HO_4 := Aside0.mk (Kd.R_below b8_2 hb)
   replace HO195 := Aside0.mk (Kd.V_below (cV_ HO195.out) hb)
   replace BK185 := Aside0.mk (blk_below (g := gb185) (o := .cells #[.int .i64 ((rd_T58 l0 x17_1).f0), .int .i64 ((rd_T58 l0 x17_1).f1), .int .i64 ((rd_T58 l0 x17_1).f2), .int .i64 ((rd_T58 l0 x17_1).f3), .int .i64 ((rd_T58 l0 x17_1).f4), .int .i64 ((rd_T58 l0 x17_1).f5), .slice A184_6 ((rd_T58 l0 x17_1).f6).length c184_6] 58 (0, 0)) b8_4 hb)
   replace HB := Aside0.mk (below_step b8_0 hb)
   (try clear hb)
   (try clear hb2)
   (try clear hk)
   (try clear hi)
   refine hK.out _ _ ⟨(blk_cell BK185.out 0).trans rfl, (blk_cell BK185.out 1).trans rfl, (blk_cell BK185.out 2).trans rfl, (blk_cell BK185.out 3).trans rfl, (blk_cell BK185.out 4).trans rfl, (blk_cell BK185.out 5).trans rfl, (blk_cell BK185.out 6).trans rfl⟩ (fun hHeld => ?_)
   clear hK K
   refine norm_ (a' := ?_) ?_ ?_
   rotate_left
   ·show Act.put _ (some 31) _ = _
    simp only [Act.put, List.setIfInBounds_toArray, List.set_cons_zero, List.set_cons_succ, i64_w, i32_w]
    rfl
   refine pk_ 4 (some 32) (bl 6 31) rfl ?_
   refine pk_ 5 (some 27) (bl 6 63) rfl ?_
   refine done_ (by kernel_rfl) ?_
   obtain ⟨hcz23_0, hcz23_1, hcz23_2, hcz23_3, hcz23_4, hcz23_5, hcz23_6, hfz23_0, hfz23_1, hfz23_2, hfz23_3, hfz23_4, hfz23_5, hfz23_6⟩ := cells7 BK185.out
   try go_wp2_with (first | (refine gl_ 77 (some 34) Try.func77 #[.agg #[.int .i64 ((rd_T58 l0 x17_1).f0), .int .i64 ((rd_T58 l0 x17_1).f1), .int .i64 ((rd_T58 l0 x17_1).f2), .int .i64 ((rd_T58 l0 x17_1).f3), .int .i64 ((rd_T58 l0 x17_1).f4), .int .i64 ((rd_T58 l0 x17_1).f5), .slice A184_6 ((rd_T58 l0 x17_1).f6).length c184_6]] ?_; (with_reducible refine (impl_Node_reads.calls ((rd_T58 l0 x17_1).f0) ((rd_T58 l0 x17_1).f1) ((rd_T58 l0 x17_1).f2) ((rd_T58 l0 x17_1).f3) ((rd_T58 l0 x17_1).f4) ((rd_T58 l0 x17_1).f5) _ _ ((rd_T58 l0 x17_1).f6) t197 _ ?side1 ?side2 A15.out).mono ?_); (case side1 => exact b8_5); (case side2 => exact HC184_6.out); rintro e w24 ⟨v198, rfl, ho0, hb⟩; refine ⟨_, rfl, ?_⟩; replace HO195 := Aside0.mk (Kd.V_elder' (cV_ HO195.out) (Kd.R_base ho0) hb); have HO199 := Aside0.mk (Kd.R_lower (Kd.R_new' ho0 (Kd.R_lt b8_2)) (below_size b8_0)); replace HO_4 := Aside0.mk (Kd.R_elder' b8_2 (Kd.R_base ho0) hb); replace BK185 := Aside0.mk (blk_below (g := gb185) (o := .cells #[.int .i64 ((rd_T58 l0 x17_1).f0), .int .i64 ((rd_T58 l0 x17_1).f1), .int .i64 ((rd_T58 l0 x17_1).f2), .int .i64 ((rd_T58 l0 x17_1).f3), .int .i64 ((rd_T58 l0 x17_1).f4), .int .i64 ((rd_T58 l0 x17_1).f5), .slice A184_6 ((rd_T58 l0 x17_1).f6).length c184_6] 58 (0, 0)) b8_4 hb); replace HB := Aside0.mk (below_step b8_0 hb); (try clear hb); (try clear hb2); (try clear hk); (try clear hi); (try clear ho0); obtain ⟨Ao25, co25, eo25⟩ := Kd.R_slice HO199.out; subst eo25))
   go_loopg [36] k1 (fun kq v36 w' => ∃ (x36_2 : Int), v36 = .int .i64 x36_2 ∧ Aside0 (impl_looked.l1 kq l0 x4_1 x17_1 l0 (l0.length : Int) x17_1 t197 (t197.length : Int) x36_2 ((rd_T58 l0 x17_1).f0) ((rd_T58 l0 x17_1).f1) ((rd_T58 l0 x17_1).f2) ((rd_T58 l0 x17_1).f3) ((rd_T58 l0 x17_1).f4) ((rd_T58 l0 x17_1).f5) ((rd_T58 l0 x17_1).f6) = some (r1, r2)) ∧ Aside0 (kq ≤ k1) ∧ Aside0 (Kd.R (Kd.int .i64) 2 w' w.heap.size (fun k_ => some k_ ≠ ((.slice Ao25 t197.length co25) : Value).ownBlock) u4 x4_1) ∧ Aside0 (Kd.R (Kd.int .i64) 2 w' w.heap.size (fun k_ => some k_ ≠ (u4 : Value).ownBlock) (.slice Ao25 t197.length co25) t197) ∧ Aside0 (w'.heap[gb185]? = some (.cells #[.int .i64 ((rd_T58 l0 x17_1).f0), .int .i64 ((rd_T58 l0 x17_1).f1), .int .i64 ((rd_T58 l0 x17_1).f2), .int .i64 ((rd_T58 l0 x17_1).f3), .int .i64 ((rd_T58 l0 x17_1).f4), .int .i64 ((rd_T58 l0 x17_1).f5), (.slice A184_6 ((rd_T58 l0 x17_1).f6).length c184_6)] 58 (0, 0))) ∧ Aside0 (Below w.heap.size w w'))
   case atStart => exact ⟨(0), cs_, H', ⟨Nat.le_refl _⟩, ⟨by refine cR_ ?_; exact Kd.R_mono HO_4.out (fun _ hk => hk.2)⟩, ⟨by refine cR_ ?_; exact Kd.R_mono HO199.out (fun _ hk => hk.2)⟩, ⟨cO_ BK185.out⟩, ⟨cB1_ GE185.out⟩⟩
   case round =>
    clear H'
    try clear c1
    try clear p1
    try clear q1
    try clear hx1
    try clear p2
    try clear c4
    try clear c7
    try clear c7b0
    try clear c8
    try clear c8b0
    try clear c9
    try clear c9b0
    try clear c11
    try clear c14
    try clear c18
    try clear p18
    try clear q18
    try clear hx18
    try clear hcz17_0
    try clear hcz17_1
    try clear hcz17_2
    try clear hcz17_3
    try clear hcz17_4
    try clear hcz17_5
    try clear hcz17_6
    try clear hcz23_0
    try clear hcz23_1
    try clear hcz23_2
    try clear hcz23_3
    try clear hcz23_4
    try clear hcz23_5
    try clear hcz23_6
    try clear hfz17_0
    try clear hfz17_1
    try clear hfz17_2
    try clear hfz17_3
    try clear hfz17_4
    try clear hfz17_5
    try clear hfz17_6
    try clear hfz23_0
    try clear hfz23_1
    try clear hfz23_2
    try clear hfz23_3
    try clear hfz23_4
    try clear hfz23_5
    try clear hfz23_6
    try clear hx184_0
    try clear hx184_1
    try clear hx184_2
    try clear hx184_3
    try clear hx184_4
    try clear hx184_5
    try clear hx184_6
    try clear p184
    try clear p2
    try clear q184
    obtain ⟨x36_2, rfl, HA, HK2, HO_4, HO_34, BK185, HB⟩ := hrel
    cases gk with
    | zero => exact absurd HA.out (by simp [impl_looked.l1])
    | succ k2 =>
     have H := HA.out
     clear HA
     simp only [impl_looked.l1] at H
     by_cases c26 : x36_2 < (t197.length : Int)
     rotate_left
     ·rw [if_neg c26] at H
      have c26b0 : decide (x36_2 < (t197.length : Int)) = false := decide_eq_false c26
      clear c26
      obtain ⟨t203, A34, H⟩ := bnd_ H
      try dsimp only at H
      by_cases c35 : t203 = 0
      rotate_left
      ·rw [if_neg c35] at H
       have c35b0 : (t203 == 0) = false := beq_eq_false_iff_ne.mpr c35
       have c35b1 : (t203 != 0) = true := bne_iff_ne.mpr c35
       simp only [Option.some.injEq, Prod.mk.injEq] at H
       obtain ⟨rfl, rfl⟩ := H
       obtain ⟨hcz44_0, hcz44_1, hcz44_2, hcz44_3, hcz44_4, hcz44_5, hcz44_6, hfz44_0, hfz44_1, hfz44_2, hfz44_3, hfz44_4, hfz44_5, hfz44_6⟩ := cells7 BK185.out
       obtain ⟨Ao45, co45, eo45⟩ := Kd.R_slice HO_4.out
       subst eo45
       go_wp2_with (first | (refine gl_ 78 (some 56) Try.func78 #[.agg #[.int .i64 ((rd_T58 l0 x17_1).f0), .int .i64 ((rd_T58 l0 x17_1).f1), .int .i64 ((rd_T58 l0 x17_1).f2), .int .i64 ((rd_T58 l0 x17_1).f3), .int .i64 ((rd_T58 l0 x17_1).f4), .int .i64 ((rd_T58 l0 x17_1).f5), .slice A184_6 ((rd_T58 l0 x17_1).f6).length c184_6], .slice Ao45 x4_1.length co45] ?_; (with_reducible refine (impl_Node_fault.calls k2 ((rd_T58 l0 x17_1).f0) ((rd_T58 l0 x17_1).f1) ((rd_T58 l0 x17_1).f2) ((rd_T58 l0 x17_1).f3) ((rd_T58 l0 x17_1).f4) ((rd_T58 l0 x17_1).f5) _ _ ((rd_T58 l0 x17_1).f6) _ _ x4_1 t203 _ ?side1 ?side2 ?side3 ?side4 A34.out).mono ?_); (case side1 => exact b8_5); (case side2 => exact HC184_6.out); (case side3 => exact cC_ ((Kd.R_reads' HO_4.out).2.2)); (case side4 => exact (Kd.R_reads' HO_4.out).2.1); rintro e w46 ⟨rfl, hb⟩; refine ⟨_, rfl, ?_⟩; replace HO_4 := Aside0.mk (Kd.R_below b8_2 hb); replace HO_34 := Aside0.mk (Kd.R_below (cR_ HO_34.out) hb); replace BK185 := Aside0.mk (blk_below (g := gb185) (o := .cells #[.int .i64 ((rd_T58 l0 x17_1).f0), .int .i64 ((rd_T58 l0 x17_1).f1), .int .i64 ((rd_T58 l0 x17_1).f2), .int .i64 ((rd_T58 l0 x17_1).f3), .int .i64 ((rd_T58 l0 x17_1).f4), .int .i64 ((rd_T58 l0 x17_1).f5), .slice A184_6 ((rd_T58 l0 x17_1).f6).length c184_6] 58 (0, 0)) b8_4 hb); replace HB := Aside0.mk (below_step b8_0 hb); (try clear hb); (try clear hb2); (try clear hk); (try clear hi)))
       go_ret2
       exact ⟨_, ce_, q8_0, cB1_ GE185.out⟩
      rw [if_pos c35] at H
      have c35b0 : (t203 == 0) = true := beq_iff_eq.mpr c35
      have c35b1 : (t203 != 0) = false := bne_eq_false_iff_eq.mpr c35
      clear c35
      obtain ⟨t204, A36, H⟩ := bnd_ H
      try dsimp only at H
      by_cases c37 : x4_1.length < 17592186044416
      rotate_left
      ·rw [if_neg c37] at H
       exact absurd H (by simp)
      rw [if_pos c37] at H
      have LMc37 := Aside0.mk c37
      clear c37
      obtain ⟨y205, hy_⟩ : ∃ y_ : List Int, y_ = (x4_1 ++ [t204]) := ⟨_, rfl⟩
      replace H : (impl_looked.l0 k2 l0 y205 l0 (l0.length : Int) (wrap64 (x17_1 + 1))) = some (r1, r2) := yb_
      have Ny205 := Aside0.mk hy_
      clear hy_
      have H' := Aside0.mk H
      clear H
      obtain ⟨hcz38_0, hcz38_1, hcz38_2, hcz38_3, hcz38_4, hcz38_5, hcz38_6, hfz38_0, hfz38_1, hfz38_2, hfz38_3, hfz38_4, hfz38_5, hfz38_6⟩ := cells7 BK185.out
      obtain ⟨Ao39, co39, eo39⟩ := Kd.R_slice HO_4.out
      subst eo39
      go_wp2_with (first | (refine gl_ 78 (some 56) Try.func78 #[.agg #[.int .i64 ((rd_T58 l0 x17_1).f0), .int .i64 ((rd_T58 l0 x17_1).f1), .int .i64 ((rd_T58 l0 x17_1).f2), .int .i64 ((rd_T58 l0 x17_1).f3), .int .i64 ((rd_T58 l0 x17_1).f4), .int .i64 ((rd_T58 l0 x17_1).f5), .slice A184_6 ((rd_T58 l0 x17_1).f6).length c184_6], .slice Ao39 x4_1.length co39] ?_; (with_reducible refine (impl_Node_fault.calls k2 ((rd_T58 l0 x17_1).f0) ((rd_T58 l0 x17_1).f1) ((rd_T58 l0 x17_1).f2) ((rd_T58 l0 x17_1).f3) ((rd_T58 l0 x17_1).f4) ((rd_T58 l0 x17_1).f5) _ _ ((rd_T58 l0 x17_1).f6) _ _ x4_1 t203 _ ?side1 ?side2 ?side3 ?side4 A34.out).mono ?_); (case side1 => exact b8_5); (case side2 => exact HC184_6.out); (case side3 => exact cC_ ((Kd.R_reads' HO_4.out).2.2)); (case side4 => exact (Kd.R_reads' HO_4.out).2.1); rintro e w40 ⟨rfl, hb⟩; refine ⟨_, rfl, ?_⟩; replace HO_4 := Aside0.mk (Kd.R_below b8_2 hb); replace HO_34 := Aside0.mk (Kd.R_below (cR_ HO_34.out) hb); replace BK185 := Aside0.mk (blk_below (g := gb185) (o := .cells #[.int .i64 ((rd_T58 l0 x17_1).f0), .int .i64 ((rd_T58 l0 x17_1).f1), .int .i64 ((rd_T58 l0 x17_1).f2), .int .i64 ((rd_T58 l0 x17_1).f3), .int .i64 ((rd_T58 l0 x17_1).f4), .int .i64 ((rd_T58 l0 x17_1).f5), .slice A184_6 ((rd_T58 l0 x17_1).f6).length c184_6] 58 (0, 0)) b8_4 hb); replace HB := Aside0.mk (below_step b8_0 hb); (try clear hb); (try clear hb2); (try clear hk); (try clear hi); obtain ⟨hcz41_0, hcz41_1, hcz41_2, hcz41_3, hcz41_4, hcz41_5, hcz41_6, hfz41_0, hfz41_1, hfz41_2, hfz41_3, hfz41_4, hfz41_5, hfz41_6⟩ := cells7 BK185.out) | (refine gl_ 79 (some 63) Try.func79 #[.agg #[.int .i64 ((rd_T58 l0 x17_1).f0), .int .i64 ((rd_T58 l0 x17_1).f1), .int .i64 ((rd_T58 l0 x17_1).f2), .int .i64 ((rd_T58 l0 x17_1).f3), .int .i64 ((rd_T58 l0 x17_1).f4), .int .i64 ((rd_T58 l0 x17_1).f5), .slice A184_6 ((rd_T58 l0 x17_1).f6).length c184_6], .slice Ao39 x4_1.length co39] ?_; (with_reducible refine (impl_Node_width.calls ((rd_T58 l0 x17_1).f0) ((rd_T58 l0 x17_1).f1) ((rd_T58 l0 x17_1).f2) ((rd_T58 l0 x17_1).f3) ((rd_T58 l0 x17_1).f4) ((rd_T58 l0 x17_1).f5) _ _ ((rd_T58 l0 x17_1).f6) _ _ x4_1 t204 _ ?side1 ?side2 ?side3 ?side4 A36.out).mono ?_); (case side1 => exact b8_5); (case side2 => exact HC184_6.out); (case side3 => exact cC_ ((Kd.R_reads' HO_4.out).2.2)); (case side4 => exact (Kd.R_reads' HO_4.out).2.1); rintro e w42 ⟨rfl, hb⟩; refine ⟨_, rfl, ?_⟩; replace HO_4 := Aside0.mk (Kd.R_below b8_2 hb); replace HO_34 := Aside0.mk (Kd.R_below (cR_ HO_34.out) hb); replace BK185 := Aside0.mk (blk_below (g := gb185) (o := .cells #[.int .i64 ((rd_T58 l0 x17_1).f0), .int .i64 ((rd_T58 l0 x17_1).f1), .int .i64 ((rd_T58 l0 x17_1).f2), .int .i64 ((rd_T58 l0 x17_1).f3), .int .i64 ((rd_T58 l0 x17_1).f4), .int .i64 ((rd_T58 l0 x17_1).f5), .slice A184_6 ((rd_T58 l0 x17_1).f6).length c184_6] 58 (0, 0)) b8_4 hb); replace HB := Aside0.mk (below_step b8_0 hb); (try clear hb); (try clear hb2); (try clear hk); (try clear hi)) | ((with_reducible refine gate_builtin (b := .append) (xs := #[.tmp 60, .tmp 64]) rfl ?_); at_builtin; refine Kd.R_append (Kd.int .i64) (w0 := w) w.heap.size rfl (.tmp 60) (.tmp 64) 40 2 (.int .i64 0) 8 rfl Try.underlying40 info2 rfl (by decide) (by omega) (.slice Ao39 x4_1.length co39) x4_1 t204 [.int .i64 t204] (fun k_ => some k_ ≠ (.slice Ao25 t197.length co25 : Value).ownBlock) (fun _ => False) rfl rfl ?aP (fun _ hk => hk.elim) ?aF ?aO ?aB ?aS ?aL ?_; (case aP => exact rfl); (case aB => exact b8_0); (case aF => exact (by exact (fun k_ hk => Kd.fresh' (Kd.R_lt (cR_ HO_34.out)) k_ hk))); (case aO => exact b8_2); (case aS => exact (by exact (below_size b8_0))); (case aL => exact co_ LMc37.out); intro v206 w43 ho hb hg hat; rw [← Ny205.out] at ho; replace HO_34 := Aside0.mk (Kd.R_after (ok := (fun _ => True)) (by refine cR_ ?_; exact Kd.R_mono HO_34.out (fun _ hk => ⟨trivial, hk⟩)) hg hat); replace BK185 := Aside0.mk (blk_grown (g := gb185) (o := .cells #[.int .i64 ((rd_T58 l0 x17_1).f0), .int .i64 ((rd_T58 l0 x17_1).f1), .int .i64 ((rd_T58 l0 x17_1).f2), .int .i64 ((rd_T58 l0 x17_1).f3), .int .i64 ((rd_T58 l0 x17_1).f4), .int .i64 ((rd_T58 l0 x17_1).f5), .slice A184_6 ((rd_T58 l0 x17_1).f6).length c184_6] 58 (0, 0)) b8_4 hg (Kd.R_ne HO_4.out BK185.out (by decide))); replace HB := Aside0.mk (hb); have HO207 := Aside0.mk (ho); clear HO_4; clear ho hb hg hat))
      go_roundg k2
      case measure => have := HK1.out; have := HK2.out; omega
      case rel => exact ⟨(y205), (wrap64 (x17_1 + 1)), cs_, H', ⟨by have := HK1.out; have := HK2.out; omega⟩, ⟨by refine cR_ ?_; exact Kd.R_mono HO207.out (fun _ hk => trivial)⟩, ⟨cB1_ GE185.out⟩⟩
     rw [if_pos c26] at H
     have c26b0 : decide (x36_2 < (t197.length : Int)) = true := decide_eq_true c26
     clear c26
     by_cases c27 : 0 ≤ x36_2
     rotate_left
     ·rw [if_neg c27] at H
      exact absurd H (by simp)
     rw [if_pos c27] at H
     have c27b0 : decide (0 ≤ x36_2) = true := decide_eq_true c27
     clear c27
     by_cases c28 : x36_2 < (t197.length : Int)
     rotate_left
     ·rw [if_neg c28] at H
      exact absurd H (by simp)
     rw [if_pos c28] at H
     have c28b0 : decide (x36_2 < (t197.length : Int)) = true := decide_eq_true c28
     clear c28
     obtain ⟨t201, A29, H⟩ := bnd_ H
     try dsimp only at H
     by_cases c30 : t201 = true
     rotate_left
     ·replace c30 := Bool.eq_false_iff.mpr c30
      subst c30
      rw [if_neg (show ¬ (false = true) by decide)] at H
      simp only [Option.some.injEq, Prod.mk.injEq] at H
      obtain ⟨rfl, rfl⟩ := H
      have p200 : 0 ≤ (x36_2 : Int) := of_decide_eq_true ca_
      have q200 : x36_2 < (t197.length : Int) := of_decide_eq_true ca_
      obtain ⟨ad200, e200, hx200_0⟩ := Kd.at_int (Kd.R_reads' HO_34.out).2.2 x36_2 p200 q200
      cases e200
      replace p200 := eq_true p200
      replace q200 := eq_true q200
      go_wp2_with (first | (refine gl_ 47 (some 43) Try.func47 #[.int .i64 (rd t197 x36_2), .int .i64 0, .int .i64 (wrap64 (x17_1 - 1))] ?_; (with_reducible refine (impl_in.calls (rd t197 x36_2) 0 (wrap64 (x17_1 - 1)) false _ A29.out).mono ?_); rintro e w' ⟨rfl, ⟨nd, rfl⟩⟩; refine ⟨_, rfl, ?_⟩))
      go_ret2
      exact ⟨_, ce_, q8_0, cB1_ GE185.out⟩
     subst c30
     rw [if_pos rfl] at H
     by_cases c31 : 0 ≤ (rd t197 x36_2)
     rotate_left
     ·rw [if_neg c31] at H
      exact absurd H (by simp)
     rw [if_pos c31] at H
     have c31b0 : decide (0 ≤ (rd t197 x36_2)) = true := decide_eq_true c31
     clear c31
     by_cases c32 : (rd t197 x36_2) < (l0.length : Int)
     rotate_left
     ·rw [if_neg c32] at H
      exact absurd H (by simp)
     rw [if_pos c32] at H
     have c32b0 : decide ((rd t197 x36_2) < (l0.length : Int)) = true := decide_eq_true c32
     clear c32
     by_cases c33 : ((rd_T58 l0 (rd t197 x36_2)).f0) = 12
     ·rw [if_pos c33] at H
      have c33b0 : (((rd_T58 l0 (rd t197 x36_2)).f0) == 12) = true := beq_iff_eq.mpr c33
      have c33b1 : (((rd_T58 l0 (rd t197 x36_2)).f0) != 12) = false := bne_eq_false_iff_eq.mpr c33
      clear c33
      simp only [Option.some.injEq, Prod.mk.injEq] at H
      obtain ⟨rfl, rfl⟩ := H
      have p200 : 0 ≤ (x36_2 : Int) := of_decide_eq_true ca_
      have q200 : x36_2 < (t197.length : Int) := of_decide_eq_true ca_
      obtain ⟨ad200, e200, hx200_0⟩ := Kd.at_int (Kd.R_reads' HO_34.out).2.2 x36_2 p200 q200
      cases e200
      replace p200 := eq_true p200
      replace q200 := eq_true q200
      go_wp2_with (first | (refine gl_ 47 (some 43) Try.func47 #[.int .i64 (rd t197 x36_2), .int .i64 0, .int .i64 (wrap64 (x17_1 - 1))] ?_; (with_reducible refine (impl_in.calls (rd t197 x36_2) 0 (wrap64 (x17_1 - 1)) true _ A29.out).mono ?_); rintro e w' ⟨rfl, ⟨nd, rfl⟩⟩; refine ⟨_, rfl, ?_⟩; have p202 : 0 ≤ ((rd t197 x36_2) : Int) := of_decide_eq_true ca_; have q202 : (rd t197 x36_2) < (l0.length : Int) := of_decide_eq_true ca_; obtain ⟨ad202, A202_6, c202_6, e202, hx202_0, hx202_1, hx202_2, hx202_3, hx202_4, hx202_5, hx202_6, hl202_6, hi202_6⟩ := at_T58 HR0.out (rd t197 x36_2) p202 q202; obtain rfl : ad184 = ad202 := (by injection e202); replace hx202_0 := (HB.out.cell (World.block_lt_of_cell? w _ hx202_0)).trans hx202_0; replace hx202_1 := (HB.out.cell (World.block_lt_of_cell? w _ hx202_1)).trans hx202_1; replace hx202_2 := (HB.out.cell (World.block_lt_of_cell? w _ hx202_2)).trans hx202_2; replace hx202_3 := (HB.out.cell (World.block_lt_of_cell? w _ hx202_3)).trans hx202_3; replace hx202_4 := (HB.out.cell (World.block_lt_of_cell? w _ hx202_4)).trans hx202_4; replace hx202_5 := (HB.out.cell (World.block_lt_of_cell? w _ hx202_5)).trans hx202_5; replace hx202_6 := (HB.out.cell (World.block_lt_of_cell? w _ hx202_6)).trans hx202_6; have HR202_6 := Aside0.mk hi202_6; have HC202_6 := Aside0.mk hl202_6; clear hi202_6 hl202_6; replace p202 := eq_true p202; replace q202 := eq_true q202))
      go_ret2
      exact ⟨_, ce_, q8_0, cB1_ GE185.out⟩
     rw [if_neg c33] at H
     have c33b0 : (((rd_T58 l0 (rd t197 x36_2)).f0) == 12) = false := beq_eq_false_iff_ne.mpr c33
     have c33b1 : (((rd_T58 l0 (rd t197 x36_2)).f0) != 12) = true := bne_iff_ne.mpr c33
     have H' := Aside0.mk H
     clear H
     have p200 : 0 ≤ (x36_2 : Int) := of_decide_eq_true ca_
     have q200 : x36_2 < (t197.length : Int) := of_decide_eq_true ca_
     obtain ⟨ad200, e200, hx200_0⟩ := Kd.at_int (Kd.R_reads' HO_34.out).2.2 x36_2 p200 q200
     cases e200
     replace p200 := eq_true p200
     replace q200 := eq_true q200
     go_wp2_with (first | (refine gl_ 47 (some 43) Try.func47 #[.int .i64 (rd t197 x36_2), .int .i64 0, .int .i64 (wrap64 (x17_1 - 1))] ?_; (with_reducible refine (impl_in.calls (rd t197 x36_2) 0 (wrap64 (x17_1 - 1)) true _ A29.out).mono ?_); rintro e w' ⟨rfl, ⟨nd, rfl⟩⟩; refine ⟨_, rfl, ?_⟩; have p202 : 0 ≤ ((rd t197 x36_2) : Int) := of_decide_eq_true ca_; have q202 : (rd t197 x36_2) < (l0.length : Int) := of_decide_eq_true ca_; obtain ⟨ad202, A202_6, c202_6, e202, hx202_0, hx202_1, hx202_2, hx202_3, hx202_4, hx202_5, hx202_6, hl202_6, hi202_6⟩ := at_T58 HR0.out (rd t197 x36_2) p202 q202; obtain rfl : ad184 = ad202 := (by injection e202); replace hx202_0 := (HB.out.cell (World.block_lt_of_cell? w _ hx202_0)).trans hx202_0; replace hx202_1 := (HB.out.cell (World.block_lt_of_cell? w _ hx202_1)).trans hx202_1; replace hx202_2 := (HB.out.cell (World.block_lt_of_cell? w _ hx202_2)).trans hx202_2; replace hx202_3 := (HB.out.cell (World.block_lt_of_cell? w _ hx202_3)).trans hx202_3; replace hx202_4 := (HB.out.cell (World.block_lt_of_cell? w _ hx202_4)).trans hx202_4; replace hx202_5 := (HB.out.cell (World.block_lt_of_cell? w _ hx202_5)).trans hx202_5; replace hx202_6 := (HB.out.cell (World.block_lt_of_cell? w _ hx202_6)).trans hx202_6; have HR202_6 := Aside0.mk hi202_6; have HC202_6 := Aside0.mk hl202_6; clear hi202_6 hl202_6; replace p202 := eq_true p202; replace q202 := eq_true q202))
     go_roundg k2
     case measure => have := HK1.out; have := HK2.out; omega
     case rel => exact ⟨(wrap64 (x36_2 + 1)), cs_, H', ⟨by have := HK1.out; have := HK2.out; omega⟩, ⟨cR_ HO_4.out⟩, ⟨cR_ HO_34.out⟩, ⟨cO_ BK185.out⟩, ⟨cB1_ GE185.out⟩⟩

/-! ### impl_PlanFault: function 14 -/
def impl_PlanFault.f (k : Nat) (l0 : List (S58)) : Option (Int) := (impl_looked.f k l0).bind fun bt208 => (some bt208.2)
theorem impl_PlanFault.mono : ∀ a0 k, LeO (impl_PlanFault.f k a0) (impl_PlanFault.f (k + 1) a0) := by
 intro a0 k
 unfold impl_PlanFault.f
 repeat' first
   | (with_reducible exact impl_looked.mono _ _)
   | (with_reducible exact LeO.refl _)
   | (with_reducible exact LeO.none _)
   | (with_reducible refine LeO.ite ?_ ?_)
   | (with_reducible refine LeO.bind ?_ (fun _ => ?_))
   | exact impl_looked.mono _ _
   | exact LeO.none _
   | refine LeO.ite ?_ ?_
   | refine LeO.bind ?_ (fun _ => ?_)
set_option maxHeartbeats 8000000 in
set_option maxRecDepth 100000 in
theorem impl_PlanFault.calls (k : Nat) (A0 : Option Addr) (c0 : Nat) (l0 : List (S58)) (r : Int) (w : World) (hr0 : Kd.C k58 w A0 l0.length l0) (hc0 : l0.length ≤ c0) (h : impl_PlanFault.f k l0 = some r) :
  Calls Try.prog 14 #[.slice A0 l0.length c0] w fun e w' => e = .returned (.int .i64 r) ∧ Below w.heap.size w w' := by
 have HR0 := Aside0.mk hr0
 have HC0 := Aside0.mk hc0
 clear hr0 hc0
 have HB := Aside0.mk (Below.refl w.heap.size w)
 have H : ((impl_looked.f k l0).bind fun bt208 => (some bt208.2)) = some r := h
 clear h
 obtain ⟨⟨t208, t209⟩, A2, H⟩ := bnd_ H
 try dsimp only at H
 obtain rfl := Option.some.inj H
 go_enter Try.func14, Try.ntmps14
 go_wp2_with (first | (refine gl_ 41 (some 7) Try.func41 #[.slice A0 l0.length c0] ?_; (with_reducible refine (impl_looked.calls k _ _ l0 t208 t209 _ ?side1 ?side2 A2.out).mono ?_); (case side1 => exact cC_ HR0.out); (case side2 => exact HC0.out); rintro e w3 ⟨v210, rfl, ho0, hb⟩; refine ⟨_, rfl, ?_⟩; have HO211 := Aside0.mk (Kd.R_lower ho0 (below_size cB0_)); replace HB := Aside0.mk (below_step cB0_ hb); (try clear hb); (try clear hb2); (try clear hk); (try clear hi); (try clear ho0)))
 go_ret
 exact ⟨ce_, cB0_⟩

-- NOT PRINTED: function 82 (impl_feeds_1)

end Go.Proofs.Yteibdjkfkcckkaa.PFnFeeds
