-- Written by fprint, a program of this session, out of Lean's own print of the translation. Lean checks it.
import Derived.Test.YteibdjkfkcckkaaDoorShort
import Derived.Test.YteibdjkfkcckkaaDoorPFnExactFormatPlanx0
import Derived.Test.YteibdjkfkcckkaaDoorPFnExactFormatPlanx5
namespace Go.Proofs.YteibdjkfkcckkaaDoor.PFnExactFormatPlan
open Go.RowKit Go.Proofs.YteibdjkfkcckkaaDoorW.PrintWords Go.Proofs.YteibdjkfkcckkaaDoorW.PrintLast Go.Proofs.YteibdjkfkcckkaaDoorW.PrintMore
attribute [local go_sem] max2_int min2_int max_two min_two max_three min_three max_four min_four   -- for this text's walks alone
set_option linter.unusedVariables false
set_option linter.unusedSimpArgs false

theorem b6_0 {p : Prop} (h : p := by repeat (first | (with_reducible first | exact HB.out | apply below_alloc | apply pw_below_drewN | apply below_drew1 | refine below_set ?_ GE152.out) | exact HB.out)) : p := h
theorem b6_1 {p : Prop} (h : p := by (with_reducible repeat (first | refine blk_drewN ?_ _ | refine blk_drew ?_ | refine blk_alloc ?_ _)); exact BK152.out) : p := h
theorem b6_2 {p : Prop} (h : p := by repeat (first | (with_reducible first | exact HB.out | apply below_alloc | apply pw_below_drewN | apply below_drew1) | exact HB.out)) : p := h
theorem b6_3 {p : Prop} (h : p := by (try simp only [List.map_toArray, List.map_cons, List.map_nil]); first | done | rfl | (simp only [List.length_drop, List.length_take]; rfl)) : p := h
theorem b6_4 {p : Prop} (h : p := by (with_reducible repeat (first | apply Kd.R_alloc | apply Kd.R_drewN | apply Kd.R_drew)); exact HO155.out) : p := h
theorem b6_5 {p : Prop} (h : p := by first | (with_reducible assumption) | assumption) : p := h
/-! ### spec_l3Text: function 11 -/
def spec_l3Text.j0 : Nat → ByteArray → Bool → Int → Int → Int → Int → Int → Int → List Int → Option (ByteArray)
 | 0, _, _, _, _, _, _, _, _, _ => none
 | k + 1, x3, x69, x153000, x153001, x153002, x153003, x153004, x153005, x153006 => if x69 = true then ((spec_l3Line.f k x3 (([x153001, x153003] : List Int))).bind fun t185 => (some t185)) else ((spec_l3Line.f k x3 (([x153001] : List Int))).bind fun t189 => (some t189))
def spec_l3Text.f (k : Nat) (a0_0 : Int) (a0_1 : Int) (a0_2 : Int) (a0_3 : Int) (a0_4 : Int) (a0_5 : Int) (l0_6 : List Int) : Option (ByteArray) := (spec_l3Words.f).bind fun t153 => (if 0 ≤ a0_0 then (if a0_0 < (t153.length : Int) then (if a0_0 = 1 then ((spec_l3Line.f k (rdOf ByteArray.empty t153 a0_0) (([a0_3] : List Int))).bind fun t160 => (some t160)) else (if a0_0 = 2 then ((spec_l3Line.f k (rdOf ByteArray.empty t153 a0_0) (([a0_1, a0_3] : List Int))).bind fun t164 => (if t164.size + 1 ≤ 9223372036854775807 then (if 0 ≤ a0_4 then (if a0_4 ≤ (wrap64 (a0_4 + 1)) then (if (wrap64 (a0_4 + 1)) ≤ 3 then (if (t164 ++ (⟨#[32]⟩ : ByteArray)).size + ((⟨#[61, 60, 62]⟩ : ByteArray).extract (a0_4 : Int).toNat ((wrap64 (a0_4 + 1)) : Int).toNat).size ≤ 9223372036854775807 then ((spec_l3Line.f k ((t164 ++ (⟨#[32]⟩ : ByteArray)) ++ ((⟨#[61, 60, 62]⟩ : ByteArray).extract (a0_4 : Int).toNat ((wrap64 (a0_4 + 1)) : Int).toNat)) (([a0_5] : List Int))).bind fun t168 => (some t168)) else (none)) else (none)) else (none)) else (none)) else (none))) else (if a0_0 = 3 then ((spec_l3Line.f k (rdOf ByteArray.empty t153 a0_0) (([a0_1] : List Int))).bind fun t172 => ((spec_l3Line.f k t172 l0_6).bind fun t173 => (some t173))) else (if a0_0 = 4 then ((spec_l3Line.f k (rdOf ByteArray.empty t153 a0_0) (([a0_1, a0_2] : List Int))).bind fun t177 => (some t177)) else (if a0_0 = 6 then ((spec_l3Line.f k (rdOf ByteArray.empty t153 a0_0) (([a0_1, a0_2, a0_3] : List Int))).bind fun t181 => (some t181)) else (if a0_0 = 7 then (spec_l3Text.j0 k (rdOf ByteArray.empty t153 a0_0) (a0_0 == 7) a0_0 a0_1 a0_2 a0_3 a0_4 a0_5 l0_6) else (if a0_0 = 8 then (spec_l3Text.j0 k (rdOf ByteArray.empty t153 a0_0) (a0_0 == 8) a0_0 a0_1 a0_2 a0_3 a0_4 a0_5 l0_6) else (if a0_0 = 9 then (spec_l3Text.j0 k (rdOf ByteArray.empty t153 a0_0) (a0_0 == 9) a0_0 a0_1 a0_2 a0_3 a0_4 a0_5 l0_6) else (spec_l3Text.j0 k (rdOf ByteArray.empty t153 a0_0) (a0_0 == 10) a0_0 a0_1 a0_2 a0_3 a0_4 a0_5 l0_6))))))))) else (none)) else (none))
theorem spec_l3Text.mono_l : ∀ k, (∀ y0 y1 y2 y3 y4 y5 y6 y7 y8, LeO (spec_l3Text.j0 k y0 y1 y2 y3 y4 y5 y6 y7 y8) (spec_l3Text.j0 (k + 1) y0 y1 y2 y3 y4 y5 y6 y7 y8))
 | 0 => fun _ _ _ _ _ _ _ _ _ r h => by simp [spec_l3Text.j0] at h
 | k + 1 => by
  have ih0 := spec_l3Text.mono_l k
  ·intro y0 y1 y2 y3 y4 y5 y6 y7 y8
   unfold spec_l3Text.j0
   repeat' first
   | (with_reducible exact ih0 _ _ _ _ _ _ _ _ _)
   | (with_reducible exact spec_l3Line.mono _ _ _)
   | (with_reducible exact LeO.refl _)
   | (with_reducible exact LeO.none _)
   | (with_reducible refine LeO.ite ?_ ?_)
   | (with_reducible refine LeO.bind ?_ (fun _ => ?_))
   | exact ih0 _ _ _ _ _ _ _ _ _
   | exact spec_l3Line.mono _ _ _
   | exact LeO.none _
   | refine LeO.ite ?_ ?_
   | refine LeO.bind ?_ (fun _ => ?_)
theorem spec_l3Text.mono : ∀ a0 a1 a2 a3 a4 a5 a6 k, LeO (spec_l3Text.f k a0 a1 a2 a3 a4 a5 a6) (spec_l3Text.f (k + 1) a0 a1 a2 a3 a4 a5 a6) := by
 intro a0 a1 a2 a3 a4 a5 a6 k
 have ih0 := spec_l3Text.mono_l k
 unfold spec_l3Text.f
 repeat' first
   | (with_reducible exact ih0 _ _ _ _ _ _ _ _ _)
   | (with_reducible exact spec_l3Line.mono _ _ _)
   | (with_reducible exact LeO.refl _)
   | (with_reducible exact LeO.none _)
   | (with_reducible refine LeO.ite ?_ ?_)
   | (with_reducible refine LeO.bind ?_ (fun _ => ?_))
   | exact ih0 _ _ _ _ _ _ _ _ _
   | exact spec_l3Line.mono _ _ _
   | exact LeO.none _
   | refine LeO.ite ?_ ?_
   | refine LeO.bind ?_ (fun _ => ?_)
def spec_l3Text.T6 : Bool × List (List Nat × List Nat) := (true, [([], []), ([], []), ([1], [1]), ([], []), ([3], [3]), ([2, 4], [2, 4]), ([0, 5], [0, 5]), ([6], [6]), ([], []), ([8], [8]), ([], []), ([10], [10]), ([11], [11]), ([9, 12], [9, 12]), ([7, 13], [7, 13]), ([], []), ([15], [15]), ([16], [16]), ([14, 17, 6], [14, 17]), ([18, 18, 0, 1, 2, 3, 4, 5, 6, 7, 8, 9, 10, 11, 12, 13, 14, 15, 16, 17, 18], [18])])
def spec_l3Text.B6 : List Nat := [0, 0, 2, 0, 8, 30, 63, 127, 0, 256, 0, 1024, 3072, 7936, 16383, 0, 32768, 98304, 262143, 524287]
theorem spec_l3Text.tab6 : rtab .any (opsOf Tryd.f11 6) = spec_l3Text.T6 := by kernel_rfl
theorem spec_l3Text.bits6 : waitsOk spec_l3Text.T6.2 spec_l3Text.B6 = true := by kernel_rfl
def spec_l3Text.T8 : Bool × List (List Nat × List Nat) := (true, [([], []), ([], []), ([1], [1]), ([2], [2]), ([0, 3], [0, 3]), ([], []), ([5], [5]), ([4, 6, 4], [4, 6]), ([7, 7, 0, 1, 2, 3, 4, 5, 6, 7], [7])])
def spec_l3Text.B8 : List Nat := [0, 0, 2, 6, 15, 0, 32, 127, 255]
theorem spec_l3Text.tab8 : rtab .any (opsOf Tryd.f11 8) = spec_l3Text.T8 := by kernel_rfl
theorem spec_l3Text.bits8 : waitsOk spec_l3Text.T8.2 spec_l3Text.B8 = true := by kernel_rfl
set_option maxHeartbeats 8000000 in
set_option maxRecDepth 100000 in
theorem spec_l3Text.calls (k : Nat) (a0_0 : Int) (a0_1 : Int) (a0_2 : Int) (a0_3 : Int) (a0_4 : Int) (a0_5 : Int) (A0_6 : Option Addr) (c0_6 : Nat) (l0_6 : List Int) (r : ByteArray) (w : World) (hr0_6 : Kd.C (Kd.int .i64) w A0_6 l0_6.length l0_6) (hc0_6 : l0_6.length ≤ c0_6) (h : spec_l3Text.f k a0_0 a0_1 a0_2 a0_3 a0_4 a0_5 l0_6 = some r) :
  Calls Tryd.prog 11 #[.agg #[.int .i64 a0_0, .int .i64 a0_1, .int .i64 a0_2, .int .i64 a0_3, .int .i64 a0_4, .int .i64 a0_5, .slice A0_6 l0_6.length c0_6]] w fun e w' => e = .returned (.string r) ∧ Below w.heap.size w w' := by
 have hu35 := Tryd.underlying35
 have HR0_6 := Aside0.mk hr0_6
 have HC0_6 := Aside0.mk hc0_6
 clear hr0_6 hc0_6
 have HB := Aside0.mk (Below.refl w.heap.size w)
 have H : ((spec_l3Words.f).bind fun t153 => (if 0 ≤ a0_0 then (if a0_0 < (t153.length : Int) then (if a0_0 = 1 then ((spec_l3Line.f k (rdOf ByteArray.empty t153 a0_0) (([a0_3] : List Int))).bind fun t160 => (some t160)) else (if a0_0 = 2 then ((spec_l3Line.f k (rdOf ByteArray.empty t153 a0_0) (([a0_1, a0_3] : List Int))).bind fun t164 => (if t164.size + 1 ≤ 9223372036854775807 then (if 0 ≤ a0_4 then (if a0_4 ≤ (wrap64 (a0_4 + 1)) then (if (wrap64 (a0_4 + 1)) ≤ 3 then (if (t164 ++ (⟨#[32]⟩ : ByteArray)).size + ((⟨#[61, 60, 62]⟩ : ByteArray).extract (a0_4 : Int).toNat ((wrap64 (a0_4 + 1)) : Int).toNat).size ≤ 9223372036854775807 then ((spec_l3Line.f k ((t164 ++ (⟨#[32]⟩ : ByteArray)) ++ ((⟨#[61, 60, 62]⟩ : ByteArray).extract (a0_4 : Int).toNat ((wrap64 (a0_4 + 1)) : Int).toNat)) (([a0_5] : List Int))).bind fun t168 => (some t168)) else (none)) else (none)) else (none)) else (none)) else (none))) else (if a0_0 = 3 then ((spec_l3Line.f k (rdOf ByteArray.empty t153 a0_0) (([a0_1] : List Int))).bind fun t172 => ((spec_l3Line.f k t172 l0_6).bind fun t173 => (some t173))) else (if a0_0 = 4 then ((spec_l3Line.f k (rdOf ByteArray.empty t153 a0_0) (([a0_1, a0_2] : List Int))).bind fun t177 => (some t177)) else (if a0_0 = 6 then ((spec_l3Line.f k (rdOf ByteArray.empty t153 a0_0) (([a0_1, a0_2, a0_3] : List Int))).bind fun t181 => (some t181)) else (if a0_0 = 7 then (spec_l3Text.j0 k (rdOf ByteArray.empty t153 a0_0) (a0_0 == 7) a0_0 a0_1 a0_2 a0_3 a0_4 a0_5 l0_6) else (if a0_0 = 8 then (spec_l3Text.j0 k (rdOf ByteArray.empty t153 a0_0) (a0_0 == 8) a0_0 a0_1 a0_2 a0_3 a0_4 a0_5 l0_6) else (if a0_0 = 9 then (spec_l3Text.j0 k (rdOf ByteArray.empty t153 a0_0) (a0_0 == 9) a0_0 a0_1 a0_2 a0_3 a0_4 a0_5 l0_6) else (spec_l3Text.j0 k (rdOf ByteArray.empty t153 a0_0) (a0_0 == 10) a0_0 a0_1 a0_2 a0_3 a0_4 a0_5 l0_6))))))))) else (none)) else (none))) = some r := h
 clear h
 replace H := Option.bind_eq_some_iff.mp H
 obtain ⟨t153, A20, H⟩ := H
 replace H : (if 0 ≤ a0_0 then (if a0_0 < (t153.length : Int) then (if a0_0 = 1 then ((spec_l3Line.f k (rdOf ByteArray.empty t153 a0_0) (([a0_3] : List Int))).bind fun t160 => (some t160)) else (if a0_0 = 2 then ((spec_l3Line.f k (rdOf ByteArray.empty t153 a0_0) (([a0_1, a0_3] : List Int))).bind fun t164 => (if t164.size + 1 ≤ 9223372036854775807 then (if 0 ≤ a0_4 then (if a0_4 ≤ (wrap64 (a0_4 + 1)) then (if (wrap64 (a0_4 + 1)) ≤ 3 then (if (t164 ++ (⟨#[32]⟩ : ByteArray)).size + ((⟨#[61, 60, 62]⟩ : ByteArray).extract (a0_4 : Int).toNat ((wrap64 (a0_4 + 1)) : Int).toNat).size ≤ 9223372036854775807 then ((spec_l3Line.f k ((t164 ++ (⟨#[32]⟩ : ByteArray)) ++ ((⟨#[61, 60, 62]⟩ : ByteArray).extract (a0_4 : Int).toNat ((wrap64 (a0_4 + 1)) : Int).toNat)) (([a0_5] : List Int))).bind fun t168 => (some t168)) else (none)) else (none)) else (none)) else (none)) else (none))) else (if a0_0 = 3 then ((spec_l3Line.f k (rdOf ByteArray.empty t153 a0_0) (([a0_1] : List Int))).bind fun t172 => ((spec_l3Line.f k t172 l0_6).bind fun t173 => (some t173))) else (if a0_0 = 4 then ((spec_l3Line.f k (rdOf ByteArray.empty t153 a0_0) (([a0_1, a0_2] : List Int))).bind fun t177 => (some t177)) else (if a0_0 = 6 then ((spec_l3Line.f k (rdOf ByteArray.empty t153 a0_0) (([a0_1, a0_2, a0_3] : List Int))).bind fun t181 => (some t181)) else (if a0_0 = 7 then (spec_l3Text.j0 k (rdOf ByteArray.empty t153 a0_0) (a0_0 == 7) a0_0 a0_1 a0_2 a0_3 a0_4 a0_5 l0_6) else (if a0_0 = 8 then (spec_l3Text.j0 k (rdOf ByteArray.empty t153 a0_0) (a0_0 == 8) a0_0 a0_1 a0_2 a0_3 a0_4 a0_5 l0_6) else (if a0_0 = 9 then (spec_l3Text.j0 k (rdOf ByteArray.empty t153 a0_0) (a0_0 == 9) a0_0 a0_1 a0_2 a0_3 a0_4 a0_5 l0_6) else (spec_l3Text.j0 k (rdOf ByteArray.empty t153 a0_0) (a0_0 == 10) a0_0 a0_1 a0_2 a0_3 a0_4 a0_5 l0_6))))))))) else (none)) else (none)) = some r := H
 have A2 := Aside0.mk A20
 clear A20
 by_cases c3 : 0 ≤ a0_0
 ·rw [if_pos c3] at H
  have c3b0 : decide (0 ≤ a0_0) = true := decide_eq_true c3
  clear c3
  by_cases c4 : a0_0 < (t153.length : Int)
  ·rw [if_pos c4] at H
   have c4b0 : decide (a0_0 < (t153.length : Int)) = true := decide_eq_true c4
   clear c4
   by_cases c5 : a0_0 = 1
   ·rw [if_pos c5] at H
    have c5b0 : (a0_0 == 1) = true := beq_iff_eq.mpr c5
    have c5b1 : (a0_0 != 1) = false := bne_eq_false_iff_eq.mpr c5
    clear c5
    obtain ⟨y157, hy157⟩ : ∃ y_ : List Int, y_ = (([a0_3] : List Int)) := ⟨_, rfl⟩
    replace H : ((spec_l3Line.f k (rdOf ByteArray.empty t153 a0_0) y157).bind fun t160 => (some t160)) = some r := by first | (rw [hy157]; with_reducible exact H) | (have H2_ := (Option.bind_some _ _).symm.trans H; rw [hy157]; with_reducible exact H2_) | (have H2_ := (Option.bind_some _ _).symm.trans H; with_reducible exact H2_) | with_reducible exact H | (rw [hy157]; exact H) | exact H
    have Ny157 := Aside0.mk hy157
    clear hy157
    replace H := Option.bind_eq_some_iff.mp H
    obtain ⟨t160, A60, H⟩ := H
    replace H : (some t160) = some r := H
    have A6 := Aside0.mk A60
    clear A60
    obtain rfl := Option.some.inj H
    go_enter Tryd.func11, Tryd.ntmps11
    try go_wp2_with (first | ((with_reducible refine gate_dst (N := 1) rfl ?_); refine box_event ?hg (N := 1) ?hd (cs := #[.int .i64 a0_0, .int .i64 a0_1, .int .i64 a0_2, .int .i64 a0_3, .int .i64 a0_4, .int .i64 a0_5, .slice A0_6 l0_6.length c0_6]) (t := 35) ?hr ?_; (case hd => rfl); (case hg => rfl); (case hr => first | (go_simp; done) | (go_simp; rfl)); intro gb152 hg w7 hbox hb; have n0_ := Aside0.mk (below_step b6_2 hb); have n1_ := Aside0.mk (hbox); have n2_ := Aside0.mk ((by rw [hg]; exact (below_size b6_2) : w.heap.size ≤ gb152)); have n3_ := Aside0.mk ((by rw [hg]; exact (below_size b6_2) : w.heap.size ≤ gb152)); clear HB; have HB := n0_; have BK152 := n1_; have GW152 := n2_; have GE152 := n3_; clear n0_ n1_ n2_ n3_; clear hb hbox hg))
    have n0_ := Aside0.mk (blk_drew BK152.out)
    have n1_ := Aside0.mk (below_drew1 HB.out)
    clear BK152
    clear HB
    have BK152 := n0_
    have HB := n1_
    clear n0_ n1_
    refine start_ (n := 6) (S := fun w' => w'.cell? ⟨gb152, 0, none⟩ = some (.int .i64 a0_0) ∧ w'.cell? ⟨gb152, 1, none⟩ = some (.int .i64 a0_1) ∧ w'.cell? ⟨gb152, 2, none⟩ = some (.int .i64 a0_2) ∧ w'.cell? ⟨gb152, 3, none⟩ = some (.int .i64 a0_3) ∧ w'.cell? ⟨gb152, 4, none⟩ = some (.int .i64 a0_4) ∧ w'.cell? ⟨gb152, 5, none⟩ = some (.int .i64 a0_5) ∧ w'.cell? ⟨gb152, 6, none⟩ = some (.slice A0_6 l0_6.length c0_6)) (ds := []) (bl 6 0) (by kernel_rfl) rfl rfl ⟨(blk_cell BK152.out 0).trans rfl, (blk_cell BK152.out 1).trans rfl, (blk_cell BK152.out 2).trans rfl, (blk_cell BK152.out 3).trans rfl, (blk_cell BK152.out 4).trans rfl, (blk_cell BK152.out 5).trans rfl, (blk_cell BK152.out 6).trans rfl⟩ (fun hHeld => ?_)
    generalize w7.drew = w8 at BK152 HB hHeld ⊢
    refine pk_ 1 (some 5) (bl 6 2) rfl ?_
    refine tk_ 2 (some 6) (bl 6 6) rfl hHeld (fun w' s_ => by obtain ⟨s0, s1, s2, s3, s4, s5, s6⟩ := s_; go_simp; with_reducible rfl) ?_
    refine ok_ 0 (some 4) (bl 6 7) rfl (fun K hK => ?_)
    refine goes_ Tryd.func18 (by kernel_rfl) rfl #[] (by rfl) rfl rfl b6_3 ?_
    with_reducible refine (spec_l3Words.calls  t153 _ A2.out).mono ?_
    rintro e w9 ⟨v154, rfl, ho0, hb⟩
    skip
    refine ⟨_, rfl, ?_⟩
    have n0_ := Aside0.mk (Kd.R_lower ho0 (below_size b6_0))
    have n1_ := Aside0.mk (blk_below (g := gb152) (o := .cells #[.int .i64 a0_0, .int .i64 a0_1, .int .i64 a0_2, .int .i64 a0_3, .int .i64 a0_4, .int .i64 a0_5, .slice A0_6 l0_6.length c0_6] 35 (0, 0)) b6_1 hb)
    have n2_ := Aside0.mk (below_step b6_0 hb)
    clear BK152
    clear HB
    have HO155 := n0_
    have BK152 := n1_
    have HB := n2_
    clear n0_ n1_ n2_
    (try clear hb)
    (try clear hb2)
    (try clear hk)
    (try clear hi)
    (try clear ho0)
    obtain ⟨Ao10, co10, eo10⟩ := Kd.R_slice HO155.out
    (first | subst eo10 | (injection eo10 with f1_ f2_ f3_; have f4_ := f1_.symm; have f5_ := f3_.symm; clear f1_ f2_ f3_; subst f4_; subst f5_))
    have p156 : 0 ≤ (a0_0 : Int) := of_decide_eq_true b6_5
    have q156 : a0_0 < (t153.length : Int) := of_decide_eq_true b6_5
    obtain ⟨ad156, e156, hx156_0⟩ := Kd.at_string (Kd.R_reads' HO155.out).2.2 a0_0 p156 q156
    cases e156
    replace p156 := eq_true p156
    replace q156 := eq_true q156
    refine hK.out _ _ ⟨(blk_cell BK152.out 0).trans rfl, (blk_cell BK152.out 1).trans rfl, (blk_cell BK152.out 2).trans rfl, (blk_cell BK152.out 3).trans rfl, (blk_cell BK152.out 4).trans rfl, (blk_cell BK152.out 5).trans rfl, (blk_cell BK152.out 6).trans rfl⟩ (fun hHeld => ?_)
    clear hK K
    refine norm_ (a' := ?_) ?_ ?_
    rotate_left
    ·show Act.put _ (some 4) _ = _
     simp only [Act.put, List.setIfInBounds_toArray, List.set_cons_zero, List.set_cons_succ, i64_w, i32_w]
     rfl
    refine pk_ 3 (some 7) (bl 6 15) rfl ?_
    refine Tab.lone_ (S' := fun w' => w'.cell? (ad156.add (a0_0).toNat) = some (.string (rdOf ByteArray.empty t153 a0_0))) (i := 4) (N := some 8) (v := ?_) (a' := ?_) (bl 6 31) rfl rfl (by kernel_rfl) (Or.inl ⟨by rfl, ?_⟩) hx156_0 ?_ ?_
    rotate_left
    ·rintro w' s7
     go_simp
     with_reducible rfl
    rotate_left
    ·simp only [Act.put, List.setIfInBounds_toArray, List.set_cons_zero, List.set_cons_succ, i64_w, i32_w]
     rfl
    refine pk_ 5 (some 3) (bl 6 63) rfl ?_
    refine done_ (by kernel_rfl) ?_
    obtain ⟨hcz11_0, hcz11_1, hcz11_2, hcz11_3, hcz11_4, hcz11_5, hcz11_6, hfz11_0, hfz11_1, hfz11_2, hfz11_3, hfz11_4, hfz11_5, hfz11_6⟩ := cells7 BK152.out
    try go_wp2_with (first | ((with_reducible refine gate_dst (N := 16) rfl ?_); refine Kd.R_lit (Kd.int .i64) _ 2 ?hg (N := 16) ?hd (xs := ([a0_3] : List Int)) (inner := [.int .i64 a0_3]) (ok := fun _ => True) (okp := fun _ => True) ?hr ?hp (fun _ hk => hk) trivial (Below.refl _ _) (Nat.le_refl _) (by simp) ?_; (case hd => rfl); (case hg => rfl); (case hr => first | (go_simp; done) | (go_simp; rfl)); (case hp => exact (Reps.one (show Kd.M (Kd.int .i64) _ _ _ a0_3 [.int .i64 a0_3] from rfl) (Reps.none _ _))); intro v158 w12 ho13 hb hg_ hnew_; clear hg_ hnew_; (first | rw [← Ny157.out] at ho13 | (simp only [Int.reduceToNat] at ho13; rw [← Ny157.out] at ho13)); have n0_ := Aside0.mk (Kd.R_below b6_4 hb); have n1_ := Aside0.mk (Kd.R_lower ho13 (below_size b6_0)); have n2_ := Aside0.mk (blk_below (g := gb152) (o := .cells #[.int .i64 a0_0, .int .i64 a0_1, .int .i64 a0_2, .int .i64 a0_3, .int .i64 a0_4, .int .i64 a0_5, .slice A0_6 l0_6.length c0_6] 35 (0, 0)) b6_1 hb); have n3_ := Aside0.mk (below_step b6_0 hb); clear HO155; clear BK152; clear HB; have HO155 := n0_; have HO159 := n1_; have BK152 := n2_; have HB := n3_; clear n0_ n1_ n2_ n3_; clear hb ho13; obtain ⟨Ao14, co14, eo14⟩ := Kd.R_slice HO159.out; subst eo14) | ((with_reducible refine gate_callee (f := 19) rfl ?_); refine goesL_ (some 17) rfl rfl Tryd.func19 (by kernel_rfl) rfl #[.string (rdOf ByteArray.empty t153 a0_0), .slice Ao14 y157.length co14] rfl b6_3 ?_; (with_reducible refine (spec_l3Line.calls k (rdOf ByteArray.empty t153 a0_0) _ _ y157 t160 _ ?side1 ?side2 A6.out).mono ?_); (case side1 => exact (by repeat (first | exact (Kd.R_reads' HO159.out).2.2 | (with_reducible refine Kd.C_alloc ?_ _) | (with_reducible refine Kd.C_drewN ?_ _) | (with_reducible refine Kd.C_drew ?_)))); (case side2 => exact (Kd.R_reads' HO159.out).2.1); rintro e w15 ⟨rfl, hb⟩; refine ⟨_, rfl, ?_⟩; have n0_ := Aside0.mk (Kd.R_below b6_4 hb); have n1_ := Aside0.mk (Kd.R_below (by (with_reducible repeat (first | apply Kd.R_alloc | apply Kd.R_drewN | apply Kd.R_drew)); exact HO159.out) hb); have n2_ := Aside0.mk (blk_below (g := gb152) (o := .cells #[.int .i64 a0_0, .int .i64 a0_1, .int .i64 a0_2, .int .i64 a0_3, .int .i64 a0_4, .int .i64 a0_5, .slice A0_6 l0_6.length c0_6] 35 (0, 0)) b6_1 hb); have n3_ := Aside0.mk (below_step b6_0 hb); clear HO155; clear HO159; clear BK152; clear HB; have HO155 := n0_; have HO159 := n1_; have BK152 := n2_; have HB := n3_; clear n0_ n1_ n2_ n3_; (try clear hb); (try clear hb2); (try clear hk); (try clear hi)))
    go_ret
    exact ⟨by first | rfl | (simp [errW_none, errW_some] <;> rfl) | (simp [*, errW_none, errW_some] <;> rfl), by repeat (first | (with_reducible first | exact HB.out | apply below_alloc | apply pw_below_drewN | apply below_drew1 | refine below_set ?_ GE152.out) | exact HB.out)⟩
   ·rw [if_neg c5] at H
    have c5b0 : (a0_0 == 1) = false := beq_eq_false_iff_ne.mpr c5
    have c5b1 : (a0_0 != 1) = true := bne_iff_ne.mpr c5
    by_cases c16 : a0_0 = 2
    ·rw [if_pos c16] at H
     have c16b0 : (a0_0 == 2) = true := beq_iff_eq.mpr c16
     have c16b1 : (a0_0 != 2) = false := bne_eq_false_iff_eq.mpr c16
     clear c16
     obtain ⟨y161, hy161⟩ : ∃ y_ : List Int, y_ = (([a0_1, a0_3] : List Int)) := ⟨_, rfl⟩
     replace H : ((spec_l3Line.f k (rdOf ByteArray.empty t153 a0_0) y161).bind fun t164 => (if t164.size + 1 ≤ 9223372036854775807 then (if 0 ≤ a0_4 then (if a0_4 ≤ (wrap64 (a0_4 + 1)) then (if (wrap64 (a0_4 + 1)) ≤ 3 then (if (t164 ++ (⟨#[32]⟩ : ByteArray)).size + ((⟨#[61, 60, 62]⟩ : ByteArray).extract (a0_4 : Int).toNat ((wrap64 (a0_4 + 1)) : Int).toNat).size ≤ 9223372036854775807 then ((spec_l3Line.f k ((t164 ++ (⟨#[32]⟩ : ByteArray)) ++ ((⟨#[61, 60, 62]⟩ : ByteArray).extract (a0_4 : Int).toNat ((wrap64 (a0_4 + 1)) : Int).toNat)) (([a0_5] : List Int))).bind fun t168 => (some t168)) else (none)) else (none)) else (none)) else (none)) else (none))) = some r := by first | (rw [hy161]; with_reducible exact H) | (have H2_ := (Option.bind_some _ _).symm.trans H; rw [hy161]; with_reducible exact H2_) | (have H2_ := (Option.bind_some _ _).symm.trans H; with_reducible exact H2_) | with_reducible exact H | (rw [hy161]; exact H) | exact H
     have Ny161 := Aside0.mk hy161
     clear hy161
     replace H := Option.bind_eq_some_iff.mp H
     obtain ⟨t164, A170, H⟩ := H
     replace H : (if t164.size + 1 ≤ 9223372036854775807 then (if 0 ≤ a0_4 then (if a0_4 ≤ (wrap64 (a0_4 + 1)) then (if (wrap64 (a0_4 + 1)) ≤ 3 then (if (t164 ++ (⟨#[32]⟩ : ByteArray)).size + ((⟨#[61, 60, 62]⟩ : ByteArray).extract (a0_4 : Int).toNat ((wrap64 (a0_4 + 1)) : Int).toNat).size ≤ 9223372036854775807 then ((spec_l3Line.f k ((t164 ++ (⟨#[32]⟩ : ByteArray)) ++ ((⟨#[61, 60, 62]⟩ : ByteArray).extract (a0_4 : Int).toNat ((wrap64 (a0_4 + 1)) : Int).toNat)) (([a0_5] : List Int))).bind fun t168 => (some t168)) else (none)) else (none)) else (none)) else (none)) else (none)) = some r := H
     have A17 := Aside0.mk A170
     clear A170
     by_cases c18 : t164.size + 1 ≤ 9223372036854775807
     ·rw [if_pos c18] at H
      have c18b0 := eq_true c18
      have c18b1 : decide (t164.size + 1 ≤ 9223372036854775807) = true := decide_eq_true c18
      try have c18b2 : (9223372036854775807 < t164.size + 1) = False := eq_false (Nat.not_lt.2 c18)
      by_cases c19 : 0 ≤ a0_4
      ·rw [if_pos c19] at H
       have c19b0 := eq_true c19
       have c19b1 : decide (0 ≤ a0_4) = true := decide_eq_true c19
       clear c19
       by_cases c20 : a0_4 ≤ (wrap64 (a0_4 + 1))
       ·rw [if_pos c20] at H
        have c20b0 := eq_true c20
        have c20b1 : decide (a0_4 ≤ (wrap64 (a0_4 + 1))) = true := decide_eq_true c20
        by_cases c21 : (wrap64 (a0_4 + 1)) ≤ 3
        ·rw [if_pos c21] at H
         have c21b0 := eq_true c21
         have c21b1 : decide ((wrap64 (a0_4 + 1)) ≤ 3) = true := decide_eq_true c21
         by_cases c22 : (t164 ++ (⟨#[32]⟩ : ByteArray)).size + ((⟨#[61, 60, 62]⟩ : ByteArray).extract (a0_4 : Int).toNat ((wrap64 (a0_4 + 1)) : Int).toNat).size ≤ 9223372036854775807
         ·rw [if_pos c22] at H
          have c22b0 := eq_true c22
          have c22b1 : decide ((t164 ++ (⟨#[32]⟩ : ByteArray)).size + ((⟨#[61, 60, 62]⟩ : ByteArray).extract (a0_4 : Int).toNat ((wrap64 (a0_4 + 1)) : Int).toNat).size ≤ 9223372036854775807) = true := decide_eq_true c22
          try have c22b2 : (9223372036854775807 < (t164 ++ (⟨#[32]⟩ : ByteArray)).size + ((⟨#[61, 60, 62]⟩ : ByteArray).extract (a0_4 : Int).toNat ((wrap64 (a0_4 + 1)) : Int).toNat).size) = False := eq_false (Nat.not_lt.2 c22)
          try have c22b3 : (9223372036854775807 < t164.size + 1 + ((⟨#[61, 60, 62]⟩ : ByteArray).extract (a0_4 : Int).toNat ((wrap64 (a0_4 + 1)) : Int).toNat).size) = False := eq_false (by rw [← (show (t164 ++ (⟨#[32]⟩ : ByteArray)).size + ((⟨#[61, 60, 62]⟩ : ByteArray).extract (a0_4 : Int).toNat ((wrap64 (a0_4 + 1)) : Int).toNat).size = t164.size + 1 + ((⟨#[61, 60, 62]⟩ : ByteArray).extract (a0_4 : Int).toNat ((wrap64 (a0_4 + 1)) : Int).toNat).size from by first | rfl | (simp only [ByteArray.size_append]; done) | (simp only [ByteArray.size_append]; rfl))]; exact Nat.not_lt.2 c22)
          obtain ⟨y165, hy165⟩ : ∃ y_ : List Int, y_ = (([a0_5] : List Int)) := ⟨_, rfl⟩
          replace H : ((spec_l3Line.f k ((t164 ++ (⟨#[32]⟩ : ByteArray)) ++ ((⟨#[61, 60, 62]⟩ : ByteArray).extract (a0_4 : Int).toNat ((wrap64 (a0_4 + 1)) : Int).toNat)) y165).bind fun t168 => (some t168)) = some r := by first | (rw [hy165]; with_reducible exact H) | (have H2_ := (Option.bind_some _ _).symm.trans H; rw [hy165]; with_reducible exact H2_) | (have H2_ := (Option.bind_some _ _).symm.trans H; with_reducible exact H2_) | with_reducible exact H | (rw [hy165]; exact H) | exact H
          have Ny165 := Aside0.mk hy165
          clear hy165
          replace H := Option.bind_eq_some_iff.mp H
          obtain ⟨t168, A230, H⟩ := H
          replace H : (some t168) = some r := H
          have A23 := Aside0.mk A230
          clear A230
          obtain rfl := Option.some.inj H
          go_enter Tryd.func11, Tryd.ntmps11
          try go_wp2_with (first | ((with_reducible refine gate_dst (N := 1) rfl ?_); refine box_event ?hg (N := 1) ?hd (cs := #[.int .i64 a0_0, .int .i64 a0_1, .int .i64 a0_2, .int .i64 a0_3, .int .i64 a0_4, .int .i64 a0_5, .slice A0_6 l0_6.length c0_6]) (t := 35) ?hr ?_; (case hd => rfl); (case hg => rfl); (case hr => first | (go_simp; done) | (go_simp; rfl)); intro gb152 hg w24 hbox hb; have n0_ := Aside0.mk (below_step b6_2 hb); have n1_ := Aside0.mk (hbox); have n2_ := Aside0.mk ((by rw [hg]; exact (below_size b6_2) : w.heap.size ≤ gb152)); have n3_ := Aside0.mk ((by rw [hg]; exact (below_size b6_2) : w.heap.size ≤ gb152)); clear HB; have HB := n0_; have BK152 := n1_; have GW152 := n2_; have GE152 := n3_; clear n0_ n1_ n2_ n3_; clear hb hbox hg))
          have n0_ := Aside0.mk (blk_drew BK152.out)
          have n1_ := Aside0.mk (below_drew1 HB.out)
          clear BK152
          clear HB
          have BK152 := n0_
          have HB := n1_
          clear n0_ n1_
          refine start_ (n := 6) (S := fun w' => w'.cell? ⟨gb152, 0, none⟩ = some (.int .i64 a0_0) ∧ w'.cell? ⟨gb152, 1, none⟩ = some (.int .i64 a0_1) ∧ w'.cell? ⟨gb152, 2, none⟩ = some (.int .i64 a0_2) ∧ w'.cell? ⟨gb152, 3, none⟩ = some (.int .i64 a0_3) ∧ w'.cell? ⟨gb152, 4, none⟩ = some (.int .i64 a0_4) ∧ w'.cell? ⟨gb152, 5, none⟩ = some (.int .i64 a0_5) ∧ w'.cell? ⟨gb152, 6, none⟩ = some (.slice A0_6 l0_6.length c0_6)) (ds := []) (bl 6 0) (by kernel_rfl) rfl rfl ⟨(blk_cell BK152.out 0).trans rfl, (blk_cell BK152.out 1).trans rfl, (blk_cell BK152.out 2).trans rfl, (blk_cell BK152.out 3).trans rfl, (blk_cell BK152.out 4).trans rfl, (blk_cell BK152.out 5).trans rfl, (blk_cell BK152.out 6).trans rfl⟩ (fun hHeld => ?_)
          generalize w24.drew = w25 at BK152 HB hHeld ⊢
          refine pk_ 1 (some 5) (bl 6 2) rfl ?_
          refine tk_ 2 (some 6) (bl 6 6) rfl hHeld (fun w' s_ => by obtain ⟨s0, s1, s2, s3, s4, s5, s6⟩ := s_; go_simp; with_reducible rfl) ?_
          refine ok_ 0 (some 4) (bl 6 7) rfl (fun K hK => ?_)
          refine goes_ Tryd.func18 (by kernel_rfl) rfl #[] (by rfl) rfl rfl b6_3 ?_
          with_reducible refine (spec_l3Words.calls  t153 _ A2.out).mono ?_
          rintro e w26 ⟨v154, rfl, ho0, hb⟩
          skip
          refine ⟨_, rfl, ?_⟩
          have n0_ := Aside0.mk (Kd.R_lower ho0 (below_size b6_0))
          have n1_ := Aside0.mk (blk_below (g := gb152) (o := .cells #[.int .i64 a0_0, .int .i64 a0_1, .int .i64 a0_2, .int .i64 a0_3, .int .i64 a0_4, .int .i64 a0_5, .slice A0_6 l0_6.length c0_6] 35 (0, 0)) b6_1 hb)
          have n2_ := Aside0.mk (below_step b6_0 hb)
          clear BK152
          clear HB
          have HO155 := n0_
          have BK152 := n1_
          have HB := n2_
          clear n0_ n1_ n2_
          (try clear hb)
          (try clear hb2)
          (try clear hk)
          (try clear hi)
          (try clear ho0)
          obtain ⟨Ao27, co27, eo27⟩ := Kd.R_slice HO155.out
          (first | subst eo27 | (injection eo27 with f1_ f2_ f3_; have f4_ := f1_.symm; have f5_ := f3_.symm; clear f1_ f2_ f3_; subst f4_; subst f5_))
          have p156 : 0 ≤ (a0_0 : Int) := of_decide_eq_true b6_5
          have q156 : a0_0 < (t153.length : Int) := of_decide_eq_true b6_5
          obtain ⟨ad156, e156, hx156_0⟩ := Kd.at_string (Kd.R_reads' HO155.out).2.2 a0_0 p156 q156
          cases e156
          replace p156 := eq_true p156
          replace q156 := eq_true q156
          refine hK.out _ _ ⟨(blk_cell BK152.out 0).trans rfl, (blk_cell BK152.out 1).trans rfl, (blk_cell BK152.out 2).trans rfl, (blk_cell BK152.out 3).trans rfl, (blk_cell BK152.out 4).trans rfl, (blk_cell BK152.out 5).trans rfl, (blk_cell BK152.out 6).trans rfl⟩ (fun hHeld => ?_)
          clear hK K
          refine norm_ (a' := ?_) ?_ ?_
          rotate_left
          ·show Act.put _ (some 4) _ = _
           simp only [Act.put, List.setIfInBounds_toArray, List.set_cons_zero, List.set_cons_succ, i64_w, i32_w]
           rfl
          refine pk_ 3 (some 7) (bl 6 15) rfl ?_
          refine Tab.lone_ (S' := fun w' => w'.cell? (ad156.add (a0_0).toNat) = some (.string (rdOf ByteArray.empty t153 a0_0))) (i := 4) (N := some 8) (v := ?_) (a' := ?_) (bl 6 31) rfl rfl (by kernel_rfl) (Or.inl ⟨by rfl, ?_⟩) hx156_0 ?_ ?_
          rotate_left
          ·rintro w' s7
           go_simp
           with_reducible rfl
          rotate_left
          ·simp only [Act.put, List.setIfInBounds_toArray, List.set_cons_zero, List.set_cons_succ, i64_w, i32_w]
           rfl
          refine pk_ 5 (some 3) (bl 6 63) rfl ?_
          refine done_ (by kernel_rfl) ?_
          obtain ⟨hcz28_0, hcz28_1, hcz28_2, hcz28_3, hcz28_4, hcz28_5, hcz28_6, hfz28_0, hfz28_1, hfz28_2, hfz28_3, hfz28_4, hfz28_5, hfz28_6⟩ := cells7 BK152.out
          try go_wp2
          have n0_ := Aside0.mk (Kd.R_drew HO155.out)
          have n1_ := Aside0.mk (blk_drew BK152.out)
          have n2_ := Aside0.mk (below_drew1 HB.out)
          clear HO155
          clear BK152
          clear HB
          have HO155 := n0_
          have BK152 := n1_
          have HB := n2_
          clear n0_ n1_ n2_
          refine start_ (n := 20) (S := fun w' => True) (ds := []) (bl 20 0) (by kernel_rfl) rfl rfl trivial (fun hHeld => ?_); refine with_tabW spec_l3Text.tab6 spec_l3Text.bits6 (fun HT_ HW_ => ?_)
          generalize w26.drew = w29 at HO155 BK152 HB hHeld ⊢
          refine pu_ 0 (some 20) (bl 20 1) HT_.out rfl ?_
          refine pu_ 1 (some 21) (bl 20 3) HT_.out rfl ?_
          refine pu_ 3 (some 23) (bl 20 11) HT_.out rfl ?_
          refine pu_ 8 (some 28) (bl 20 267) HT_.out rfl ?_
          refine pu_ 10 (some 30) (bl 20 1291) HT_.out rfl ?_
          refine pu_ 15 (some 35) (bl 20 34059) HT_.out rfl ?_
          refine inv_at [2, 4, 5, 6, 7, 9, 11, 12, 13, 14, 16, 17, 18, 19] (fun a0_ b a w' => ∃ (v162 : Value) (v166 : Value), a = putSel a0_ b [(2, 22, .int .i64 a0_1), (4, 24, .int .i64 a0_3), (5, 25, v162), (6, 26, .string t164), (7, 27, .string (t164 ++ (⟨#[32]⟩ : ByteArray))), (9, 29, .int .i64 a0_4), (11, 31, .int .i64 a0_4), (12, 32, .int .i64 (wrap64 (a0_4 + 1))), (13, 33, .string ((⟨#[61, 60, 62]⟩ : ByteArray).extract (a0_4 : Int).toNat ((wrap64 (a0_4 + 1)) : Int).toNat)), (14, 34, .string ((t164 ++ (⟨#[32]⟩ : ByteArray)) ++ ((⟨#[61, 60, 62]⟩ : ByteArray).extract (a0_4 : Int).toNat ((wrap64 (a0_4 + 1)) : Int).toNat))), (16, 36, .int .i64 a0_5), (17, 37, v166), (18, 38, .string t168), (19, 2, .string t168)] ∧ (Kd.R Kd.string 9 w' w.heap.size (fun _ => True) (.slice (some ad156) t153.length co27) t153) ∧ (w'.heap[gb152]? = some (.cells #[.int .i64 a0_0, .int .i64 a0_1, .int .i64 a0_2, .int .i64 a0_3, .int .i64 a0_4, .int .i64 a0_5, .slice A0_6 l0_6.length c0_6] 35 (0, 0))) ∧ (Below w.heap.size w w') ∧ (b 5 = true → Kd.R (Kd.int .i64) 2 w' w.heap.size (fun _ => True) v162 y161) ∧ (b 17 = true → Kd.R (Kd.int .i64) 2 w' w.heap.size (fun _ => True) v166 y165)) HT_.out HW_.out (by kernel_rfl) (by kernel_rfl) ?_ ?_ ?_
          ·exact ⟨.bool false, .bool false, by simp only [putSel, Bool.false_eq_true, if_false], HO155.out, BK152.out, HB.out, fun h_ => absurd h_ (by decide), fun h_ => absurd h_ (by decide)⟩
          ·skip
           clear BK152 HB HO155
           refine steps_cons ?_ ?_
           ·rintro b a w' ⟨v162, v166, ha, Q_HO155, Q_BK152, Q_HB, Q_HO163, Q_HO167⟩ hb_ hon hoff
            refine ⟨_, rfl, fun K hK => ?_⟩
            have e21 : a.tmps[21]? = some (.pointer (some ⟨gb152, 1, none⟩)) := by rw [ha]; exact (putSel_off rfl).trans rfl
            replace ha := Aside0.mk ha
            have HO155 := Aside0.mk Q_HO155
            have BK152 := Aside0.mk Q_BK152
            have HB := Aside0.mk Q_HB
            have hc0_ : w'.cell? ⟨gb152, 0, none⟩ = some (.int .i64 a0_0) := (blk_cell BK152.out 0).trans rfl
            have hc1_ : w'.cell? ⟨gb152, 1, none⟩ = some (.int .i64 a0_1) := (blk_cell BK152.out 1).trans rfl
            have hc2_ : w'.cell? ⟨gb152, 2, none⟩ = some (.int .i64 a0_2) := (blk_cell BK152.out 2).trans rfl
            have hc3_ : w'.cell? ⟨gb152, 3, none⟩ = some (.int .i64 a0_3) := (blk_cell BK152.out 3).trans rfl
            have hc4_ : w'.cell? ⟨gb152, 4, none⟩ = some (.int .i64 a0_4) := (blk_cell BK152.out 4).trans rfl
            have hc5_ : w'.cell? ⟨gb152, 5, none⟩ = some (.int .i64 a0_5) := (blk_cell BK152.out 5).trans rfl
            have hc6_ : w'.cell? ⟨gb152, 6, none⟩ = some (.slice A0_6 l0_6.length c0_6) := (blk_cell BK152.out 6).trans rfl
            refine value_ (w1 := w') (v := .int .i64 a0_1) (by rfl) rfl ?_ ?_
            ·go_simp
             (try simp only [i64_w])
             try rfl
            refine hK.out _ _ ⟨v162, v166, (by rw [ha.out]; exact putSel_upk 0 hb_ rfl rfl rfl), Q_HO155, Q_BK152, Q_HB, fun h0_ => absurd ((hoff 5 (by kernel_rfl)).symm.trans h0_) (by decide), Q_HO167⟩
           refine steps_cons ?_ ?_
           ·rintro b a w' ⟨v162, v166, ha, Q_HO155, Q_BK152, Q_HB, Q_HO163, Q_HO167⟩ hb_ hon hoff
            refine ⟨_, rfl, fun K hK => ?_⟩
            have e23 : a.tmps[23]? = some (.pointer (some ⟨gb152, 3, none⟩)) := by rw [ha]; exact (putSel_off rfl).trans rfl
            replace ha := Aside0.mk ha
            have HO155 := Aside0.mk Q_HO155
            have BK152 := Aside0.mk Q_BK152
            have HB := Aside0.mk Q_HB
            have hc0_ : w'.cell? ⟨gb152, 0, none⟩ = some (.int .i64 a0_0) := (blk_cell BK152.out 0).trans rfl
            have hc1_ : w'.cell? ⟨gb152, 1, none⟩ = some (.int .i64 a0_1) := (blk_cell BK152.out 1).trans rfl
            have hc2_ : w'.cell? ⟨gb152, 2, none⟩ = some (.int .i64 a0_2) := (blk_cell BK152.out 2).trans rfl
            have hc3_ : w'.cell? ⟨gb152, 3, none⟩ = some (.int .i64 a0_3) := (blk_cell BK152.out 3).trans rfl
            have hc4_ : w'.cell? ⟨gb152, 4, none⟩ = some (.int .i64 a0_4) := (blk_cell BK152.out 4).trans rfl
            have hc5_ : w'.cell? ⟨gb152, 5, none⟩ = some (.int .i64 a0_5) := (blk_cell BK152.out 5).trans rfl
            have hc6_ : w'.cell? ⟨gb152, 6, none⟩ = some (.slice A0_6 l0_6.length c0_6) := (blk_cell BK152.out 6).trans rfl
            refine value_ (w1 := w') (v := .int .i64 a0_3) (by rfl) rfl ?_ ?_
            ·go_simp
             (try simp only [i64_w])
             try rfl
            refine hK.out _ _ ⟨v162, v166, (by rw [ha.out]; exact putSel_upk 1 hb_ rfl rfl rfl), Q_HO155, Q_BK152, Q_HB, fun h0_ => absurd ((hoff 5 (by kernel_rfl)).symm.trans h0_) (by decide), Q_HO167⟩
           refine steps_cons ?_ ?_
           ·rintro b a w' ⟨v162, v166, ha, Q_HO155, Q_BK152, Q_HB, Q_HO163, Q_HO167⟩ hb_ hon hoff
            refine ⟨_, rfl, fun K hK => ?_⟩
            have e22 : a.tmps[22]? = some (.int .i64 a0_1) := by rw [ha]; exact putSel_on (e := (2, 22, .int .i64 a0_1)) 0 rfl rfl (hon 2 (by kernel_rfl)) rfl
            have e24 : a.tmps[24]? = some (.int .i64 a0_3) := by rw [ha]; exact putSel_on (e := (4, 24, .int .i64 a0_3)) 1 rfl rfl (hon 4 (by kernel_rfl)) rfl
            replace ha := Aside0.mk ha
            have HO155 := Aside0.mk Q_HO155
            have BK152 := Aside0.mk Q_BK152
            have HB := Aside0.mk Q_HB
            refine Kd.R_lit_step (Kd.int .i64) _ 2 ?hg (N := 25) ?hd (xs := ([a0_1, a0_3] : List Int)) (inner := [.int .i64 a0_1, .int .i64 a0_3]) (ok := fun _ => True) (okp := fun _ => True) ?hr ?hp (fun _ hk => hk) trivial (Below.refl _ _) (Nat.le_refl _) (by simp) ?_; (case hd => rfl); (case hg => rfl); (case hr => first | (go_simp; done) | (go_simp; rfl)); (case hp => exact (Reps.one (show Kd.M (Kd.int .i64) _ _ _ a0_1 [.int .i64 a0_1] from rfl) (Reps.one (show Kd.M (Kd.int .i64) _ _ _ a0_3 [.int .i64 a0_3] from rfl) (Reps.none _ _))))
            intro v162 w30 ho31 hb hg_ hnew_
            clear hg_ hnew_
            (first | rw [← Ny161.out] at ho31 | (simp only [Int.reduceToNat] at ho31; rw [← Ny161.out] at ho31))
            have n0_ := Aside0.mk (Kd.R_below b6_4 hb)
            have n1_ := Aside0.mk (Kd.R_lower ho31 (below_size b6_0))
            have n2_ := Aside0.mk (blk_below (g := gb152) (o := .cells #[.int .i64 a0_0, .int .i64 a0_1, .int .i64 a0_2, .int .i64 a0_3, .int .i64 a0_4, .int .i64 a0_5, .slice A0_6 l0_6.length c0_6] 35 (0, 0)) b6_1 hb)
            have n3_ := Aside0.mk (below_step b6_0 hb)
            have z_HO167 := fun (h0_ : b 17 = true) => (show Kd.R (Kd.int .i64) 2 w30 w.heap.size (fun _ => True) v166 y165 from by first | exact (Kd.R_elder' (by (with_reducible repeat (first | apply Kd.R_alloc | apply Kd.R_drewN | apply Kd.R_drew)); exact (Q_HO167 h0_)) (Kd.R_base ho31) hb) | exact Kd.R_mono (Kd.R_elder' (by (with_reducible repeat (first | apply Kd.R_alloc | apply Kd.R_drewN | apply Kd.R_drew)); exact (Q_HO167 h0_)) (Kd.R_base ho31) hb) (fun _ h_ => by first | trivial | exact h_ | exact h_.1))
            clear HO155
            clear BK152
            clear HB
            have HO155 := n0_
            have HO163 := n1_
            have BK152 := n2_
            have HB := n3_
            clear n0_ n1_ n2_ n3_
            clear hb ho31
            refine hK.out _ _ ⟨v162, v166, (by rw [ha.out]; exact putSel_upk 2 hb_ rfl rfl rfl), b6_4, b6_1, b6_0, fun _ => (by (with_reducible repeat (first | apply Kd.R_alloc | apply Kd.R_drewN | apply Kd.R_drew)); exact HO163.out), z_HO167⟩
           refine steps_cons ?_ ?_
           ·rintro b a w' ⟨v162, v166, ha, Q_HO155, Q_BK152, Q_HB, Q_HO163, Q_HO167⟩ hb_ hon hoff
            refine ⟨_, rfl, fun K hK => ?_⟩
            have e20 : a.tmps[20]? = some (.string (rdOf ByteArray.empty t153 a0_0)) := by rw [ha]; exact (putSel_off rfl).trans rfl
            have e25 : a.tmps[25]? = some (v162) := by rw [ha]; exact putSel_on (e := (5, 25, v162)) 2 rfl rfl (hon 5 (by kernel_rfl)) rfl
            replace ha := Aside0.mk ha
            have HO155 := Aside0.mk Q_HO155
            have BK152 := Aside0.mk Q_BK152
            have HB := Aside0.mk Q_HB
            have HO163 := Aside0.mk (Q_HO163 (hon 5 (by kernel_rfl)))
            obtain ⟨Ao33, co33, eo33⟩ := Kd.R_slice HO163.out
            (first | subst eo33 | (injection eo33 with f1_ f2_ f3_; have f4_ := f1_.symm; have f5_ := f3_.symm; clear f1_ f2_ f3_; subst f4_; subst f5_))
            refine goes_ Tryd.func19 (by kernel_rfl) rfl #[.string (rdOf ByteArray.empty t153 a0_0), .slice Ao33 y161.length co33] (by rfl) rfl rfl (by first | (simp only [List.map_toArray, List.map_cons, List.map_nil, Act.eval, Array.getD_eq_getD_getElem?, Option.getD_some, e20, e25]; done) | (simp only [List.map_toArray, List.map_cons, List.map_nil, Act.eval, Array.getD_eq_getD_getElem?, Option.getD_some, e20, e25]; rfl)) ?_
            with_reducible refine (spec_l3Line.calls k (rdOf ByteArray.empty t153 a0_0) _ _ y161 t164 _ ?side1 ?side2 A17.out).mono ?_
            (case side1 => exact (by repeat (first | exact (Kd.R_reads' HO163.out).2.2 | (with_reducible refine Kd.C_alloc ?_ _) | (with_reducible refine Kd.C_drewN ?_ _) | (with_reducible refine Kd.C_drew ?_))))
            (case side2 => exact (Kd.R_reads' HO163.out).2.1)
            rintro e w34 ⟨rfl, hb⟩
            refine ⟨_, rfl, ?_⟩
            have n0_ := Aside0.mk (Kd.R_below b6_4 hb)
            have n1_ := Aside0.mk (Kd.R_below (by (with_reducible repeat (first | apply Kd.R_alloc | apply Kd.R_drewN | apply Kd.R_drew)); exact HO163.out) hb)
            have n2_ := Aside0.mk (blk_below (g := gb152) (o := .cells #[.int .i64 a0_0, .int .i64 a0_1, .int .i64 a0_2, .int .i64 a0_3, .int .i64 a0_4, .int .i64 a0_5, .slice A0_6 l0_6.length c0_6] 35 (0, 0)) b6_1 hb)
            have n3_ := Aside0.mk (below_step b6_0 hb)
            have z_HO167 := fun (h0_ : b 17 = true) => (show Kd.R (Kd.int .i64) 2 w34 w.heap.size (fun _ => True) v166 y165 from by first | exact (Kd.R_below (by (with_reducible repeat (first | apply Kd.R_alloc | apply Kd.R_drewN | apply Kd.R_drew)); exact (Q_HO167 h0_)) hb) | exact Kd.R_mono (Kd.R_below (by (with_reducible repeat (first | apply Kd.R_alloc | apply Kd.R_drewN | apply Kd.R_drew)); exact (Q_HO167 h0_)) hb) (fun _ h_ => by first | trivial | exact h_ | exact h_.1))
            clear HO155
            clear HO163
            clear BK152
            clear HB
            have HO155 := n0_
            have HO163 := n1_
            have BK152 := n2_
            have HB := n3_
            clear n0_ n1_ n2_ n3_
            (try clear hb)
            (try clear hb2)
            (try clear hk)
            (try clear hi)
            refine hK.out _ _ ⟨.slice Ao33 y161.length co33, v166, (by rw [ha.out]; exact putSel_upk 3 hb_ rfl rfl rfl), b6_4, b6_1, b6_0, fun _ => (by (with_reducible repeat (first | apply Kd.R_alloc | apply Kd.R_drewN | apply Kd.R_drew)); exact HO163.out), z_HO167⟩
           refine steps_cons ?_ ?_
           ·rintro b a w' ⟨v162, v166, ha, Q_HO155, Q_BK152, Q_HB, Q_HO163, Q_HO167⟩ hb_ hon hoff
            refine ⟨_, rfl, fun K hK => ?_⟩
            have e26 : a.tmps[26]? = some (.string t164) := by rw [ha]; exact putSel_on (e := (6, 26, .string t164)) 3 rfl rfl (hon 6 (by kernel_rfl)) rfl
            replace ha := Aside0.mk ha
            have HO155 := Aside0.mk Q_HO155
            have BK152 := Aside0.mk Q_BK152
            have HB := Aside0.mk Q_HB
            have HO163 := Aside0.mk (Q_HO163 (hon 5 (by kernel_rfl)))
            refine value_ (w1 := w') (v := .string (t164 ++ (⟨#[32]⟩ : ByteArray))) (by rfl) rfl ?_ ?_
            ·go_simp
             (try simp only [i64_w])
             try rfl
            refine hK.out _ _ ⟨v162, v166, (by rw [ha.out]; exact putSel_upk 4 hb_ rfl rfl rfl), Q_HO155, Q_BK152, Q_HB, Q_HO163, Q_HO167⟩
           refine steps_cons ?_ ?_
           ·rintro b a w' ⟨v162, v166, ha, Q_HO155, Q_BK152, Q_HB, Q_HO163, Q_HO167⟩ hb_ hon hoff
            refine ⟨_, rfl, fun K hK => ?_⟩
            have e28 : a.tmps[28]? = some (.pointer (some ⟨gb152, 4, none⟩)) := by rw [ha]; exact (putSel_off rfl).trans rfl
            replace ha := Aside0.mk ha
            have HO155 := Aside0.mk Q_HO155
            have BK152 := Aside0.mk Q_BK152
            have HB := Aside0.mk Q_HB
            have hc0_ : w'.cell? ⟨gb152, 0, none⟩ = some (.int .i64 a0_0) := (blk_cell BK152.out 0).trans rfl
            have hc1_ : w'.cell? ⟨gb152, 1, none⟩ = some (.int .i64 a0_1) := (blk_cell BK152.out 1).trans rfl
            have hc2_ : w'.cell? ⟨gb152, 2, none⟩ = some (.int .i64 a0_2) := (blk_cell BK152.out 2).trans rfl
            have hc3_ : w'.cell? ⟨gb152, 3, none⟩ = some (.int .i64 a0_3) := (blk_cell BK152.out 3).trans rfl
            have hc4_ : w'.cell? ⟨gb152, 4, none⟩ = some (.int .i64 a0_4) := (blk_cell BK152.out 4).trans rfl
            have hc5_ : w'.cell? ⟨gb152, 5, none⟩ = some (.int .i64 a0_5) := (blk_cell BK152.out 5).trans rfl
            have hc6_ : w'.cell? ⟨gb152, 6, none⟩ = some (.slice A0_6 l0_6.length c0_6) := (blk_cell BK152.out 6).trans rfl
            refine value_ (w1 := w') (v := .int .i64 a0_4) (by rfl) rfl ?_ ?_
            ·go_simp
             (try simp only [i64_w])
             try rfl
            refine hK.out _ _ ⟨v162, v166, (by rw [ha.out]; exact putSel_upk 5 hb_ rfl rfl rfl), Q_HO155, Q_BK152, Q_HB, Q_HO163, Q_HO167⟩
           refine steps_cons ?_ ?_
           ·rintro b a w' ⟨v162, v166, ha, Q_HO155, Q_BK152, Q_HB, Q_HO163, Q_HO167⟩ hb_ hon hoff
            refine ⟨_, rfl, fun K hK => ?_⟩
            have e30 : a.tmps[30]? = some (.pointer (some ⟨gb152, 4, none⟩)) := by rw [ha]; exact (putSel_off rfl).trans rfl
            replace ha := Aside0.mk ha
            have HO155 := Aside0.mk Q_HO155
            have BK152 := Aside0.mk Q_BK152
            have HB := Aside0.mk Q_HB
            have hc0_ : w'.cell? ⟨gb152, 0, none⟩ = some (.int .i64 a0_0) := (blk_cell BK152.out 0).trans rfl
            have hc1_ : w'.cell? ⟨gb152, 1, none⟩ = some (.int .i64 a0_1) := (blk_cell BK152.out 1).trans rfl
            have hc2_ : w'.cell? ⟨gb152, 2, none⟩ = some (.int .i64 a0_2) := (blk_cell BK152.out 2).trans rfl
            have hc3_ : w'.cell? ⟨gb152, 3, none⟩ = some (.int .i64 a0_3) := (blk_cell BK152.out 3).trans rfl
            have hc4_ : w'.cell? ⟨gb152, 4, none⟩ = some (.int .i64 a0_4) := (blk_cell BK152.out 4).trans rfl
            have hc5_ : w'.cell? ⟨gb152, 5, none⟩ = some (.int .i64 a0_5) := (blk_cell BK152.out 5).trans rfl
            have hc6_ : w'.cell? ⟨gb152, 6, none⟩ = some (.slice A0_6 l0_6.length c0_6) := (blk_cell BK152.out 6).trans rfl
            refine value_ (w1 := w') (v := .int .i64 a0_4) (by rfl) rfl ?_ ?_
            ·go_simp
             (try simp only [i64_w])
             try rfl
            refine hK.out _ _ ⟨v162, v166, (by rw [ha.out]; exact putSel_upk 6 hb_ rfl rfl rfl), Q_HO155, Q_BK152, Q_HB, Q_HO163, Q_HO167⟩
           refine steps_cons ?_ ?_
           ·rintro b a w' ⟨v162, v166, ha, Q_HO155, Q_BK152, Q_HB, Q_HO163, Q_HO167⟩ hb_ hon hoff
            refine ⟨_, rfl, fun K hK => ?_⟩
            have e31 : a.tmps[31]? = some (.int .i64 a0_4) := by rw [ha]; exact putSel_on (e := (11, 31, .int .i64 a0_4)) 6 rfl rfl (hon 11 (by kernel_rfl)) rfl
            replace ha := Aside0.mk ha
            have HO155 := Aside0.mk Q_HO155
            have BK152 := Aside0.mk Q_BK152
            have HB := Aside0.mk Q_HB
            refine value_ (w1 := w') (v := .int .i64 (wrap64 (a0_4 + 1))) (by rfl) rfl ?_ ?_
            ·go_simp
             (try simp only [i64_w])
             try rfl
            refine hK.out _ _ ⟨v162, v166, (by rw [ha.out]; exact putSel_upk 7 hb_ rfl rfl rfl), Q_HO155, Q_BK152, Q_HB, Q_HO163, Q_HO167⟩
           refine steps_cons ?_ ?_
           ·rintro b a w' ⟨v162, v166, ha, Q_HO155, Q_BK152, Q_HB, Q_HO163, Q_HO167⟩ hb_ hon hoff
            refine ⟨_, rfl, fun K hK => ?_⟩
            have e29 : a.tmps[29]? = some (.int .i64 a0_4) := by rw [ha]; exact putSel_on (e := (9, 29, .int .i64 a0_4)) 5 rfl rfl (hon 9 (by kernel_rfl)) rfl
            have e32 : a.tmps[32]? = some (.int .i64 (wrap64 (a0_4 + 1))) := by rw [ha]; exact putSel_on (e := (12, 32, .int .i64 (wrap64 (a0_4 + 1)))) 7 rfl rfl (hon 12 (by kernel_rfl)) rfl
            replace ha := Aside0.mk ha
            have HO155 := Aside0.mk Q_HO155
            have BK152 := Aside0.mk Q_BK152
            have HB := Aside0.mk Q_HB
            refine value_ (w1 := w') (v := .string ((⟨#[61, 60, 62]⟩ : ByteArray).extract (a0_4 : Int).toNat ((wrap64 (a0_4 + 1)) : Int).toNat)) (by rfl) rfl ?_ ?_
            ·go_simp
             (try simp only [i64_w])
             try rfl
            refine hK.out _ _ ⟨v162, v166, (by rw [ha.out]; exact putSel_upk 8 hb_ rfl rfl rfl), Q_HO155, Q_BK152, Q_HB, Q_HO163, Q_HO167⟩
           refine steps_cons ?_ ?_
           ·rintro b a w' ⟨v162, v166, ha, Q_HO155, Q_BK152, Q_HB, Q_HO163, Q_HO167⟩ hb_ hon hoff
            refine ⟨_, rfl, fun K hK => ?_⟩
            have e27 : a.tmps[27]? = some (.string (t164 ++ (⟨#[32]⟩ : ByteArray))) := by rw [ha]; exact putSel_on (e := (7, 27, .string (t164 ++ (⟨#[32]⟩ : ByteArray)))) 4 rfl rfl (hon 7 (by kernel_rfl)) rfl
            have e33 : a.tmps[33]? = some (.string ((⟨#[61, 60, 62]⟩ : ByteArray).extract (a0_4 : Int).toNat ((wrap64 (a0_4 + 1)) : Int).toNat)) := by rw [ha]; exact putSel_on (e := (13, 33, .string ((⟨#[61, 60, 62]⟩ : ByteArray).extract (a0_4 : Int).toNat ((wrap64 (a0_4 + 1)) : Int).toNat))) 8 rfl rfl (hon 13 (by kernel_rfl)) rfl
            replace ha := Aside0.mk ha
            have HO155 := Aside0.mk Q_HO155
            have BK152 := Aside0.mk Q_BK152
            have HB := Aside0.mk Q_HB
            have HO163 := Aside0.mk (Q_HO163 (hon 5 (by kernel_rfl)))
            refine value_ (w1 := w') (v := .string ((t164 ++ (⟨#[32]⟩ : ByteArray)) ++ ((⟨#[61, 60, 62]⟩ : ByteArray).extract (a0_4 : Int).toNat ((wrap64 (a0_4 + 1)) : Int).toNat))) (by rfl) rfl ?_ ?_
            ·go_simp
             (try simp only [i64_w])
             try rfl
             all_goals (have q_ := c22; rw [ByteArray.size_append, ByteArray.size_extract] at q_; simp only [show (⟨#[32]⟩ : ByteArray).size = 1 from rfl, show (⟨#[61, 60, 62]⟩ : ByteArray).size = 3 from rfl] at q_; omega)
            refine hK.out _ _ ⟨v162, v166, (by rw [ha.out]; exact putSel_upk 9 hb_ rfl rfl rfl), Q_HO155, Q_BK152, Q_HB, Q_HO163, Q_HO167⟩
           refine steps_cons ?_ ?_
           ·rintro b a w' ⟨v162, v166, ha, Q_HO155, Q_BK152, Q_HB, Q_HO163, Q_HO167⟩ hb_ hon hoff
            refine ⟨_, rfl, fun K hK => ?_⟩
            have e35 : a.tmps[35]? = some (.pointer (some ⟨gb152, 5, none⟩)) := by rw [ha]; exact (putSel_off rfl).trans rfl
            replace ha := Aside0.mk ha
            have HO155 := Aside0.mk Q_HO155
            have BK152 := Aside0.mk Q_BK152
            have HB := Aside0.mk Q_HB
            have hc0_ : w'.cell? ⟨gb152, 0, none⟩ = some (.int .i64 a0_0) := (blk_cell BK152.out 0).trans rfl
            have hc1_ : w'.cell? ⟨gb152, 1, none⟩ = some (.int .i64 a0_1) := (blk_cell BK152.out 1).trans rfl
            have hc2_ : w'.cell? ⟨gb152, 2, none⟩ = some (.int .i64 a0_2) := (blk_cell BK152.out 2).trans rfl
            have hc3_ : w'.cell? ⟨gb152, 3, none⟩ = some (.int .i64 a0_3) := (blk_cell BK152.out 3).trans rfl
            have hc4_ : w'.cell? ⟨gb152, 4, none⟩ = some (.int .i64 a0_4) := (blk_cell BK152.out 4).trans rfl
            have hc5_ : w'.cell? ⟨gb152, 5, none⟩ = some (.int .i64 a0_5) := (blk_cell BK152.out 5).trans rfl
            have hc6_ : w'.cell? ⟨gb152, 6, none⟩ = some (.slice A0_6 l0_6.length c0_6) := (blk_cell BK152.out 6).trans rfl
            refine value_ (w1 := w') (v := .int .i64 a0_5) (by rfl) rfl ?_ ?_
            ·go_simp
             (try simp only [i64_w])
             try rfl
            refine hK.out _ _ ⟨v162, v166, (by rw [ha.out]; exact putSel_upk 10 hb_ rfl rfl rfl), Q_HO155, Q_BK152, Q_HB, Q_HO163, fun h0_ => absurd ((hoff 17 (by kernel_rfl)).symm.trans h0_) (by decide)⟩
           refine steps_cons ?_ ?_
           ·rintro b a w' ⟨v162, v166, ha, Q_HO155, Q_BK152, Q_HB, Q_HO163, Q_HO167⟩ hb_ hon hoff
            refine ⟨_, rfl, fun K hK => ?_⟩
            have e36 : a.tmps[36]? = some (.int .i64 a0_5) := by rw [ha]; exact putSel_on (e := (16, 36, .int .i64 a0_5)) 10 rfl rfl (hon 16 (by kernel_rfl)) rfl
            replace ha := Aside0.mk ha
            have HO155 := Aside0.mk Q_HO155
            have BK152 := Aside0.mk Q_BK152
            have HB := Aside0.mk Q_HB
            refine Kd.R_lit_step (Kd.int .i64) _ 2 ?hg (N := 37) ?hd (xs := ([a0_5] : List Int)) (inner := [.int .i64 a0_5]) (ok := fun _ => True) (okp := fun _ => True) ?hr ?hp (fun _ hk => hk) trivial (Below.refl _ _) (Nat.le_refl _) (by simp) ?_; (case hd => rfl); (case hg => rfl); (case hr => first | (go_simp; done) | (go_simp; rfl)); (case hp => exact (Reps.one (show Kd.M (Kd.int .i64) _ _ _ a0_5 [.int .i64 a0_5] from rfl) (Reps.none _ _)))
            intro v166 w30 ho31 hb hg_ hnew_
            clear hg_ hnew_
            (first | rw [← Ny165.out] at ho31 | (simp only [Int.reduceToNat] at ho31; rw [← Ny165.out] at ho31))
            have n0_ := Aside0.mk (Kd.R_below b6_4 hb)
            have n1_ := Aside0.mk (Kd.R_lower ho31 (below_size b6_0))
            have n2_ := Aside0.mk (blk_below (g := gb152) (o := .cells #[.int .i64 a0_0, .int .i64 a0_1, .int .i64 a0_2, .int .i64 a0_3, .int .i64 a0_4, .int .i64 a0_5, .slice A0_6 l0_6.length c0_6] 35 (0, 0)) b6_1 hb)
            have n3_ := Aside0.mk (below_step b6_0 hb)
            have z_HO163 := fun (h0_ : b 5 = true) => (show Kd.R (Kd.int .i64) 2 w30 w.heap.size (fun _ => True) v162 y161 from by first | exact (Kd.R_elder' (by (with_reducible repeat (first | apply Kd.R_alloc | apply Kd.R_drewN | apply Kd.R_drew)); exact (Q_HO163 h0_)) (Kd.R_base ho31) hb) | exact Kd.R_mono (Kd.R_elder' (by (with_reducible repeat (first | apply Kd.R_alloc | apply Kd.R_drewN | apply Kd.R_drew)); exact (Q_HO163 h0_)) (Kd.R_base ho31) hb) (fun _ h_ => by first | trivial | exact h_ | exact h_.1))
            clear HO155
            clear BK152
            clear HB
            have HO155 := n0_
            have HO167 := n1_
            have BK152 := n2_
            have HB := n3_
            clear n0_ n1_ n2_ n3_
            clear hb ho31
            refine hK.out _ _ ⟨v162, v166, (by rw [ha.out]; exact putSel_upk 11 hb_ rfl rfl rfl), b6_4, b6_1, b6_0, z_HO163, fun _ => (by (with_reducible repeat (first | apply Kd.R_alloc | apply Kd.R_drewN | apply Kd.R_drew)); exact HO167.out)⟩
           refine steps_cons ?_ ?_
           ·rintro b a w' ⟨v162, v166, ha, Q_HO155, Q_BK152, Q_HB, Q_HO163, Q_HO167⟩ hb_ hon hoff
            refine ⟨_, rfl, fun K hK => ?_⟩
            have e34 : a.tmps[34]? = some (.string ((t164 ++ (⟨#[32]⟩ : ByteArray)) ++ ((⟨#[61, 60, 62]⟩ : ByteArray).extract (a0_4 : Int).toNat ((wrap64 (a0_4 + 1)) : Int).toNat))) := by rw [ha]; exact putSel_on (e := (14, 34, .string ((t164 ++ (⟨#[32]⟩ : ByteArray)) ++ ((⟨#[61, 60, 62]⟩ : ByteArray).extract (a0_4 : Int).toNat ((wrap64 (a0_4 + 1)) : Int).toNat)))) 9 rfl rfl (hon 14 (by kernel_rfl)) rfl
            have e37 : a.tmps[37]? = some (v166) := by rw [ha]; exact putSel_on (e := (17, 37, v166)) 11 rfl rfl (hon 17 (by kernel_rfl)) rfl
            replace ha := Aside0.mk ha
            have HO155 := Aside0.mk Q_HO155
            have BK152 := Aside0.mk Q_BK152
            have HB := Aside0.mk Q_HB
            have HO163 := Aside0.mk (Q_HO163 (hon 5 (by kernel_rfl)))
            have HO167 := Aside0.mk (Q_HO167 (hon 17 (by kernel_rfl)))
            obtain ⟨Ao37, co37, eo37⟩ := Kd.R_slice HO167.out
            (first | subst eo37 | (injection eo37 with f1_ f2_ f3_; have f4_ := f1_.symm; have f5_ := f3_.symm; clear f1_ f2_ f3_; subst f4_; subst f5_))
            refine goes_ Tryd.func19 (by kernel_rfl) rfl #[.string ((t164 ++ (⟨#[32]⟩ : ByteArray)) ++ ((⟨#[61, 60, 62]⟩ : ByteArray).extract (a0_4 : Int).toNat ((wrap64 (a0_4 + 1)) : Int).toNat)), .slice Ao37 y165.length co37] (by rfl) rfl rfl (by first | (simp only [List.map_toArray, List.map_cons, List.map_nil, Act.eval, Array.getD_eq_getD_getElem?, Option.getD_some, e34, e37]; done) | (simp only [List.map_toArray, List.map_cons, List.map_nil, Act.eval, Array.getD_eq_getD_getElem?, Option.getD_some, e34, e37]; rfl)) ?_
            with_reducible refine (spec_l3Line.calls k ((t164 ++ (⟨#[32]⟩ : ByteArray)) ++ ((⟨#[61, 60, 62]⟩ : ByteArray).extract (a0_4 : Int).toNat ((wrap64 (a0_4 + 1)) : Int).toNat)) _ _ y165 t168 _ ?side1 ?side2 A23.out).mono ?_
            (case side1 => exact (by repeat (first | exact (Kd.R_reads' HO167.out).2.2 | (with_reducible refine Kd.C_alloc ?_ _) | (with_reducible refine Kd.C_drewN ?_ _) | (with_reducible refine Kd.C_drew ?_))))
            (case side2 => exact (Kd.R_reads' HO167.out).2.1)
            rintro e w38 ⟨rfl, hb⟩
            refine ⟨_, rfl, ?_⟩
            have n0_ := Aside0.mk (Kd.R_below b6_4 hb)
            have n1_ := Aside0.mk (Kd.R_below (by (with_reducible repeat (first | apply Kd.R_alloc | apply Kd.R_drewN | apply Kd.R_drew)); exact HO163.out) hb)
            have n2_ := Aside0.mk (Kd.R_below (by (with_reducible repeat (first | apply Kd.R_alloc | apply Kd.R_drewN | apply Kd.R_drew)); exact HO167.out) hb)
            have n3_ := Aside0.mk (blk_below (g := gb152) (o := .cells #[.int .i64 a0_0, .int .i64 a0_1, .int .i64 a0_2, .int .i64 a0_3, .int .i64 a0_4, .int .i64 a0_5, .slice A0_6 l0_6.length c0_6] 35 (0, 0)) b6_1 hb)
            have n4_ := Aside0.mk (below_step b6_0 hb)
            clear HO155
            clear HO163
            clear HO167
            clear BK152
            clear HB
            have HO155 := n0_
            have HO163 := n1_
            have HO167 := n2_
            have BK152 := n3_
            have HB := n4_
            clear n0_ n1_ n2_ n3_ n4_
            (try clear hb)
            (try clear hb2)
            (try clear hk)
            (try clear hi)
            refine hK.out _ _ ⟨v162, .slice Ao37 y165.length co37, (by rw [ha.out]; exact putSel_upk 12 hb_ rfl rfl rfl), b6_4, b6_1, b6_0, fun _ => (by (with_reducible repeat (first | apply Kd.R_alloc | apply Kd.R_drewN | apply Kd.R_drew)); exact HO163.out), fun _ => (by (with_reducible repeat (first | apply Kd.R_alloc | apply Kd.R_drewN | apply Kd.R_drew)); exact HO167.out)⟩
           refine steps_cons ?_ ?_
           ·rintro b a w' ⟨v162, v166, ha, Q_HO155, Q_BK152, Q_HB, Q_HO163, Q_HO167⟩ hb_ hon hoff
            refine ⟨_, rfl, fun K hK => ?_⟩
            have e38 : a.tmps[38]? = some (.string t168) := by rw [ha]; exact putSel_on (e := (18, 38, .string t168)) 12 rfl rfl (hon 18 (by kernel_rfl)) rfl
            replace ha := Aside0.mk ha
            have HO155 := Aside0.mk Q_HO155
            have BK152 := Aside0.mk Q_BK152
            have HB := Aside0.mk Q_HB
            have HO163 := Aside0.mk (Q_HO163 (hon 5 (by kernel_rfl)))
            have HO167 := Aside0.mk (Q_HO167 (hon 17 (by kernel_rfl)))
            refine value_ (w1 := w') (v := .string t168) (by rfl) rfl ?_ ?_
            ·go_simp
             (try simp only [i64_w])
             try rfl
            refine hK.out _ _ ⟨v162, v166, (by rw [ha.out]; exact putSel_upk 13 hb_ rfl rfl rfl), Q_HO155, Q_BK152, Q_HB, Q_HO163, Q_HO167⟩
           exact steps_nil
          rintro b a w38 hall ⟨v162, v166, ha, Q_HO155, Q_BK152, Q_HB, Q_HO163, Q_HO167⟩
          clear BK152 HB HO155
          have hb2_ := hall 2 (by kernel_rfl)
          have hb4_ := hall 4 (by kernel_rfl)
          have hb5_ := hall 5 (by kernel_rfl)
          have hb6_ := hall 6 (by kernel_rfl)
          have hb7_ := hall 7 (by kernel_rfl)
          have hb9_ := hall 9 (by kernel_rfl)
          have hb11_ := hall 11 (by kernel_rfl)
          have hb12_ := hall 12 (by kernel_rfl)
          have hb13_ := hall 13 (by kernel_rfl)
          have hb14_ := hall 14 (by kernel_rfl)
          have hb16_ := hall 16 (by kernel_rfl)
          have hb17_ := hall 17 (by kernel_rfl)
          have hb18_ := hall 18 (by kernel_rfl)
          have hb19_ := hall 19 (by kernel_rfl)
          subst ha
          simp only [putSel, hb2_, hb4_, hb5_, hb6_, hb7_, hb9_, hb11_, hb12_, hb13_, hb14_, hb16_, hb17_, hb18_, hb19_, if_true, Act.put, List.setIfInBounds_toArray, List.set_cons_zero, List.set_cons_succ]
          have HO155 := Aside0.mk Q_HO155
          clear Q_HO155
          have BK152 := Aside0.mk Q_BK152
          clear Q_BK152
          have HB := Aside0.mk Q_HB
          clear Q_HB
          have HO163 := Aside0.mk (Q_HO163 hb5_)
          clear Q_HO163
          have HO167 := Aside0.mk (Q_HO167 hb17_)
          clear Q_HO167
          clear hall hb2_ hb4_ hb5_ hb6_ hb7_ hb9_ hb11_ hb12_ hb13_ hb14_ hb16_ hb17_ hb18_ hb19_
          try go_wp2
          go_ret
          exact ⟨by first | rfl | (simp [errW_none, errW_some] <;> rfl) | (simp [*, errW_none, errW_some] <;> rfl), by repeat (first | (with_reducible first | exact HB.out | apply below_alloc | apply pw_below_drewN | apply below_drew1 | refine below_set ?_ GE152.out) | exact HB.out)⟩
         ·rw [if_neg c22] at H
          exact absurd H (by simp)
        ·rw [if_neg c21] at H
         exact absurd H (by simp)
       ·rw [if_neg c20] at H
        exact absurd H (by simp)
      ·rw [if_neg c19] at H
       exact absurd H (by simp)
     ·rw [if_neg c18] at H
      exact absurd H (by simp)
    ·rw [if_neg c16] at H
     have c16b0 : (a0_0 == 2) = false := beq_eq_false_iff_ne.mpr c16
     have c16b1 : (a0_0 != 2) = true := bne_iff_ne.mpr c16
     by_cases c39 : a0_0 = 3
     ·rw [if_pos c39] at H
      have c39b0 : (a0_0 == 3) = true := beq_iff_eq.mpr c39
      have c39b1 : (a0_0 != 3) = false := bne_eq_false_iff_eq.mpr c39
      clear c39
      obtain ⟨y169, hy169⟩ : ∃ y_ : List Int, y_ = (([a0_1] : List Int)) := ⟨_, rfl⟩
      replace H : ((spec_l3Line.f k (rdOf ByteArray.empty t153 a0_0) y169).bind fun t172 => ((spec_l3Line.f k t172 l0_6).bind fun t173 => (some t173))) = some r := by first | (rw [hy169]; with_reducible exact H) | (have H2_ := (Option.bind_some _ _).symm.trans H; rw [hy169]; with_reducible exact H2_) | (have H2_ := (Option.bind_some _ _).symm.trans H; with_reducible exact H2_) | with_reducible exact H | (rw [hy169]; exact H) | exact H
      have Ny169 := Aside0.mk hy169
      clear hy169
      replace H := Option.bind_eq_some_iff.mp H
      obtain ⟨t172, A400, H⟩ := H
      replace H : ((spec_l3Line.f k t172 l0_6).bind fun t173 => (some t173)) = some r := H
      have A40 := Aside0.mk A400
      clear A400
      replace H := Option.bind_eq_some_iff.mp H
      obtain ⟨t173, A410, H⟩ := H
      replace H : (some t173) = some r := H
      have A41 := Aside0.mk A410
      clear A410
      obtain rfl := Option.some.inj H
      go_enter Tryd.func11, Tryd.ntmps11
      try go_wp2_with (first | ((with_reducible refine gate_dst (N := 1) rfl ?_); refine box_event ?hg (N := 1) ?hd (cs := #[.int .i64 a0_0, .int .i64 a0_1, .int .i64 a0_2, .int .i64 a0_3, .int .i64 a0_4, .int .i64 a0_5, .slice A0_6 l0_6.length c0_6]) (t := 35) ?hr ?_; (case hd => rfl); (case hg => rfl); (case hr => first | (go_simp; done) | (go_simp; rfl)); intro gb152 hg w42 hbox hb; have n0_ := Aside0.mk (below_step b6_2 hb); have n1_ := Aside0.mk (hbox); have n2_ := Aside0.mk ((by rw [hg]; exact (below_size b6_2) : w.heap.size ≤ gb152)); have n3_ := Aside0.mk ((by rw [hg]; exact (below_size b6_2) : w.heap.size ≤ gb152)); clear HB; have HB := n0_; have BK152 := n1_; have GW152 := n2_; have GE152 := n3_; clear n0_ n1_ n2_ n3_; clear hb hbox hg))
      have n0_ := Aside0.mk (blk_drew BK152.out)
      have n1_ := Aside0.mk (below_drew1 HB.out)
      clear BK152
      clear HB
      have BK152 := n0_
      have HB := n1_
      clear n0_ n1_
      refine start_ (n := 6) (S := fun w' => w'.cell? ⟨gb152, 0, none⟩ = some (.int .i64 a0_0) ∧ w'.cell? ⟨gb152, 1, none⟩ = some (.int .i64 a0_1) ∧ w'.cell? ⟨gb152, 2, none⟩ = some (.int .i64 a0_2) ∧ w'.cell? ⟨gb152, 3, none⟩ = some (.int .i64 a0_3) ∧ w'.cell? ⟨gb152, 4, none⟩ = some (.int .i64 a0_4) ∧ w'.cell? ⟨gb152, 5, none⟩ = some (.int .i64 a0_5) ∧ w'.cell? ⟨gb152, 6, none⟩ = some (.slice A0_6 l0_6.length c0_6)) (ds := []) (bl 6 0) (by kernel_rfl) rfl rfl ⟨(blk_cell BK152.out 0).trans rfl, (blk_cell BK152.out 1).trans rfl, (blk_cell BK152.out 2).trans rfl, (blk_cell BK152.out 3).trans rfl, (blk_cell BK152.out 4).trans rfl, (blk_cell BK152.out 5).trans rfl, (blk_cell BK152.out 6).trans rfl⟩ (fun hHeld => ?_)
      generalize w42.drew = w43 at BK152 HB hHeld ⊢
      refine pk_ 1 (some 5) (bl 6 2) rfl ?_
      refine tk_ 2 (some 6) (bl 6 6) rfl hHeld (fun w' s_ => by obtain ⟨s0, s1, s2, s3, s4, s5, s6⟩ := s_; go_simp; with_reducible rfl) ?_
      refine ok_ 0 (some 4) (bl 6 7) rfl (fun K hK => ?_)
      refine goes_ Tryd.func18 (by kernel_rfl) rfl #[] (by rfl) rfl rfl b6_3 ?_
      with_reducible refine (spec_l3Words.calls  t153 _ A2.out).mono ?_
      rintro e w44 ⟨v154, rfl, ho0, hb⟩
      skip
      refine ⟨_, rfl, ?_⟩
      have n0_ := Aside0.mk (Kd.R_lower ho0 (below_size b6_0))
      have n1_ := Aside0.mk (blk_below (g := gb152) (o := .cells #[.int .i64 a0_0, .int .i64 a0_1, .int .i64 a0_2, .int .i64 a0_3, .int .i64 a0_4, .int .i64 a0_5, .slice A0_6 l0_6.length c0_6] 35 (0, 0)) b6_1 hb)
      have n2_ := Aside0.mk (below_step b6_0 hb)
      clear BK152
      clear HB
      have HO155 := n0_
      have BK152 := n1_
      have HB := n2_
      clear n0_ n1_ n2_
      (try clear hb)
      (try clear hb2)
      (try clear hk)
      (try clear hi)
      (try clear ho0)
      obtain ⟨Ao45, co45, eo45⟩ := Kd.R_slice HO155.out
      (first | subst eo45 | (injection eo45 with f1_ f2_ f3_; have f4_ := f1_.symm; have f5_ := f3_.symm; clear f1_ f2_ f3_; subst f4_; subst f5_))
      have p156 : 0 ≤ (a0_0 : Int) := of_decide_eq_true b6_5
      have q156 : a0_0 < (t153.length : Int) := of_decide_eq_true b6_5
      obtain ⟨ad156, e156, hx156_0⟩ := Kd.at_string (Kd.R_reads' HO155.out).2.2 a0_0 p156 q156
      cases e156
      replace p156 := eq_true p156
      replace q156 := eq_true q156
      refine hK.out _ _ ⟨(blk_cell BK152.out 0).trans rfl, (blk_cell BK152.out 1).trans rfl, (blk_cell BK152.out 2).trans rfl, (blk_cell BK152.out 3).trans rfl, (blk_cell BK152.out 4).trans rfl, (blk_cell BK152.out 5).trans rfl, (blk_cell BK152.out 6).trans rfl⟩ (fun hHeld => ?_)
      clear hK K
      refine norm_ (a' := ?_) ?_ ?_
      rotate_left
      ·show Act.put _ (some 4) _ = _
       simp only [Act.put, List.setIfInBounds_toArray, List.set_cons_zero, List.set_cons_succ, i64_w, i32_w]
       rfl
      refine pk_ 3 (some 7) (bl 6 15) rfl ?_
      refine Tab.lone_ (S' := fun w' => w'.cell? (ad156.add (a0_0).toNat) = some (.string (rdOf ByteArray.empty t153 a0_0))) (i := 4) (N := some 8) (v := ?_) (a' := ?_) (bl 6 31) rfl rfl (by kernel_rfl) (Or.inl ⟨by rfl, ?_⟩) hx156_0 ?_ ?_
      rotate_left
      ·rintro w' s7
       go_simp
       with_reducible rfl
      rotate_left
      ·simp only [Act.put, List.setIfInBounds_toArray, List.set_cons_zero, List.set_cons_succ, i64_w, i32_w]
       rfl
      refine pk_ 5 (some 3) (bl 6 63) rfl ?_
      refine done_ (by kernel_rfl) ?_
      obtain ⟨hcz46_0, hcz46_1, hcz46_2, hcz46_3, hcz46_4, hcz46_5, hcz46_6, hfz46_0, hfz46_1, hfz46_2, hfz46_3, hfz46_4, hfz46_5, hfz46_6⟩ := cells7 BK152.out
      try go_wp2
      have n0_ := Aside0.mk (Kd.R_drew HO155.out)
      have n1_ := Aside0.mk (blk_drew BK152.out)
      have n2_ := Aside0.mk (below_drew1 HB.out)
      clear HO155
      clear BK152
      clear HB
      have HO155 := n0_
      have BK152 := n1_
      have HB := n2_
      clear n0_ n1_ n2_
      refine start_ (n := 9) (S := fun w' => w'.cell? ⟨gb152, 0, none⟩ = some (.int .i64 a0_0) ∧ w'.cell? ⟨gb152, 1, none⟩ = some (.int .i64 a0_1) ∧ w'.cell? ⟨gb152, 2, none⟩ = some (.int .i64 a0_2) ∧ w'.cell? ⟨gb152, 3, none⟩ = some (.int .i64 a0_3) ∧ w'.cell? ⟨gb152, 4, none⟩ = some (.int .i64 a0_4) ∧ w'.cell? ⟨gb152, 5, none⟩ = some (.int .i64 a0_5) ∧ w'.cell? ⟨gb152, 6, none⟩ = some (.slice A0_6 l0_6.length c0_6)) (ds := []) (bl 9 0) (by kernel_rfl) rfl rfl ⟨(blk_cell BK152.out 0).trans rfl, (blk_cell BK152.out 1).trans rfl, (blk_cell BK152.out 2).trans rfl, (blk_cell BK152.out 3).trans rfl, (blk_cell BK152.out 4).trans rfl, (blk_cell BK152.out 5).trans rfl, (blk_cell BK152.out 6).trans rfl⟩ (fun hHeld => ?_); refine with_tabW spec_l3Text.tab8 spec_l3Text.bits8 (fun HT_ HW_ => ?_)
      generalize w44.drew = w47 at HO155 BK152 HB hHeld ⊢
      refine pu_ 0 (some 41) (bl 9 1) HT_.out rfl ?_
      refine pu_ 1 (some 42) (bl 9 3) HT_.out rfl ?_
      refine pu_ 5 (some 46) (bl 9 35) HT_.out rfl ?_
      refine tw_ 2 (some 43) (bl 9 39) HT_.out HW_.out rfl hHeld (fun w' s_ => by obtain ⟨s0, s1, s2, s3, s4, s5, s6⟩ := s_; go_simp; with_reducible rfl) ?_
      refine tw_ 6 (some 47) (bl 9 103) HT_.out HW_.out rfl hHeld (fun w' s_ => by obtain ⟨s0, s1, s2, s3, s4, s5, s6⟩ := s_; go_simp; with_reducible rfl) ?_
      refine on_ 3 (some 44) (bl 9 111) HT_.out rfl (fun K hK => ?_)
      refine Kd.R_lit_step (Kd.int .i64) _ 2 ?hg (N := 44) ?hd (xs := ([a0_1] : List Int)) (inner := [.int .i64 a0_1]) (ok := fun _ => True) (okp := fun _ => True) ?hr ?hp (fun _ hk => hk) trivial (Below.refl _ _) (Nat.le_refl _) (by simp) ?_; (case hd => rfl); (case hg => rfl); (case hr => first | (go_simp; done) | (go_simp; rfl)); (case hp => exact (Reps.one (show Kd.M (Kd.int .i64) _ _ _ a0_1 [.int .i64 a0_1] from rfl) (Reps.none _ _)))
      intro v170 w48 ho49 hb hg_ hnew_
      clear hg_ hnew_
      (first | rw [← Ny169.out] at ho49 | (simp only [Int.reduceToNat] at ho49; rw [← Ny169.out] at ho49))
      have n0_ := Aside0.mk (Kd.R_below b6_4 hb)
      have n1_ := Aside0.mk (Kd.R_lower ho49 (below_size b6_0))
      have n2_ := Aside0.mk (blk_below (g := gb152) (o := .cells #[.int .i64 a0_0, .int .i64 a0_1, .int .i64 a0_2, .int .i64 a0_3, .int .i64 a0_4, .int .i64 a0_5, .slice A0_6 l0_6.length c0_6] 35 (0, 0)) b6_1 hb)
      have n3_ := Aside0.mk (below_step b6_0 hb)
      clear HO155
      clear BK152
      clear HB
      have HO155 := n0_
      have HO171 := n1_
      have BK152 := n2_
      have HB := n3_
      clear n0_ n1_ n2_ n3_
      clear hb ho49
      obtain ⟨Ao50, co50, eo50⟩ := Kd.R_slice HO171.out
      (first | subst eo50 | (injection eo50 with f1_ f2_ f3_; have f4_ := f1_.symm; have f5_ := f3_.symm; clear f1_ f2_ f3_; subst f4_; subst f5_))
      refine hK.out _ _ ⟨(blk_cell BK152.out 0).trans rfl, (blk_cell BK152.out 1).trans rfl, (blk_cell BK152.out 2).trans rfl, (blk_cell BK152.out 3).trans rfl, (blk_cell BK152.out 4).trans rfl, (blk_cell BK152.out 5).trans rfl, (blk_cell BK152.out 6).trans rfl⟩ (fun hHeld => ?_)
      clear hK K
      refine norm_ (a' := ?_) ?_ ?_
      rotate_left
      ·show Act.put _ (some 44) _ = _
       simp only [Act.put, List.setIfInBounds_toArray, List.set_cons_zero, List.set_cons_succ, i64_w, i32_w]
       rfl
      refine on_ 4 (some 45) (bl 9 127) HT_.out rfl (fun K hK => ?_)
      refine goes_ Tryd.func19 (by kernel_rfl) rfl #[.string (rdOf ByteArray.empty t153 a0_0), .slice Ao50 y169.length co50] (by rfl) rfl rfl b6_3 ?_
      with_reducible refine (spec_l3Line.calls k (rdOf ByteArray.empty t153 a0_0) _ _ y169 t172 _ ?side1 ?side2 A40.out).mono ?_
      (case side1 => exact (by repeat (first | exact (Kd.R_reads' HO171.out).2.2 | (with_reducible refine Kd.C_alloc ?_ _) | (with_reducible refine Kd.C_drewN ?_ _) | (with_reducible refine Kd.C_drew ?_))))
      (case side2 => exact (Kd.R_reads' HO171.out).2.1)
      rintro e w51 ⟨rfl, hb⟩
      refine ⟨_, rfl, ?_⟩
      have n0_ := Aside0.mk (Kd.R_below b6_4 hb)
      have n1_ := Aside0.mk (Kd.R_below (by (with_reducible repeat (first | apply Kd.R_alloc | apply Kd.R_drewN | apply Kd.R_drew)); exact HO171.out) hb)
      have n2_ := Aside0.mk (blk_below (g := gb152) (o := .cells #[.int .i64 a0_0, .int .i64 a0_1, .int .i64 a0_2, .int .i64 a0_3, .int .i64 a0_4, .int .i64 a0_5, .slice A0_6 l0_6.length c0_6] 35 (0, 0)) b6_1 hb)
      have n3_ := Aside0.mk (below_step b6_0 hb)
      clear HO155
      clear HO171
      clear BK152
      clear HB
      have HO155 := n0_
      have HO171 := n1_
      have BK152 := n2_
      have HB := n3_
      clear n0_ n1_ n2_ n3_
      (try clear hb)
      (try clear hb2)
      (try clear hk)
      (try clear hi)
      refine hK.out _ _ ⟨(blk_cell BK152.out 0).trans rfl, (blk_cell BK152.out 1).trans rfl, (blk_cell BK152.out 2).trans rfl, (blk_cell BK152.out 3).trans rfl, (blk_cell BK152.out 4).trans rfl, (blk_cell BK152.out 5).trans rfl, (blk_cell BK152.out 6).trans rfl⟩ (fun hHeld => ?_)
      clear hK K
      refine norm_ (a' := ?_) ?_ ?_
      rotate_left
      ·show Act.put _ (some 45) _ = _
       simp only [Act.put, List.setIfInBounds_toArray, List.set_cons_zero, List.set_cons_succ, i64_w, i32_w]
       rfl
      refine on_ 7 (some 48) (bl 9 255) HT_.out rfl (fun K hK => ?_)
      refine goes_ Tryd.func19 (by kernel_rfl) rfl #[.string t172, .slice A0_6 l0_6.length c0_6] (by rfl) rfl rfl b6_3 ?_
      with_reducible refine (spec_l3Line.calls k t172 _ _ l0_6 t173 _ ?side1 ?side2 A41.out).mono ?_
      (case side1 => exact (by repeat (first | exact (Kd.C_below HR0_6.out HB.out) | (with_reducible refine Kd.C_alloc ?_ _) | (with_reducible refine Kd.C_drewN ?_ _) | (with_reducible refine Kd.C_drew ?_))))
      (case side2 => exact HC0_6.out)
      rintro e w52 ⟨rfl, hb⟩
      refine ⟨_, rfl, ?_⟩
      have n0_ := Aside0.mk (Kd.R_below b6_4 hb)
      have n1_ := Aside0.mk (Kd.R_below (by (with_reducible repeat (first | apply Kd.R_alloc | apply Kd.R_drewN | apply Kd.R_drew)); exact HO171.out) hb)
      have n2_ := Aside0.mk (blk_below (g := gb152) (o := .cells #[.int .i64 a0_0, .int .i64 a0_1, .int .i64 a0_2, .int .i64 a0_3, .int .i64 a0_4, .int .i64 a0_5, .slice A0_6 l0_6.length c0_6] 35 (0, 0)) b6_1 hb)
      have n3_ := Aside0.mk (below_step b6_0 hb)
      clear HO155
      clear HO171
      clear BK152
      clear HB
      have HO155 := n0_
      have HO171 := n1_
      have BK152 := n2_
      have HB := n3_
      clear n0_ n1_ n2_ n3_
      (try clear hb)
      (try clear hb2)
      (try clear hk)
      (try clear hi)
      refine hK.out _ _ ⟨(blk_cell BK152.out 0).trans rfl, (blk_cell BK152.out 1).trans rfl, (blk_cell BK152.out 2).trans rfl, (blk_cell BK152.out 3).trans rfl, (blk_cell BK152.out 4).trans rfl, (blk_cell BK152.out 5).trans rfl, (blk_cell BK152.out 6).trans rfl⟩ (fun hHeld => ?_)
      clear hK K
      refine norm_ (a' := ?_) ?_ ?_
      rotate_left
      ·show Act.put _ (some 48) _ = _
       simp only [Act.put, List.setIfInBounds_toArray, List.set_cons_zero, List.set_cons_succ, i64_w, i32_w]
       rfl
      refine pu_ 8 (some 2) (bl 9 511) HT_.out rfl ?_
      refine done_ (done_of HT_.out (by kernel_rfl)) ?_
      try go_wp2
      go_ret
      exact ⟨by first | rfl | (simp [errW_none, errW_some] <;> rfl) | (simp [*, errW_none, errW_some] <;> rfl), by repeat (first | (with_reducible first | exact HB.out | apply below_alloc | apply pw_below_drewN | apply below_drew1 | refine below_set ?_ GE152.out) | exact HB.out)⟩
     ·rw [if_neg c39] at H
      have c39b0 : (a0_0 == 3) = false := beq_eq_false_iff_ne.mpr c39
      have c39b1 : (a0_0 != 3) = true := bne_iff_ne.mpr c39
      by_cases c53 : a0_0 = 4
      ·rw [if_pos c53] at H
       have c53b0 : (a0_0 == 4) = true := beq_iff_eq.mpr c53
       have c53b1 : (a0_0 != 4) = false := bne_eq_false_iff_eq.mpr c53
       clear c53
       obtain ⟨y174, hy174⟩ : ∃ y_ : List Int, y_ = (([a0_1, a0_2] : List Int)) := ⟨_, rfl⟩
       replace H : ((spec_l3Line.f k (rdOf ByteArray.empty t153 a0_0) y174).bind fun t177 => (some t177)) = some r := by first | (rw [hy174]; with_reducible exact H) | (have H2_ := (Option.bind_some _ _).symm.trans H; rw [hy174]; with_reducible exact H2_) | (have H2_ := (Option.bind_some _ _).symm.trans H; with_reducible exact H2_) | with_reducible exact H | (rw [hy174]; exact H) | exact H
       have Ny174 := Aside0.mk hy174
       clear hy174
       replace H := Option.bind_eq_some_iff.mp H
       obtain ⟨t177, A540, H⟩ := H
       replace H : (some t177) = some r := H
       have A54 := Aside0.mk A540
       clear A540
       obtain rfl := Option.some.inj H
       go_enter Tryd.func11, Tryd.ntmps11
       try go_wp2_with (first | ((with_reducible refine gate_dst (N := 1) rfl ?_); refine box_event ?hg (N := 1) ?hd (cs := #[.int .i64 a0_0, .int .i64 a0_1, .int .i64 a0_2, .int .i64 a0_3, .int .i64 a0_4, .int .i64 a0_5, .slice A0_6 l0_6.length c0_6]) (t := 35) ?hr ?_; (case hd => rfl); (case hg => rfl); (case hr => first | (go_simp; done) | (go_simp; rfl)); intro gb152 hg w55 hbox hb; have n0_ := Aside0.mk (below_step b6_2 hb); have n1_ := Aside0.mk (hbox); have n2_ := Aside0.mk ((by rw [hg]; exact (below_size b6_2) : w.heap.size ≤ gb152)); have n3_ := Aside0.mk ((by rw [hg]; exact (below_size b6_2) : w.heap.size ≤ gb152)); clear HB; have HB := n0_; have BK152 := n1_; have GW152 := n2_; have GE152 := n3_; clear n0_ n1_ n2_ n3_; clear hb hbox hg))
       have n0_ := Aside0.mk (blk_drew BK152.out)
       have n1_ := Aside0.mk (below_drew1 HB.out)
       clear BK152
       clear HB
       have BK152 := n0_
       have HB := n1_
       clear n0_ n1_
       refine start_ (n := 6) (S := fun w' => w'.cell? ⟨gb152, 0, none⟩ = some (.int .i64 a0_0) ∧ w'.cell? ⟨gb152, 1, none⟩ = some (.int .i64 a0_1) ∧ w'.cell? ⟨gb152, 2, none⟩ = some (.int .i64 a0_2) ∧ w'.cell? ⟨gb152, 3, none⟩ = some (.int .i64 a0_3) ∧ w'.cell? ⟨gb152, 4, none⟩ = some (.int .i64 a0_4) ∧ w'.cell? ⟨gb152, 5, none⟩ = some (.int .i64 a0_5) ∧ w'.cell? ⟨gb152, 6, none⟩ = some (.slice A0_6 l0_6.length c0_6)) (ds := []) (bl 6 0) (by kernel_rfl) rfl rfl ⟨(blk_cell BK152.out 0).trans rfl, (blk_cell BK152.out 1).trans rfl, (blk_cell BK152.out 2).trans rfl, (blk_cell BK152.out 3).trans rfl, (blk_cell BK152.out 4).trans rfl, (blk_cell BK152.out 5).trans rfl, (blk_cell BK152.out 6).trans rfl⟩ (fun hHeld => ?_)
       generalize w55.drew = w56 at BK152 HB hHeld ⊢
       refine pk_ 1 (some 5) (bl 6 2) rfl ?_
       refine tk_ 2 (some 6) (bl 6 6) rfl hHeld (fun w' s_ => by obtain ⟨s0, s1, s2, s3, s4, s5, s6⟩ := s_; go_simp; with_reducible rfl) ?_
       refine ok_ 0 (some 4) (bl 6 7) rfl (fun K hK => ?_)
       refine goes_ Tryd.func18 (by kernel_rfl) rfl #[] (by rfl) rfl rfl b6_3 ?_
       with_reducible refine (spec_l3Words.calls  t153 _ A2.out).mono ?_
       rintro e w57 ⟨v154, rfl, ho0, hb⟩
       skip
       refine ⟨_, rfl, ?_⟩
       have n0_ := Aside0.mk (Kd.R_lower ho0 (below_size b6_0))
       have n1_ := Aside0.mk (blk_below (g := gb152) (o := .cells #[.int .i64 a0_0, .int .i64 a0_1, .int .i64 a0_2, .int .i64 a0_3, .int .i64 a0_4, .int .i64 a0_5, .slice A0_6 l0_6.length c0_6] 35 (0, 0)) b6_1 hb)
       have n2_ := Aside0.mk (below_step b6_0 hb)
       clear BK152
       clear HB
       have HO155 := n0_
       have BK152 := n1_
       have HB := n2_
       clear n0_ n1_ n2_
       (try clear hb)
       (try clear hb2)
       (try clear hk)
       (try clear hi)
       (try clear ho0)
       obtain ⟨Ao58, co58, eo58⟩ := Kd.R_slice HO155.out
       (first | subst eo58 | (injection eo58 with f1_ f2_ f3_; have f4_ := f1_.symm; have f5_ := f3_.symm; clear f1_ f2_ f3_; subst f4_; subst f5_))
       have p156 : 0 ≤ (a0_0 : Int) := of_decide_eq_true b6_5
       have q156 : a0_0 < (t153.length : Int) := of_decide_eq_true b6_5
       obtain ⟨ad156, e156, hx156_0⟩ := Kd.at_string (Kd.R_reads' HO155.out).2.2 a0_0 p156 q156
       cases e156
       replace p156 := eq_true p156
       replace q156 := eq_true q156
       refine hK.out _ _ ⟨(blk_cell BK152.out 0).trans rfl, (blk_cell BK152.out 1).trans rfl, (blk_cell BK152.out 2).trans rfl, (blk_cell BK152.out 3).trans rfl, (blk_cell BK152.out 4).trans rfl, (blk_cell BK152.out 5).trans rfl, (blk_cell BK152.out 6).trans rfl⟩ (fun hHeld => ?_)
       clear hK K
       refine norm_ (a' := ?_) ?_ ?_
       rotate_left
       ·show Act.put _ (some 4) _ = _
        simp only [Act.put, List.setIfInBounds_toArray, List.set_cons_zero, List.set_cons_succ, i64_w, i32_w]
        rfl
       refine pk_ 3 (some 7) (bl 6 15) rfl ?_
       refine Tab.lone_ (S' := fun w' => w'.cell? (ad156.add (a0_0).toNat) = some (.string (rdOf ByteArray.empty t153 a0_0))) (i := 4) (N := some 8) (v := ?_) (a' := ?_) (bl 6 31) rfl rfl (by kernel_rfl) (Or.inl ⟨by rfl, ?_⟩) hx156_0 ?_ ?_
       rotate_left
       ·rintro w' s7
        go_simp
        with_reducible rfl
       rotate_left
       ·simp only [Act.put, List.setIfInBounds_toArray, List.set_cons_zero, List.set_cons_succ, i64_w, i32_w]
        rfl
       refine pk_ 5 (some 3) (bl 6 63) rfl ?_
       refine done_ (by kernel_rfl) ?_
       obtain ⟨hcz59_0, hcz59_1, hcz59_2, hcz59_3, hcz59_4, hcz59_5, hcz59_6, hfz59_0, hfz59_1, hfz59_2, hfz59_3, hfz59_4, hfz59_5, hfz59_6⟩ := cells7 BK152.out
       try go_wp2_with (first | ((with_reducible refine gate_dst (N := 56) rfl ?_); refine Kd.R_lit (Kd.int .i64) _ 2 ?hg (N := 56) ?hd (xs := ([a0_1, a0_2] : List Int)) (inner := [.int .i64 a0_1, .int .i64 a0_2]) (ok := fun _ => True) (okp := fun _ => True) ?hr ?hp (fun _ hk => hk) trivial (Below.refl _ _) (Nat.le_refl _) (by simp) ?_; (case hd => rfl); (case hg => rfl); (case hr => first | (go_simp; done) | (go_simp; rfl)); (case hp => exact (Reps.one (show Kd.M (Kd.int .i64) _ _ _ a0_1 [.int .i64 a0_1] from rfl) (Reps.one (show Kd.M (Kd.int .i64) _ _ _ a0_2 [.int .i64 a0_2] from rfl) (Reps.none _ _)))); intro v175 w60 ho61 hb hg_ hnew_; clear hg_ hnew_; (first | rw [← Ny174.out] at ho61 | (simp only [Int.reduceToNat] at ho61; rw [← Ny174.out] at ho61)); have n0_ := Aside0.mk (Kd.R_below b6_4 hb); have n1_ := Aside0.mk (Kd.R_lower ho61 (below_size b6_0)); have n2_ := Aside0.mk (blk_below (g := gb152) (o := .cells #[.int .i64 a0_0, .int .i64 a0_1, .int .i64 a0_2, .int .i64 a0_3, .int .i64 a0_4, .int .i64 a0_5, .slice A0_6 l0_6.length c0_6] 35 (0, 0)) b6_1 hb); have n3_ := Aside0.mk (below_step b6_0 hb); clear HO155; clear BK152; clear HB; have HO155 := n0_; have HO176 := n1_; have BK152 := n2_; have HB := n3_; clear n0_ n1_ n2_ n3_; clear hb ho61; obtain ⟨Ao62, co62, eo62⟩ := Kd.R_slice HO176.out; subst eo62) | ((with_reducible refine gate_callee (f := 19) rfl ?_); refine goesL_ (some 57) rfl rfl Tryd.func19 (by kernel_rfl) rfl #[.string (rdOf ByteArray.empty t153 a0_0), .slice Ao62 y174.length co62] rfl b6_3 ?_; (with_reducible refine (spec_l3Line.calls k (rdOf ByteArray.empty t153 a0_0) _ _ y174 t177 _ ?side1 ?side2 A54.out).mono ?_); (case side1 => exact (by repeat (first | exact (Kd.R_reads' HO176.out).2.2 | (with_reducible refine Kd.C_alloc ?_ _) | (with_reducible refine Kd.C_drewN ?_ _) | (with_reducible refine Kd.C_drew ?_)))); (case side2 => exact (Kd.R_reads' HO176.out).2.1); rintro e w63 ⟨rfl, hb⟩; refine ⟨_, rfl, ?_⟩; have n0_ := Aside0.mk (Kd.R_below b6_4 hb); have n1_ := Aside0.mk (Kd.R_below (by (with_reducible repeat (first | apply Kd.R_alloc | apply Kd.R_drewN | apply Kd.R_drew)); exact HO176.out) hb); have n2_ := Aside0.mk (blk_below (g := gb152) (o := .cells #[.int .i64 a0_0, .int .i64 a0_1, .int .i64 a0_2, .int .i64 a0_3, .int .i64 a0_4, .int .i64 a0_5, .slice A0_6 l0_6.length c0_6] 35 (0, 0)) b6_1 hb); have n3_ := Aside0.mk (below_step b6_0 hb); clear HO155; clear HO176; clear BK152; clear HB; have HO155 := n0_; have HO176 := n1_; have BK152 := n2_; have HB := n3_; clear n0_ n1_ n2_ n3_; (try clear hb); (try clear hb2); (try clear hk); (try clear hi)))
       go_ret
       exact ⟨by first | rfl | (simp [errW_none, errW_some] <;> rfl) | (simp [*, errW_none, errW_some] <;> rfl), by repeat (first | (with_reducible first | exact HB.out | apply below_alloc | apply pw_below_drewN | apply below_drew1 | refine below_set ?_ GE152.out) | exact HB.out)⟩
      ·rw [if_neg c53] at H
       have c53b0 : (a0_0 == 4) = false := beq_eq_false_iff_ne.mpr c53
       have c53b1 : (a0_0 != 4) = true := bne_iff_ne.mpr c53
       by_cases c64 : a0_0 = 6
       ·rw [if_pos c64] at H
        have c64b0 : (a0_0 == 6) = true := beq_iff_eq.mpr c64
        have c64b1 : (a0_0 != 6) = false := bne_eq_false_iff_eq.mpr c64
        clear c64
        obtain ⟨y178, hy178⟩ : ∃ y_ : List Int, y_ = (([a0_1, a0_2, a0_3] : List Int)) := ⟨_, rfl⟩
        replace H : ((spec_l3Line.f k (rdOf ByteArray.empty t153 a0_0) y178).bind fun t181 => (some t181)) = some r := by first | (rw [hy178]; with_reducible exact H) | (have H2_ := (Option.bind_some _ _).symm.trans H; rw [hy178]; with_reducible exact H2_) | (have H2_ := (Option.bind_some _ _).symm.trans H; with_reducible exact H2_) | with_reducible exact H | (rw [hy178]; exact H) | exact H
        have Ny178 := Aside0.mk hy178
        clear hy178
        replace H := Option.bind_eq_some_iff.mp H
        obtain ⟨t181, A650, H⟩ := H
        replace H : (some t181) = some r := H
        have A65 := Aside0.mk A650
        clear A650
        obtain rfl := Option.some.inj H
        go_enter Tryd.func11, Tryd.ntmps11
        try go_wp2_with (first | ((with_reducible refine gate_dst (N := 1) rfl ?_); refine box_event ?hg (N := 1) ?hd (cs := #[.int .i64 a0_0, .int .i64 a0_1, .int .i64 a0_2, .int .i64 a0_3, .int .i64 a0_4, .int .i64 a0_5, .slice A0_6 l0_6.length c0_6]) (t := 35) ?hr ?_; (case hd => rfl); (case hg => rfl); (case hr => first | (go_simp; done) | (go_simp; rfl)); intro gb152 hg w66 hbox hb; have n0_ := Aside0.mk (below_step b6_2 hb); have n1_ := Aside0.mk (hbox); have n2_ := Aside0.mk ((by rw [hg]; exact (below_size b6_2) : w.heap.size ≤ gb152)); have n3_ := Aside0.mk ((by rw [hg]; exact (below_size b6_2) : w.heap.size ≤ gb152)); clear HB; have HB := n0_; have BK152 := n1_; have GW152 := n2_; have GE152 := n3_; clear n0_ n1_ n2_ n3_; clear hb hbox hg))
        have n0_ := Aside0.mk (blk_drew BK152.out)
        have n1_ := Aside0.mk (below_drew1 HB.out)
        clear BK152
        clear HB
        have BK152 := n0_
        have HB := n1_
        clear n0_ n1_
        refine start_ (n := 6) (S := fun w' => w'.cell? ⟨gb152, 0, none⟩ = some (.int .i64 a0_0) ∧ w'.cell? ⟨gb152, 1, none⟩ = some (.int .i64 a0_1) ∧ w'.cell? ⟨gb152, 2, none⟩ = some (.int .i64 a0_2) ∧ w'.cell? ⟨gb152, 3, none⟩ = some (.int .i64 a0_3) ∧ w'.cell? ⟨gb152, 4, none⟩ = some (.int .i64 a0_4) ∧ w'.cell? ⟨gb152, 5, none⟩ = some (.int .i64 a0_5) ∧ w'.cell? ⟨gb152, 6, none⟩ = some (.slice A0_6 l0_6.length c0_6)) (ds := []) (bl 6 0) (by kernel_rfl) rfl rfl ⟨(blk_cell BK152.out 0).trans rfl, (blk_cell BK152.out 1).trans rfl, (blk_cell BK152.out 2).trans rfl, (blk_cell BK152.out 3).trans rfl, (blk_cell BK152.out 4).trans rfl, (blk_cell BK152.out 5).trans rfl, (blk_cell BK152.out 6).trans rfl⟩ (fun hHeld => ?_)
        generalize w66.drew = w67 at BK152 HB hHeld ⊢
        refine pk_ 1 (some 5) (bl 6 2) rfl ?_
        refine tk_ 2 (some 6) (bl 6 6) rfl hHeld (fun w' s_ => by obtain ⟨s0, s1, s2, s3, s4, s5, s6⟩ := s_; go_simp; with_reducible rfl) ?_
        refine ok_ 0 (some 4) (bl 6 7) rfl (fun K hK => ?_)
        refine goes_ Tryd.func18 (by kernel_rfl) rfl #[] (by rfl) rfl rfl b6_3 ?_
        with_reducible refine (spec_l3Words.calls  t153 _ A2.out).mono ?_
        rintro e w68 ⟨v154, rfl, ho0, hb⟩
        skip
        refine ⟨_, rfl, ?_⟩
        have n0_ := Aside0.mk (Kd.R_lower ho0 (below_size b6_0))
        have n1_ := Aside0.mk (blk_below (g := gb152) (o := .cells #[.int .i64 a0_0, .int .i64 a0_1, .int .i64 a0_2, .int .i64 a0_3, .int .i64 a0_4, .int .i64 a0_5, .slice A0_6 l0_6.length c0_6] 35 (0, 0)) b6_1 hb)
        have n2_ := Aside0.mk (below_step b6_0 hb)
        clear BK152
        clear HB
        have HO155 := n0_
        have BK152 := n1_
        have HB := n2_
        clear n0_ n1_ n2_
        (try clear hb)
        (try clear hb2)
        (try clear hk)
        (try clear hi)
        (try clear ho0)
        obtain ⟨Ao69, co69, eo69⟩ := Kd.R_slice HO155.out
        (first | subst eo69 | (injection eo69 with f1_ f2_ f3_; have f4_ := f1_.symm; have f5_ := f3_.symm; clear f1_ f2_ f3_; subst f4_; subst f5_))
        have p156 : 0 ≤ (a0_0 : Int) := of_decide_eq_true b6_5
        have q156 : a0_0 < (t153.length : Int) := of_decide_eq_true b6_5
        obtain ⟨ad156, e156, hx156_0⟩ := Kd.at_string (Kd.R_reads' HO155.out).2.2 a0_0 p156 q156
        cases e156
        replace p156 := eq_true p156
        replace q156 := eq_true q156
        refine hK.out _ _ ⟨(blk_cell BK152.out 0).trans rfl, (blk_cell BK152.out 1).trans rfl, (blk_cell BK152.out 2).trans rfl, (blk_cell BK152.out 3).trans rfl, (blk_cell BK152.out 4).trans rfl, (blk_cell BK152.out 5).trans rfl, (blk_cell BK152.out 6).trans rfl⟩ (fun hHeld => ?_)
        clear hK K
        refine norm_ (a' := ?_) ?_ ?_
        rotate_left
        ·show Act.put _ (some 4) _ = _
         simp only [Act.put, List.setIfInBounds_toArray, List.set_cons_zero, List.set_cons_succ, i64_w, i32_w]
         rfl
        refine pk_ 3 (some 7) (bl 6 15) rfl ?_
        refine Tab.lone_ (S' := fun w' => w'.cell? (ad156.add (a0_0).toNat) = some (.string (rdOf ByteArray.empty t153 a0_0))) (i := 4) (N := some 8) (v := ?_) (a' := ?_) (bl 6 31) rfl rfl (by kernel_rfl) (Or.inl ⟨by rfl, ?_⟩) hx156_0 ?_ ?_
        rotate_left
        ·rintro w' s7
         go_simp
         with_reducible rfl
        rotate_left
        ·simp only [Act.put, List.setIfInBounds_toArray, List.set_cons_zero, List.set_cons_succ, i64_w, i32_w]
         rfl
        refine pk_ 5 (some 3) (bl 6 63) rfl ?_
        refine done_ (by kernel_rfl) ?_
        obtain ⟨hcz70_0, hcz70_1, hcz70_2, hcz70_3, hcz70_4, hcz70_5, hcz70_6, hfz70_0, hfz70_1, hfz70_2, hfz70_3, hfz70_4, hfz70_5, hfz70_6⟩ := cells7 BK152.out
        try go_wp2_with (first | ((with_reducible refine gate_dst (N := 67) rfl ?_); refine Kd.R_lit (Kd.int .i64) _ 2 ?hg (N := 67) ?hd (xs := ([a0_1, a0_2, a0_3] : List Int)) (inner := [.int .i64 a0_1, .int .i64 a0_2, .int .i64 a0_3]) (ok := fun _ => True) (okp := fun _ => True) ?hr ?hp (fun _ hk => hk) trivial (Below.refl _ _) (Nat.le_refl _) (by simp) ?_; (case hd => rfl); (case hg => rfl); (case hr => first | (go_simp; done) | (go_simp; rfl)); (case hp => exact (Reps.one (show Kd.M (Kd.int .i64) _ _ _ a0_1 [.int .i64 a0_1] from rfl) (Reps.one (show Kd.M (Kd.int .i64) _ _ _ a0_2 [.int .i64 a0_2] from rfl) (Reps.one (show Kd.M (Kd.int .i64) _ _ _ a0_3 [.int .i64 a0_3] from rfl) (Reps.none _ _))))); intro v179 w71 ho72 hb hg_ hnew_; clear hg_ hnew_; (first | rw [← Ny178.out] at ho72 | (simp only [Int.reduceToNat] at ho72; rw [← Ny178.out] at ho72)); have n0_ := Aside0.mk (Kd.R_below b6_4 hb); have n1_ := Aside0.mk (Kd.R_lower ho72 (below_size b6_0)); have n2_ := Aside0.mk (blk_below (g := gb152) (o := .cells #[.int .i64 a0_0, .int .i64 a0_1, .int .i64 a0_2, .int .i64 a0_3, .int .i64 a0_4, .int .i64 a0_5, .slice A0_6 l0_6.length c0_6] 35 (0, 0)) b6_1 hb); have n3_ := Aside0.mk (below_step b6_0 hb); clear HO155; clear BK152; clear HB; have HO155 := n0_; have HO180 := n1_; have BK152 := n2_; have HB := n3_; clear n0_ n1_ n2_ n3_; clear hb ho72; obtain ⟨Ao73, co73, eo73⟩ := Kd.R_slice HO180.out; subst eo73) | ((with_reducible refine gate_callee (f := 19) rfl ?_); refine goesL_ (some 68) rfl rfl Tryd.func19 (by kernel_rfl) rfl #[.string (rdOf ByteArray.empty t153 a0_0), .slice Ao73 y178.length co73] rfl b6_3 ?_; (with_reducible refine (spec_l3Line.calls k (rdOf ByteArray.empty t153 a0_0) _ _ y178 t181 _ ?side1 ?side2 A65.out).mono ?_); (case side1 => exact (by repeat (first | exact (Kd.R_reads' HO180.out).2.2 | (with_reducible refine Kd.C_alloc ?_ _) | (with_reducible refine Kd.C_drewN ?_ _) | (with_reducible refine Kd.C_drew ?_)))); (case side2 => exact (Kd.R_reads' HO180.out).2.1); rintro e w74 ⟨rfl, hb⟩; refine ⟨_, rfl, ?_⟩; have n0_ := Aside0.mk (Kd.R_below b6_4 hb); have n1_ := Aside0.mk (Kd.R_below (by (with_reducible repeat (first | apply Kd.R_alloc | apply Kd.R_drewN | apply Kd.R_drew)); exact HO180.out) hb); have n2_ := Aside0.mk (blk_below (g := gb152) (o := .cells #[.int .i64 a0_0, .int .i64 a0_1, .int .i64 a0_2, .int .i64 a0_3, .int .i64 a0_4, .int .i64 a0_5, .slice A0_6 l0_6.length c0_6] 35 (0, 0)) b6_1 hb); have n3_ := Aside0.mk (below_step b6_0 hb); clear HO155; clear HO180; clear BK152; clear HB; have HO155 := n0_; have HO180 := n1_; have BK152 := n2_; have HB := n3_; clear n0_ n1_ n2_ n3_; (try clear hb); (try clear hb2); (try clear hk); (try clear hi)))
        go_ret
        exact ⟨by first | rfl | (simp [errW_none, errW_some] <;> rfl) | (simp [*, errW_none, errW_some] <;> rfl), by repeat (first | (with_reducible first | exact HB.out | apply below_alloc | apply pw_below_drewN | apply below_drew1 | refine below_set ?_ GE152.out) | exact HB.out)⟩
       ·rw [if_neg c64] at H
        have c64b0 : (a0_0 == 6) = false := beq_eq_false_iff_ne.mpr c64
        have c64b1 : (a0_0 != 6) = true := bne_iff_ne.mpr c64
        have HC75 := Aside0.mk H
        clear H
        go_enter Tryd.func11, Tryd.ntmps11
        try go_wp2_with (first | ((with_reducible refine gate_dst (N := 1) rfl ?_); refine box_event ?hg (N := 1) ?hd (cs := #[.int .i64 a0_0, .int .i64 a0_1, .int .i64 a0_2, .int .i64 a0_3, .int .i64 a0_4, .int .i64 a0_5, .slice A0_6 l0_6.length c0_6]) (t := 35) ?hr ?_; (case hd => rfl); (case hg => rfl); (case hr => first | (go_simp; done) | (go_simp; rfl)); intro gb152 hg w76 hbox hb; have n0_ := Aside0.mk (below_step b6_2 hb); have n1_ := Aside0.mk (hbox); have n2_ := Aside0.mk ((by rw [hg]; exact (below_size b6_2) : w.heap.size ≤ gb152)); have n3_ := Aside0.mk ((by rw [hg]; exact (below_size b6_2) : w.heap.size ≤ gb152)); clear HB; have HB := n0_; have BK152 := n1_; have GW152 := n2_; have GE152 := n3_; clear n0_ n1_ n2_ n3_; clear hb hbox hg))
        have n0_ := Aside0.mk (blk_drew BK152.out)
        have n1_ := Aside0.mk (below_drew1 HB.out)
        clear BK152
        clear HB
        have BK152 := n0_
        have HB := n1_
        clear n0_ n1_
        refine start_ (n := 6) (S := fun w' => w'.cell? ⟨gb152, 0, none⟩ = some (.int .i64 a0_0) ∧ w'.cell? ⟨gb152, 1, none⟩ = some (.int .i64 a0_1) ∧ w'.cell? ⟨gb152, 2, none⟩ = some (.int .i64 a0_2) ∧ w'.cell? ⟨gb152, 3, none⟩ = some (.int .i64 a0_3) ∧ w'.cell? ⟨gb152, 4, none⟩ = some (.int .i64 a0_4) ∧ w'.cell? ⟨gb152, 5, none⟩ = some (.int .i64 a0_5) ∧ w'.cell? ⟨gb152, 6, none⟩ = some (.slice A0_6 l0_6.length c0_6)) (ds := []) (bl 6 0) (by kernel_rfl) rfl rfl ⟨(blk_cell BK152.out 0).trans rfl, (blk_cell BK152.out 1).trans rfl, (blk_cell BK152.out 2).trans rfl, (blk_cell BK152.out 3).trans rfl, (blk_cell BK152.out 4).trans rfl, (blk_cell BK152.out 5).trans rfl, (blk_cell BK152.out 6).trans rfl⟩ (fun hHeld => ?_)
        generalize w76.drew = w77 at BK152 HB hHeld ⊢
        refine pk_ 1 (some 5) (bl 6 2) rfl ?_
        refine tk_ 2 (some 6) (bl 6 6) rfl hHeld (fun w' s_ => by obtain ⟨s0, s1, s2, s3, s4, s5, s6⟩ := s_; go_simp; with_reducible rfl) ?_
        refine ok_ 0 (some 4) (bl 6 7) rfl (fun K hK => ?_)
        refine goes_ Tryd.func18 (by kernel_rfl) rfl #[] (by rfl) rfl rfl b6_3 ?_
        with_reducible refine (spec_l3Words.calls  t153 _ A2.out).mono ?_
        rintro e w78 ⟨v154, rfl, ho0, hb⟩
        skip
        refine ⟨_, rfl, ?_⟩
        have n0_ := Aside0.mk (Kd.R_lower ho0 (below_size b6_0))
        have n1_ := Aside0.mk (blk_below (g := gb152) (o := .cells #[.int .i64 a0_0, .int .i64 a0_1, .int .i64 a0_2, .int .i64 a0_3, .int .i64 a0_4, .int .i64 a0_5, .slice A0_6 l0_6.length c0_6] 35 (0, 0)) b6_1 hb)
        have n2_ := Aside0.mk (below_step b6_0 hb)
        clear BK152
        clear HB
        have HO155 := n0_
        have BK152 := n1_
        have HB := n2_
        clear n0_ n1_ n2_
        (try clear hb)
        (try clear hb2)
        (try clear hk)
        (try clear hi)
        (try clear ho0)
        obtain ⟨Ao79, co79, eo79⟩ := Kd.R_slice HO155.out
        (first | subst eo79 | (injection eo79 with f1_ f2_ f3_; have f4_ := f1_.symm; have f5_ := f3_.symm; clear f1_ f2_ f3_; subst f4_; subst f5_))
        have p156 : 0 ≤ (a0_0 : Int) := of_decide_eq_true b6_5
        have q156 : a0_0 < (t153.length : Int) := of_decide_eq_true b6_5
        obtain ⟨ad156, e156, hx156_0⟩ := Kd.at_string (Kd.R_reads' HO155.out).2.2 a0_0 p156 q156
        cases e156
        replace p156 := eq_true p156
        replace q156 := eq_true q156
        refine hK.out _ _ ⟨(blk_cell BK152.out 0).trans rfl, (blk_cell BK152.out 1).trans rfl, (blk_cell BK152.out 2).trans rfl, (blk_cell BK152.out 3).trans rfl, (blk_cell BK152.out 4).trans rfl, (blk_cell BK152.out 5).trans rfl, (blk_cell BK152.out 6).trans rfl⟩ (fun hHeld => ?_)
        clear hK K
        refine norm_ (a' := ?_) ?_ ?_
        rotate_left
        ·show Act.put _ (some 4) _ = _
         simp only [Act.put, List.setIfInBounds_toArray, List.set_cons_zero, List.set_cons_succ, i64_w, i32_w]
         rfl
        refine pk_ 3 (some 7) (bl 6 15) rfl ?_
        refine Tab.lone_ (S' := fun w' => w'.cell? (ad156.add (a0_0).toNat) = some (.string (rdOf ByteArray.empty t153 a0_0))) (i := 4) (N := some 8) (v := ?_) (a' := ?_) (bl 6 31) rfl rfl (by kernel_rfl) (Or.inl ⟨by rfl, ?_⟩) hx156_0 ?_ ?_
        rotate_left
        ·rintro w' s7
         go_simp
         with_reducible rfl
        rotate_left
        ·simp only [Act.put, List.setIfInBounds_toArray, List.set_cons_zero, List.set_cons_succ, i64_w, i32_w]
         rfl
        refine pk_ 5 (some 3) (bl 6 63) rfl ?_
        refine done_ (by kernel_rfl) ?_
        obtain ⟨hcz80_0, hcz80_1, hcz80_2, hcz80_3, hcz80_4, hcz80_5, hcz80_6, hfz80_0, hfz80_1, hfz80_2, hfz80_3, hfz80_4, hfz80_5, hfz80_6⟩ := cells7 BK152.out
        go_upto_if 69 with (fail)
        go_cut [69] (fun v69 wc => ∃ (kq : Nat) (x69_74 : Bool), v69 = .bool x69_74 ∧ Aside0 (spec_l3Text.j0 kq (rdOf ByteArray.empty t153 a0_0) x69_74 a0_0 a0_1 a0_2 a0_3 a0_4 a0_5 l0_6 = some r) ∧ Aside0 (kq ≤ k) ∧ Aside0 (wc.heap[gb152]? = some (.cells #[.int .i64 a0_0, .int .i64 a0_1, .int .i64 a0_2, .int .i64 a0_3, .int .i64 a0_4, .int .i64 a0_5, (.slice A0_6 l0_6.length c0_6)] 35 (0, 0))) ∧ Aside0 (Below w.heap.size w wc))
        case first =>
         have H := HC75.out
         clear HC75
         by_cases c81 : a0_0 = 7
         ·rw [if_pos c81] at H
          have c81b0 : (a0_0 == 7) = true := beq_iff_eq.mpr c81
          have c81b1 : (a0_0 != 7) = false := bne_eq_false_iff_eq.mpr c81
          clear c81
          (first | rw [c81b0] | (simp only [i64_w, i32_w]; rw [c81b0]) | skip)
          have H' := Aside0.mk H
          clear H
          go_wp2
          go_meet
          case rel => exact ⟨_, ((a0_0 == 7)), (by first | rfl | (simp; done) | (simp [*]; done)), H', ⟨by first | omega | exact Nat.le_refl _⟩, ⟨by (with_reducible repeat (first | refine blk_drewN ?_ _ | refine blk_drew ?_ | refine blk_alloc ?_ _)); exact BK152.out⟩, ⟨by repeat (first | (with_reducible first | exact HB.out | apply below_alloc | apply pw_below_drewN | apply below_drew1 | refine below_set ?_ GE152.out) | exact HB.out)⟩⟩
         ·rw [if_neg c81] at H
          have c81b0 : (a0_0 == 7) = false := beq_eq_false_iff_ne.mpr c81
          have c81b1 : (a0_0 != 7) = true := bne_iff_ne.mpr c81
          (first | rw [c81b0] | (simp only [i64_w, i32_w]; rw [c81b0]) | skip)
          by_cases c82 : a0_0 = 8
          ·rw [if_pos c82] at H
           have c82b0 : (a0_0 == 8) = true := beq_iff_eq.mpr c82
           have c82b1 : (a0_0 != 8) = false := bne_eq_false_iff_eq.mpr c82
           clear c82
           have H' := Aside0.mk H
           clear H
           go_wp2
           go_meet
           case rel => exact ⟨_, ((a0_0 == 8)), (by first | rfl | (simp; done) | (simp [*]; done)), H', ⟨by first | omega | exact Nat.le_refl _⟩, ⟨by (with_reducible repeat (first | refine blk_drewN ?_ _ | refine blk_drew ?_ | refine blk_alloc ?_ _)); exact BK152.out⟩, ⟨by repeat (first | (with_reducible first | exact HB.out | apply below_alloc | apply pw_below_drewN | apply below_drew1 | refine below_set ?_ GE152.out) | exact HB.out)⟩⟩
          ·rw [if_neg c82] at H
           have c82b0 : (a0_0 == 8) = false := beq_eq_false_iff_ne.mpr c82
           have c82b1 : (a0_0 != 8) = true := bne_iff_ne.mpr c82
           by_cases c83 : a0_0 = 9
           ·rw [if_pos c83] at H
            have c83b0 : (a0_0 == 9) = true := beq_iff_eq.mpr c83
            have c83b1 : (a0_0 != 9) = false := bne_eq_false_iff_eq.mpr c83
            clear c83
            have H' := Aside0.mk H
            clear H
            go_wp2
            go_meet
            case rel => exact ⟨_, ((a0_0 == 9)), (by first | rfl | (simp; done) | (simp [*]; done)), H', ⟨by first | omega | exact Nat.le_refl _⟩, ⟨by (with_reducible repeat (first | refine blk_drewN ?_ _ | refine blk_drew ?_ | refine blk_alloc ?_ _)); exact BK152.out⟩, ⟨by repeat (first | (with_reducible first | exact HB.out | apply below_alloc | apply pw_below_drewN | apply below_drew1 | refine below_set ?_ GE152.out) | exact HB.out)⟩⟩
           ·rw [if_neg c83] at H
            have c83b0 : (a0_0 == 9) = false := beq_eq_false_iff_ne.mpr c83
            have c83b1 : (a0_0 != 9) = true := bne_iff_ne.mpr c83
            have H' := Aside0.mk H
            clear H
            go_wp2
            go_meet
            case rel => exact ⟨_, ((a0_0 == 10)), (by first | rfl | (simp; done) | (simp [*]; done)), H', ⟨by first | omega | exact Nat.le_refl _⟩, ⟨by (with_reducible repeat (first | refine blk_drewN ?_ _ | refine blk_drew ?_ | refine blk_alloc ?_ _)); exact BK152.out⟩, ⟨by repeat (first | (with_reducible first | exact HB.out | apply below_alloc | apply pw_below_drewN | apply below_drew1 | refine below_set ?_ GE152.out) | exact HB.out)⟩⟩
        case rest =>
         clear HC75
         try clear c1
         try clear p1
         try clear q1
         try clear hx1
         try clear p2
         try clear c3
         try clear c5
         try clear c6
         try clear c8
         try clear c11
         try clear p15
         try clear q15
         try clear hx15
         try clear c18
         try clear c19
         try clear c39
         try clear c39b0
         try clear c39b1
         try clear c53
         try clear c53b0
         try clear c53b1
         try clear c64
         try clear c64b0
         try clear c64b1
         try clear c81
         try clear c81b0
         try clear c81b1
         try clear c82
         try clear c82b0
         try clear c82b1
         try clear c83
         try clear c83b0
         try clear c83b1
         try clear hcz46_0
         try clear hcz46_1
         try clear hcz46_2
         try clear hcz46_3
         try clear hcz46_4
         try clear hcz46_5
         try clear hcz46_6
         try clear hcz59_0
         try clear hcz59_1
         try clear hcz59_2
         try clear hcz59_3
         try clear hcz59_4
         try clear hcz59_5
         try clear hcz59_6
         try clear hcz70_0
         try clear hcz70_1
         try clear hcz70_2
         try clear hcz70_3
         try clear hcz70_4
         try clear hcz70_5
         try clear hcz70_6
         try clear hcz80_0
         try clear hcz80_1
         try clear hcz80_2
         try clear hcz80_3
         try clear hcz80_4
         try clear hcz80_5
         try clear hcz80_6
         try clear hfz46_0
         try clear hfz46_1
         try clear hfz46_2
         try clear hfz46_3
         try clear hfz46_4
         try clear hfz46_5
         try clear hfz46_6
         try clear hfz59_0
         try clear hfz59_1
         try clear hfz59_2
         try clear hfz59_3
         try clear hfz59_4
         try clear hfz59_5
         try clear hfz59_6
         try clear hfz70_0
         try clear hfz70_1
         try clear hfz70_2
         try clear hfz70_3
         try clear hfz70_4
         try clear hfz70_5
         try clear hfz70_6
         try clear hfz80_0
         try clear hfz80_1
         try clear hfz80_2
         try clear hfz80_3
         try clear hfz80_4
         try clear hfz80_5
         try clear hfz80_6
         try clear hx156_0
         try clear p156
         try clear q156
         obtain ⟨kq, x69_74, rfl, HA, HJ74, BK152, HB⟩ := hcut
         cases kq with
         | zero => exact absurd HA.out (by simp [spec_l3Text.j0])
         | succ kj74 =>
          have H := HA.out
          clear HA
          simp only [spec_l3Text.j0] at H
          by_cases c84 : x69_74 = true
          ·subst c84
           have H1 : ((spec_l3Line.f kj74 (rdOf ByteArray.empty t153 a0_0) (([a0_1, a0_3] : List Int))).bind fun t185 => (some t185)) = some r := by rw [if_pos rfl] at H; exact H
           clear H
           have H := H1
           clear H1
           obtain ⟨y182, hy182⟩ : ∃ y_ : List Int, y_ = (([a0_1, a0_3] : List Int)) := ⟨_, rfl⟩
           replace H : ((spec_l3Line.f kj74 (rdOf ByteArray.empty t153 a0_0) y182).bind fun t185 => (some t185)) = some r := by first | (rw [hy182]; with_reducible exact H) | (have H2_ := (Option.bind_some _ _).symm.trans H; rw [hy182]; with_reducible exact H2_) | (have H2_ := (Option.bind_some _ _).symm.trans H; with_reducible exact H2_) | with_reducible exact H | (rw [hy182]; exact H) | exact H
           have Ny182 := Aside0.mk hy182
           clear hy182
           replace H := Option.bind_eq_some_iff.mp H
           obtain ⟨t185, A850, H⟩ := H
           replace H : (some t185) = some r := H
           have A85 := Aside0.mk A850
           clear A850
           obtain rfl := Option.some.inj H
           obtain ⟨hcz86_0, hcz86_1, hcz86_2, hcz86_3, hcz86_4, hcz86_5, hcz86_6, hfz86_0, hfz86_1, hfz86_2, hfz86_3, hfz86_4, hfz86_5, hfz86_6⟩ := cells7 BK152.out
           go_wp2_with (first | ((with_reducible refine gate_dst (N := 79) rfl ?_); refine Kd.R_lit (Kd.int .i64) _ 2 ?hg (N := 79) ?hd (xs := ([a0_1, a0_3] : List Int)) (inner := [.int .i64 a0_1, .int .i64 a0_3]) (ok := fun _ => True) (okp := fun _ => True) ?hr ?hp (fun _ hk => hk) trivial (Below.refl _ _) (Nat.le_refl _) (by simp) ?_; (case hd => rfl); (case hg => rfl); (case hr => first | (go_simp; done) | (go_simp; rfl)); (case hp => exact (Reps.one (show Kd.M (Kd.int .i64) _ _ _ a0_1 [.int .i64 a0_1] from rfl) (Reps.one (show Kd.M (Kd.int .i64) _ _ _ a0_3 [.int .i64 a0_3] from rfl) (Reps.none _ _)))); intro v183 w87 ho88 hb hg_ hnew_; clear hg_ hnew_; (first | rw [← Ny182.out] at ho88 | (simp only [Int.reduceToNat] at ho88; rw [← Ny182.out] at ho88)); have n0_ := Aside0.mk (Kd.R_lower ho88 (below_size b6_0)); have n1_ := Aside0.mk (blk_below (g := gb152) (o := .cells #[.int .i64 a0_0, .int .i64 a0_1, .int .i64 a0_2, .int .i64 a0_3, .int .i64 a0_4, .int .i64 a0_5, .slice A0_6 l0_6.length c0_6] 35 (0, 0)) b6_1 hb); have n2_ := Aside0.mk (below_step b6_0 hb); clear BK152; clear HB; have HO184 := n0_; have BK152 := n1_; have HB := n2_; clear n0_ n1_ n2_; clear hb ho88; obtain ⟨Ao89, co89, eo89⟩ := Kd.R_slice HO184.out; subst eo89) | ((with_reducible refine gate_callee (f := 19) rfl ?_); refine goesL_ (some 80) rfl rfl Tryd.func19 (by kernel_rfl) rfl #[.string (rdOf ByteArray.empty t153 a0_0), .slice Ao89 y182.length co89] rfl b6_3 ?_; (with_reducible refine (spec_l3Line.calls kj74 (rdOf ByteArray.empty t153 a0_0) _ _ y182 t185 _ ?side1 ?side2 A85.out).mono ?_); (case side1 => exact (by repeat (first | exact (Kd.R_reads' HO184.out).2.2 | (with_reducible refine Kd.C_alloc ?_ _) | (with_reducible refine Kd.C_drewN ?_ _) | (with_reducible refine Kd.C_drew ?_)))); (case side2 => exact (Kd.R_reads' HO184.out).2.1); rintro e w90 ⟨rfl, hb⟩; refine ⟨_, rfl, ?_⟩; have n0_ := Aside0.mk (Kd.R_below (by (with_reducible repeat (first | apply Kd.R_alloc | apply Kd.R_drewN | apply Kd.R_drew)); exact HO184.out) hb); have n1_ := Aside0.mk (blk_below (g := gb152) (o := .cells #[.int .i64 a0_0, .int .i64 a0_1, .int .i64 a0_2, .int .i64 a0_3, .int .i64 a0_4, .int .i64 a0_5, .slice A0_6 l0_6.length c0_6] 35 (0, 0)) b6_1 hb); have n2_ := Aside0.mk (below_step b6_0 hb); clear HO184; clear BK152; clear HB; have HO184 := n0_; have BK152 := n1_; have HB := n2_; clear n0_ n1_ n2_; (try clear hb); (try clear hb2); (try clear hk); (try clear hi)))
           go_ret
           exact ⟨by first | rfl | (simp [errW_none, errW_some] <;> rfl) | (simp [*, errW_none, errW_some] <;> rfl), by repeat (first | (with_reducible first | exact HB.out | apply below_alloc | apply pw_below_drewN | apply below_drew1 | refine below_set ?_ GE152.out) | exact HB.out)⟩
          ·replace c84 := Bool.eq_false_iff.mpr c84
           subst c84
           have H1 : ((spec_l3Line.f kj74 (rdOf ByteArray.empty t153 a0_0) (([a0_1] : List Int))).bind fun t189 => (some t189)) = some r := by rw [if_neg (show ¬ (false = true) by decide)] at H; exact H
           clear H
           have H := H1
           clear H1
           obtain ⟨y186, hy186⟩ : ∃ y_ : List Int, y_ = (([a0_1] : List Int)) := ⟨_, rfl⟩
           replace H : ((spec_l3Line.f kj74 (rdOf ByteArray.empty t153 a0_0) y186).bind fun t189 => (some t189)) = some r := by first | (rw [hy186]; with_reducible exact H) | (have H2_ := (Option.bind_some _ _).symm.trans H; rw [hy186]; with_reducible exact H2_) | (have H2_ := (Option.bind_some _ _).symm.trans H; with_reducible exact H2_) | with_reducible exact H | (rw [hy186]; exact H) | exact H
           have Ny186 := Aside0.mk hy186
           clear hy186
           replace H := Option.bind_eq_some_iff.mp H
           obtain ⟨t189, A910, H⟩ := H
           replace H : (some t189) = some r := H
           have A91 := Aside0.mk A910
           clear A910
           obtain rfl := Option.some.inj H
           obtain ⟨hcz92_0, hcz92_1, hcz92_2, hcz92_3, hcz92_4, hcz92_5, hcz92_6, hfz92_0, hfz92_1, hfz92_2, hfz92_3, hfz92_4, hfz92_5, hfz92_6⟩ := cells7 BK152.out
           go_wp2_with (first | ((with_reducible refine gate_dst (N := 84) rfl ?_); refine Kd.R_lit (Kd.int .i64) _ 2 ?hg (N := 84) ?hd (xs := ([a0_1] : List Int)) (inner := [.int .i64 a0_1]) (ok := fun _ => True) (okp := fun _ => True) ?hr ?hp (fun _ hk => hk) trivial (Below.refl _ _) (Nat.le_refl _) (by simp) ?_; (case hd => rfl); (case hg => rfl); (case hr => first | (go_simp; done) | (go_simp; rfl)); (case hp => exact (Reps.one (show Kd.M (Kd.int .i64) _ _ _ a0_1 [.int .i64 a0_1] from rfl) (Reps.none _ _))); intro v187 w93 ho94 hb hg_ hnew_; clear hg_ hnew_; (first | rw [← Ny186.out] at ho94 | (simp only [Int.reduceToNat] at ho94; rw [← Ny186.out] at ho94)); have n0_ := Aside0.mk (Kd.R_lower ho94 (below_size b6_0)); have n1_ := Aside0.mk (blk_below (g := gb152) (o := .cells #[.int .i64 a0_0, .int .i64 a0_1, .int .i64 a0_2, .int .i64 a0_3, .int .i64 a0_4, .int .i64 a0_5, .slice A0_6 l0_6.length c0_6] 35 (0, 0)) b6_1 hb); have n2_ := Aside0.mk (below_step b6_0 hb); clear BK152; clear HB; have HO188 := n0_; have BK152 := n1_; have HB := n2_; clear n0_ n1_ n2_; clear hb ho94; obtain ⟨Ao95, co95, eo95⟩ := Kd.R_slice HO188.out; subst eo95) | ((with_reducible refine gate_callee (f := 19) rfl ?_); refine goesL_ (some 85) rfl rfl Tryd.func19 (by kernel_rfl) rfl #[.string (rdOf ByteArray.empty t153 a0_0), .slice Ao95 y186.length co95] rfl b6_3 ?_; (with_reducible refine (spec_l3Line.calls kj74 (rdOf ByteArray.empty t153 a0_0) _ _ y186 t189 _ ?side1 ?side2 A91.out).mono ?_); (case side1 => exact (by repeat (first | exact (Kd.R_reads' HO188.out).2.2 | (with_reducible refine Kd.C_alloc ?_ _) | (with_reducible refine Kd.C_drewN ?_ _) | (with_reducible refine Kd.C_drew ?_)))); (case side2 => exact (Kd.R_reads' HO188.out).2.1); rintro e w96 ⟨rfl, hb⟩; refine ⟨_, rfl, ?_⟩; have n0_ := Aside0.mk (Kd.R_below (by (with_reducible repeat (first | apply Kd.R_alloc | apply Kd.R_drewN | apply Kd.R_drew)); exact HO188.out) hb); have n1_ := Aside0.mk (blk_below (g := gb152) (o := .cells #[.int .i64 a0_0, .int .i64 a0_1, .int .i64 a0_2, .int .i64 a0_3, .int .i64 a0_4, .int .i64 a0_5, .slice A0_6 l0_6.length c0_6] 35 (0, 0)) b6_1 hb); have n2_ := Aside0.mk (below_step b6_0 hb); clear HO188; clear BK152; clear HB; have HO188 := n0_; have BK152 := n1_; have HB := n2_; clear n0_ n1_ n2_; (try clear hb); (try clear hb2); (try clear hk); (try clear hi)))
           go_ret
           exact ⟨by first | rfl | (simp [errW_none, errW_some] <;> rfl) | (simp [*, errW_none, errW_some] <;> rfl), by repeat (first | (with_reducible first | exact HB.out | apply below_alloc | apply pw_below_drewN | apply below_drew1 | refine below_set ?_ GE152.out) | exact HB.out)⟩
  ·rw [if_neg c4] at H
   exact absurd H (by simp)
 ·rw [if_neg c3] at H
  exact absurd H (by simp)

end Go.Proofs.YteibdjkfkcckkaaDoor.PFnExactFormatPlan
