-- Written by fprint, a program of this session, out of Lean's own print of the translation. Lean checks it.
import Derived.Test.YteibdjkfkcckkaaDense
import Derived.Test.YteibdjkfkcckkaaPFnFeedsx0
import Derived.Test.YteibdjkfkcckkaaPFnFeedsx1
namespace Go.Proofs.Yteibdjkfkcckkaa.PFnFeeds
open Go.RowKit Go.Proofs.YteibdjkfkcckkaaW.PrintWords Go.Proofs.YteibdjkfkcckkaaW.PrintLast Go.Proofs.YteibdjkfkcckkaaW.PrintMore
attribute [local go_sem] max2_int min2_int max_two min_two max_three min_three max_four min_four   -- for this text's walks alone
set_option linter.unusedVariables false
set_option linter.unusedSimpArgs false

theorem q2_0 {p : Prop} (h : p := by have := HJ1.out; first | omega | exact Nat.le_refl _) : p := h
/-! ### spec_l3Named: function 71 -/
mutual
def spec_l3Named.j0 : Nat → Bool → Int → Int → Int → Int → Int → Int → List Int → Option (Bool)
 | 0, _, _, _, _, _, _, _, _ => none
 | k + 1, x22, x107000, x107001, x107002, x107003, x107004, x107005, x107006 => if x22 = true then (some false) else (if x107000 = 2 then (if x107000 = 3 then (spec_l3Named.j1 k false x107000 x107001 x107002 x107003 x107004 x107005 x107006) else (spec_l3Named.j1 k (decide ((x107006.length : Int) > 0)) x107000 x107001 x107002 x107003 x107004 x107005 x107006)) else (if x107004 = 0 then (if x107005 = 0 then (if x107000 = 3 then (spec_l3Named.j1 k false x107000 x107001 x107002 x107003 x107004 x107005 x107006) else (spec_l3Named.j1 k (decide ((x107006.length : Int) > 0)) x107000 x107001 x107002 x107003 x107004 x107005 x107006)) else (spec_l3Named.j1 k true x107000 x107001 x107002 x107003 x107004 x107005 x107006)) else (spec_l3Named.j1 k true x107000 x107001 x107002 x107003 x107004 x107005 x107006)))
def spec_l3Named.j1 : Nat → Bool → Int → Int → Int → Int → Int → Int → List Int → Option (Bool)
 | 0, _, _, _, _, _, _, _, _ => none
 | k + 1, x46, x107000, x107001, x107002, x107003, x107004, x107005, x107006 => if x46 = true then (some false) else (if x107000 = 3 then (some (x107003 == 0)) else (if x107000 = 4 then (some (x107003 == 0)) else (if x107000 = 5 then (some (x107003 == 0)) else (if x107000 = 11 then (some (x107003 == 0)) else (if x107000 = 12 then (some (x107003 == 0)) else (some true))))))
end
def spec_l3Named.f (k : Nat) (a0_0 : Int) (a0_1 : Int) (a0_2 : Int) (a0_3 : Int) (a0_4 : Int) (a0_5 : Int) (l0_6 : List Int) : Option (Bool) := (spec_l3Reads.f a0_0).bind fun t107 => (if t107 < 1 then (if a0_1 = 0 then ((spec_l3Reads.f a0_0).bind fun t108 => (if t108 < 2 then (spec_l3Named.j0 k (a0_2 != 0) a0_0 a0_1 a0_2 a0_3 a0_4 a0_5 l0_6) else (spec_l3Named.j0 k false a0_0 a0_1 a0_2 a0_3 a0_4 a0_5 l0_6))) else (spec_l3Named.j0 k true a0_0 a0_1 a0_2 a0_3 a0_4 a0_5 l0_6)) else ((spec_l3Reads.f a0_0).bind fun t109 => (if t109 < 2 then (spec_l3Named.j0 k (a0_2 != 0) a0_0 a0_1 a0_2 a0_3 a0_4 a0_5 l0_6) else (spec_l3Named.j0 k false a0_0 a0_1 a0_2 a0_3 a0_4 a0_5 l0_6))))
theorem spec_l3Named.mono_l : ∀ k, (∀ y0 y1 y2 y3 y4 y5 y6 y7, LeO (spec_l3Named.j0 k y0 y1 y2 y3 y4 y5 y6 y7) (spec_l3Named.j0 (k + 1) y0 y1 y2 y3 y4 y5 y6 y7)) ∧ (∀ y0 y1 y2 y3 y4 y5 y6 y7, LeO (spec_l3Named.j1 k y0 y1 y2 y3 y4 y5 y6 y7) (spec_l3Named.j1 (k + 1) y0 y1 y2 y3 y4 y5 y6 y7))
 | 0 => ⟨fun _ _ _ _ _ _ _ _ r h => by simp [spec_l3Named.j0] at h, fun _ _ _ _ _ _ _ _ r h => by simp [spec_l3Named.j1] at h⟩
 | k + 1 => by
  obtain ⟨ih0, ih1⟩ := spec_l3Named.mono_l k
  refine ⟨?_, ?_⟩
  ·intro y0 y1 y2 y3 y4 y5 y6 y7
   unfold spec_l3Named.j0
   repeat' first
   | (with_reducible exact ih0 _ _ _ _ _ _ _ _)
   | (with_reducible exact ih1 _ _ _ _ _ _ _ _)
   | (with_reducible exact LeO.refl _)
   | (with_reducible exact LeO.none _)
   | (with_reducible refine LeO.ite ?_ ?_)
   | (with_reducible refine LeO.bind ?_ (fun _ => ?_))
   | exact ih0 _ _ _ _ _ _ _ _
   | exact ih1 _ _ _ _ _ _ _ _
   | exact LeO.none _
   | refine LeO.ite ?_ ?_
   | refine LeO.bind ?_ (fun _ => ?_)
  ·intro y0 y1 y2 y3 y4 y5 y6 y7
   unfold spec_l3Named.j1
   repeat' first
   | (with_reducible exact ih0 _ _ _ _ _ _ _ _)
   | (with_reducible exact ih1 _ _ _ _ _ _ _ _)
   | (with_reducible exact LeO.refl _)
   | (with_reducible exact LeO.none _)
   | (with_reducible refine LeO.ite ?_ ?_)
   | (with_reducible refine LeO.bind ?_ (fun _ => ?_))
   | exact ih0 _ _ _ _ _ _ _ _
   | exact ih1 _ _ _ _ _ _ _ _
   | exact LeO.none _
   | refine LeO.ite ?_ ?_
   | refine LeO.bind ?_ (fun _ => ?_)
theorem spec_l3Named.mono : ∀ a0 a1 a2 a3 a4 a5 a6 k, LeO (spec_l3Named.f k a0 a1 a2 a3 a4 a5 a6) (spec_l3Named.f (k + 1) a0 a1 a2 a3 a4 a5 a6) := by
 intro a0 a1 a2 a3 a4 a5 a6 k
 obtain ⟨ih0, ih1⟩ := spec_l3Named.mono_l k
 unfold spec_l3Named.f
 repeat' first
   | (with_reducible exact ih0 _ _ _ _ _ _ _ _)
   | (with_reducible exact ih1 _ _ _ _ _ _ _ _)
   | (with_reducible exact LeO.refl _)
   | (with_reducible exact LeO.none _)
   | (with_reducible refine LeO.ite ?_ ?_)
   | (with_reducible refine LeO.bind ?_ (fun _ => ?_))
   | exact ih0 _ _ _ _ _ _ _ _
   | exact ih1 _ _ _ _ _ _ _ _
   | exact LeO.none _
   | refine LeO.ite ?_ ?_
   | refine LeO.bind ?_ (fun _ => ?_)
set_option maxHeartbeats 8000000 in
set_option maxRecDepth 100000 in
theorem spec_l3Named.calls (k : Nat) (a0_0 : Int) (a0_1 : Int) (a0_2 : Int) (a0_3 : Int) (a0_4 : Int) (a0_5 : Int) (A0_6 : Option Addr) (c0_6 : Nat) (l0_6 : List Int) (r : Bool) (w : World) (hr0_6 : Kd.C (Kd.int .i64) w A0_6 l0_6.length l0_6) (hc0_6 : l0_6.length ≤ c0_6) (h : spec_l3Named.f k a0_0 a0_1 a0_2 a0_3 a0_4 a0_5 l0_6 = some r) :
  Calls Try.prog 71 #[.agg #[.int .i64 a0_0, .int .i64 a0_1, .int .i64 a0_2, .int .i64 a0_3, .int .i64 a0_4, .int .i64 a0_5, .slice A0_6 l0_6.length c0_6]] w fun e w' => e = .returned (.bool r) ∧ Below w.heap.size w w' := by
 have hu58 := Try.underlying58
 have HR0_6 := Aside0.mk hr0_6
 have HC0_6 := Aside0.mk hc0_6
 clear hr0_6 hc0_6
 have HB := Aside0.mk (Below.refl w.heap.size w)
 have H : ((spec_l3Reads.f a0_0).bind fun t107 => (if t107 < 1 then (if a0_1 = 0 then ((spec_l3Reads.f a0_0).bind fun t108 => (if t108 < 2 then (spec_l3Named.j0 k (a0_2 != 0) a0_0 a0_1 a0_2 a0_3 a0_4 a0_5 l0_6) else (spec_l3Named.j0 k false a0_0 a0_1 a0_2 a0_3 a0_4 a0_5 l0_6))) else (spec_l3Named.j0 k true a0_0 a0_1 a0_2 a0_3 a0_4 a0_5 l0_6)) else ((spec_l3Reads.f a0_0).bind fun t109 => (if t109 < 2 then (spec_l3Named.j0 k (a0_2 != 0) a0_0 a0_1 a0_2 a0_3 a0_4 a0_5 l0_6) else (spec_l3Named.j0 k false a0_0 a0_1 a0_2 a0_3 a0_4 a0_5 l0_6))))) = some r := h
 clear h
 have HC2 := Aside0.mk H
 clear H
 go_enter Try.func71, Try.ntmps71
 go_upto_region 1 with (first | ((with_reducible refine gate_dst (N := 1) rfl ?_); (try (refine gate_guard (by rfl) ?_; dsimp only)); refine box_event ?hg (N := 1) ?hd (cs := #[.int .i64 a0_0, .int .i64 a0_1, .int .i64 a0_2, .int .i64 a0_3, .int .i64 a0_4, .int .i64 a0_5, .slice A0_6 l0_6.length c0_6]) (t := 58) ?hr ?_; (case hd => rfl); (case hg => rfl); (case hr => first | (go_simp; done) | (go_simp; rfl)); intro gb106 hg w3 hbox hb; have BK106 := Aside0.mk (hbox); have GW106 := Aside0.mk ((by rw [hg]; exact (below_size cB0_) : w.heap.size ≤ gb106)); have GE106 := Aside0.mk ((by rw [hg]; exact (below_size cB0_) : w.heap.size ≤ gb106)); replace HB := Aside0.mk (below_step cB0_ hb); clear hb hbox hg))
 (try simp only [Act.put, List.setIfInBounds_toArray, List.set_cons_zero, List.set_cons_succ])
 go_cut [22] (fun v22 wc => ∃ (kq : Nat) (x22_1 : Bool), v22 = .bool x22_1 ∧ Aside0 (spec_l3Named.j0 kq x22_1 a0_0 a0_1 a0_2 a0_3 a0_4 a0_5 l0_6 = some r) ∧ Aside0 (kq ≤ k) ∧ Aside0 (wc.heap[gb106]? = some (.cells #[.int .i64 a0_0, .int .i64 a0_1, .int .i64 a0_2, .int .i64 a0_3, .int .i64 a0_4, .int .i64 a0_5, (.slice A0_6 l0_6.length c0_6)] 58 (0, 0))) ∧ Aside0 (Below w.heap.size w wc))
 case first =>
  have H := HC2.out
  clear HC2
  obtain ⟨t107, A4, H⟩ := bnd_ H
  try dsimp only at H
  by_cases c5 : t107 < 1
  rotate_left
  ·rw [if_neg c5] at H
   have c5b0 : decide (t107 < 1) = false := decide_eq_false c5
   clear c5
   (first | rw [c5b0] | (simp only [i64_w, i32_w]; rw [c5b0]) | skip)
   obtain ⟨t109, A12, H⟩ := bnd_ H
   try dsimp only at H
   by_cases c13 : t109 < 2
   ·rw [if_pos c13] at H
    have c13b0 : decide (t109 < 2) = true := decide_eq_true c13
    clear c13
    have H' := Aside0.mk H
    clear H
    obtain ⟨hcz14_0, hcz14_1, hcz14_2, hcz14_3, hcz14_4, hcz14_5, hcz14_6, hfz14_0, hfz14_1, hfz14_2, hfz14_3, hfz14_4, hfz14_5, hfz14_6⟩ := cells7 BK106.out
    go_wp2_with (first | (refine gl_ 72 (some 5) Try.func72 #[.int .i64 a0_0] ?_; (with_reducible refine (spec_l3Reads.calls a0_0 t107 _ A4.out).mono ?_); rintro e w' ⟨rfl, ⟨nd, rfl⟩⟩; refine ⟨_, rfl, ?_⟩) | (go_at_call 72; (with_reducible refine (spec_l3Reads.calls a0_0 t109 _ A12.out).mono ?_); rintro e w' ⟨rfl, ⟨nd, rfl⟩⟩))
    go_meet
    case rel => exact ⟨_, ((a0_2 != 0)), cs_, H', ⟨cm_⟩, ⟨cO_ BK106.out⟩, ⟨cB1_ GE106.out⟩⟩
   rw [if_neg c13] at H
   have c13b0 : decide (t109 < 2) = false := decide_eq_false c13
   clear c13
   have H' := Aside0.mk H
   clear H
   obtain ⟨hcz15_0, hcz15_1, hcz15_2, hcz15_3, hcz15_4, hcz15_5, hcz15_6, hfz15_0, hfz15_1, hfz15_2, hfz15_3, hfz15_4, hfz15_5, hfz15_6⟩ := cells7 BK106.out
   go_wp2_with (first | (refine gl_ 72 (some 5) Try.func72 #[.int .i64 a0_0] ?_; (with_reducible refine (spec_l3Reads.calls a0_0 t107 _ A4.out).mono ?_); rintro e w' ⟨rfl, ⟨nd, rfl⟩⟩; refine ⟨_, rfl, ?_⟩) | (go_at_call 72; (with_reducible refine (spec_l3Reads.calls a0_0 t109 _ A12.out).mono ?_); rintro e w' ⟨rfl, ⟨nd, rfl⟩⟩))
   go_meet
   case rel => exact ⟨_, (false), cs_, H', ⟨cm_⟩, ⟨cO_ BK106.out⟩, ⟨cB1_ GE106.out⟩⟩
  rw [if_pos c5] at H
  have c5b0 : decide (t107 < 1) = true := decide_eq_true c5
  clear c5
  (first | rw [c5b0] | (simp only [i64_w, i32_w]; rw [c5b0]) | skip)
  by_cases c6 : a0_1 = 0
  rotate_left
  ·rw [if_neg c6] at H
   have c6b0 : (a0_1 == 0) = false := beq_eq_false_iff_ne.mpr c6
   have c6b1 : (a0_1 != 0) = true := bne_iff_ne.mpr c6
   have H' := Aside0.mk H
   clear H
   obtain ⟨hcz11_0, hcz11_1, hcz11_2, hcz11_3, hcz11_4, hcz11_5, hcz11_6, hfz11_0, hfz11_1, hfz11_2, hfz11_3, hfz11_4, hfz11_5, hfz11_6⟩ := cells7 BK106.out
   go_wp2_with (first | (refine gl_ 72 (some 5) Try.func72 #[.int .i64 a0_0] ?_; (with_reducible refine (spec_l3Reads.calls a0_0 t107 _ A4.out).mono ?_); rintro e w' ⟨rfl, ⟨nd, rfl⟩⟩; refine ⟨_, rfl, ?_⟩))
   go_meet
   case rel => exact ⟨_, (true), cs_, H', ⟨cm_⟩, ⟨cO_ BK106.out⟩, ⟨cB1_ GE106.out⟩⟩
  rw [if_pos c6] at H
  have c6b0 : (a0_1 == 0) = true := beq_iff_eq.mpr c6
  have c6b1 : (a0_1 != 0) = false := bne_eq_false_iff_eq.mpr c6
  clear c6
  obtain ⟨t108, A7, H⟩ := bnd_ H
  try dsimp only at H
  by_cases c8 : t108 < 2
  ·rw [if_pos c8] at H
   have c8b0 : decide (t108 < 2) = true := decide_eq_true c8
   clear c8
   have H' := Aside0.mk H
   clear H
   obtain ⟨hcz9_0, hcz9_1, hcz9_2, hcz9_3, hcz9_4, hcz9_5, hcz9_6, hfz9_0, hfz9_1, hfz9_2, hfz9_3, hfz9_4, hfz9_5, hfz9_6⟩ := cells7 BK106.out
   go_wp2_with (first | (refine gl_ 72 (some 5) Try.func72 #[.int .i64 a0_0] ?_; (with_reducible refine (spec_l3Reads.calls a0_0 t107 _ A4.out).mono ?_); rintro e w' ⟨rfl, ⟨nd, rfl⟩⟩; refine ⟨_, rfl, ?_⟩) | (go_at_call 72; (with_reducible refine (spec_l3Reads.calls a0_0 t108 _ A7.out).mono ?_); rintro e w' ⟨rfl, ⟨nd, rfl⟩⟩))
   go_meet
   case rel => exact ⟨_, ((a0_2 != 0)), cs_, H', ⟨cm_⟩, ⟨cO_ BK106.out⟩, ⟨cB1_ GE106.out⟩⟩
  rw [if_neg c8] at H
  have c8b0 : decide (t108 < 2) = false := decide_eq_false c8
  clear c8
  have H' := Aside0.mk H
  clear H
  obtain ⟨hcz10_0, hcz10_1, hcz10_2, hcz10_3, hcz10_4, hcz10_5, hcz10_6, hfz10_0, hfz10_1, hfz10_2, hfz10_3, hfz10_4, hfz10_5, hfz10_6⟩ := cells7 BK106.out
  go_wp2_with (first | (refine gl_ 72 (some 5) Try.func72 #[.int .i64 a0_0] ?_; (with_reducible refine (spec_l3Reads.calls a0_0 t107 _ A4.out).mono ?_); rintro e w' ⟨rfl, ⟨nd, rfl⟩⟩; refine ⟨_, rfl, ?_⟩) | (go_at_call 72; (with_reducible refine (spec_l3Reads.calls a0_0 t108 _ A7.out).mono ?_); rintro e w' ⟨rfl, ⟨nd, rfl⟩⟩))
  go_meet
  case rel => exact ⟨_, (false), cs_, H', ⟨cm_⟩, ⟨cO_ BK106.out⟩, ⟨cB1_ GE106.out⟩⟩
 case rest =>
  clear HC2
  try clear c1
  try clear p2
  try clear c5
  try clear c5b0
  try clear c6
  try clear c6b0
  try clear c6b1
  try clear c7
  try clear c8
  try clear c8b0
  try clear c13
  try clear c13b0
  try clear hcz10_0
  try clear hcz10_1
  try clear hcz10_2
  try clear hcz10_3
  try clear hcz10_4
  try clear hcz10_5
  try clear hcz10_6
  try clear hcz11_0
  try clear hcz11_1
  try clear hcz11_2
  try clear hcz11_3
  try clear hcz11_4
  try clear hcz11_5
  try clear hcz11_6
  try clear hcz14_0
  try clear hcz14_1
  try clear hcz14_2
  try clear hcz14_3
  try clear hcz14_4
  try clear hcz14_5
  try clear hcz14_6
  try clear hcz15_0
  try clear hcz15_1
  try clear hcz15_2
  try clear hcz15_3
  try clear hcz15_4
  try clear hcz15_5
  try clear hcz15_6
  try clear hcz9_0
  try clear hcz9_1
  try clear hcz9_2
  try clear hcz9_3
  try clear hcz9_4
  try clear hcz9_5
  try clear hcz9_6
  try clear hfz10_0
  try clear hfz10_1
  try clear hfz10_2
  try clear hfz10_3
  try clear hfz10_4
  try clear hfz10_5
  try clear hfz10_6
  try clear hfz11_0
  try clear hfz11_1
  try clear hfz11_2
  try clear hfz11_3
  try clear hfz11_4
  try clear hfz11_5
  try clear hfz11_6
  try clear hfz14_0
  try clear hfz14_1
  try clear hfz14_2
  try clear hfz14_3
  try clear hfz14_4
  try clear hfz14_5
  try clear hfz14_6
  try clear hfz15_0
  try clear hfz15_1
  try clear hfz15_2
  try clear hfz15_3
  try clear hfz15_4
  try clear hfz15_5
  try clear hfz15_6
  try clear hfz9_0
  try clear hfz9_1
  try clear hfz9_2
  try clear hfz9_3
  try clear hfz9_4
  try clear hfz9_5
  try clear hfz9_6
  obtain ⟨kq, x22_1, rfl, HA, HJ1, BK106, HB⟩ := hcut
  cases kq with
  | zero => exact absurd HA.out (by simp [spec_l3Named.j0])
  | succ kj1 =>
   have H := HA.out
   clear HA
   simp only [spec_l3Named.j0] at H
   by_cases c16 : x22_1 = true
   ·subst c16
    rw [if_pos rfl] at H
    obtain rfl := Option.some.inj H
    go_wp2
    go_ret
    exact ⟨ce_, cB1_ GE106.out⟩
   replace c16 := Bool.eq_false_iff.mpr c16
   subst c16
   rw [if_neg (show ¬ (false = true) by decide)] at H
   have HC17 := Aside0.mk H
   clear H
   go_upto_region 3 with (fail)
   go_cut [46] (fun v46 wc => ∃ (kq : Nat) (x46_16 : Bool), v46 = .bool x46_16 ∧ Aside0 (spec_l3Named.j1 kq x46_16 a0_0 a0_1 a0_2 a0_3 a0_4 a0_5 l0_6 = some r) ∧ Aside0 (kq ≤ kj1) ∧ Aside0 (wc.heap[gb106]? = some (.cells #[.int .i64 a0_0, .int .i64 a0_1, .int .i64 a0_2, .int .i64 a0_3, .int .i64 a0_4, .int .i64 a0_5, (.slice A0_6 l0_6.length c0_6)] 58 (0, 0))) ∧ Aside0 (Below w.heap.size w wc))
   case first =>
    have H := HC17.out
    clear HC17
    by_cases c18 : a0_0 = 2
    ·rw [if_pos c18] at H
     have c18b0 : (a0_0 == 2) = true := beq_iff_eq.mpr c18
     have c18b1 : (a0_0 != 2) = false := bne_eq_false_iff_eq.mpr c18
     clear c18
     (first | rw [c18b0] | (simp only [i64_w, i32_w]; rw [c18b0]) | skip)
     by_cases c19 : a0_0 = 3
     ·rw [if_pos c19] at H
      have c19b0 : (a0_0 == 3) = true := beq_iff_eq.mpr c19
      have c19b1 : (a0_0 != 3) = false := bne_eq_false_iff_eq.mpr c19
      clear c19
      have H' := Aside0.mk H
      clear H
      obtain ⟨hcz20_0, hcz20_1, hcz20_2, hcz20_3, hcz20_4, hcz20_5, hcz20_6, hfz20_0, hfz20_1, hfz20_2, hfz20_3, hfz20_4, hfz20_5, hfz20_6⟩ := cells7 BK106.out
      go_wp2
      go_meet
      case rel => exact ⟨_, (false), cs_, H', ⟨q2_0⟩, ⟨cO_ BK106.out⟩, ⟨cB1_ GE106.out⟩⟩
     rw [if_neg c19] at H
     have c19b0 : (a0_0 == 3) = false := beq_eq_false_iff_ne.mpr c19
     have c19b1 : (a0_0 != 3) = true := bne_iff_ne.mpr c19
     have H' := Aside0.mk H
     clear H
     obtain ⟨hcz21_0, hcz21_1, hcz21_2, hcz21_3, hcz21_4, hcz21_5, hcz21_6, hfz21_0, hfz21_1, hfz21_2, hfz21_3, hfz21_4, hfz21_5, hfz21_6⟩ := cells7 BK106.out
     go_wp2
     go_meet
     case rel => exact ⟨_, (decide ((l0_6.length : Int) > 0)), cs_, H', ⟨q2_0⟩, ⟨cO_ BK106.out⟩, ⟨cB1_ GE106.out⟩⟩
    rw [if_neg c18] at H
    have c18b0 : (a0_0 == 2) = false := beq_eq_false_iff_ne.mpr c18
    have c18b1 : (a0_0 != 2) = true := bne_iff_ne.mpr c18
    (first | rw [c18b0] | (simp only [i64_w, i32_w]; rw [c18b0]) | skip)
    by_cases c22 : a0_4 = 0
    rotate_left
    ·rw [if_neg c22] at H
     have c22b0 : (a0_4 == 0) = false := beq_eq_false_iff_ne.mpr c22
     have c22b1 : (a0_4 != 0) = true := bne_iff_ne.mpr c22
     have H' := Aside0.mk H
     clear H
     obtain ⟨hcz28_0, hcz28_1, hcz28_2, hcz28_3, hcz28_4, hcz28_5, hcz28_6, hfz28_0, hfz28_1, hfz28_2, hfz28_3, hfz28_4, hfz28_5, hfz28_6⟩ := cells7 BK106.out
     go_wp2
     go_meet
     case rel => exact ⟨_, (true), cs_, H', ⟨q2_0⟩, ⟨cO_ BK106.out⟩, ⟨cB1_ GE106.out⟩⟩
    rw [if_pos c22] at H
    have c22b0 : (a0_4 == 0) = true := beq_iff_eq.mpr c22
    have c22b1 : (a0_4 != 0) = false := bne_eq_false_iff_eq.mpr c22
    clear c22
    by_cases c23 : a0_5 = 0
    rotate_left
    ·rw [if_neg c23] at H
     have c23b0 : (a0_5 == 0) = false := beq_eq_false_iff_ne.mpr c23
     have c23b1 : (a0_5 != 0) = true := bne_iff_ne.mpr c23
     have H' := Aside0.mk H
     clear H
     obtain ⟨hcz27_0, hcz27_1, hcz27_2, hcz27_3, hcz27_4, hcz27_5, hcz27_6, hfz27_0, hfz27_1, hfz27_2, hfz27_3, hfz27_4, hfz27_5, hfz27_6⟩ := cells7 BK106.out
     go_wp2
     go_meet
     case rel => exact ⟨_, (true), cs_, H', ⟨q2_0⟩, ⟨cO_ BK106.out⟩, ⟨cB1_ GE106.out⟩⟩
    rw [if_pos c23] at H
    have c23b0 : (a0_5 == 0) = true := beq_iff_eq.mpr c23
    have c23b1 : (a0_5 != 0) = false := bne_eq_false_iff_eq.mpr c23
    clear c23
    by_cases c24 : a0_0 = 3
    ·rw [if_pos c24] at H
     have c24b0 : (a0_0 == 3) = true := beq_iff_eq.mpr c24
     have c24b1 : (a0_0 != 3) = false := bne_eq_false_iff_eq.mpr c24
     clear c24
     have H' := Aside0.mk H
     clear H
     obtain ⟨hcz25_0, hcz25_1, hcz25_2, hcz25_3, hcz25_4, hcz25_5, hcz25_6, hfz25_0, hfz25_1, hfz25_2, hfz25_3, hfz25_4, hfz25_5, hfz25_6⟩ := cells7 BK106.out
     go_wp2
     go_meet
     case rel => exact ⟨_, (false), cs_, H', ⟨q2_0⟩, ⟨cO_ BK106.out⟩, ⟨cB1_ GE106.out⟩⟩
    rw [if_neg c24] at H
    have c24b0 : (a0_0 == 3) = false := beq_eq_false_iff_ne.mpr c24
    have c24b1 : (a0_0 != 3) = true := bne_iff_ne.mpr c24
    have H' := Aside0.mk H
    clear H
    obtain ⟨hcz26_0, hcz26_1, hcz26_2, hcz26_3, hcz26_4, hcz26_5, hcz26_6, hfz26_0, hfz26_1, hfz26_2, hfz26_3, hfz26_4, hfz26_5, hfz26_6⟩ := cells7 BK106.out
    go_wp2
    go_meet
    case rel => exact ⟨_, (decide ((l0_6.length : Int) > 0)), cs_, H', ⟨q2_0⟩, ⟨cO_ BK106.out⟩, ⟨cB1_ GE106.out⟩⟩
   case rest =>
    clear HC17
    try clear c1
    try clear c2
    try clear p2
    try clear c5
    try clear c5b0
    try clear c6
    try clear c6b0
    try clear c6b1
    try clear c7
    try clear c8
    try clear c8b0
    try clear c13
    try clear c13b0
    try clear c16
    try clear c18
    try clear c18b0
    try clear c18b1
    try clear c19
    try clear c19b0
    try clear c19b1
    try clear c22
    try clear c22b0
    try clear c22b1
    try clear c23
    try clear c23b0
    try clear c23b1
    try clear c24
    try clear c24b0
    try clear c24b1
    try clear hcz10_0
    try clear hcz10_1
    try clear hcz10_2
    try clear hcz10_3
    try clear hcz10_4
    try clear hcz10_5
    try clear hcz10_6
    try clear hcz11_0
    try clear hcz11_1
    try clear hcz11_2
    try clear hcz11_3
    try clear hcz11_4
    try clear hcz11_5
    try clear hcz11_6
    try clear hcz14_0
    try clear hcz14_1
    try clear hcz14_2
    try clear hcz14_3
    try clear hcz14_4
    try clear hcz14_5
    try clear hcz14_6
    try clear hcz15_0
    try clear hcz15_1
    try clear hcz15_2
    try clear hcz15_3
    try clear hcz15_4
    try clear hcz15_5
    try clear hcz15_6
    try clear hcz20_0
    try clear hcz20_1
    try clear hcz20_2
    try clear hcz20_3
    try clear hcz20_4
    try clear hcz20_5
    try clear hcz20_6
    try clear hcz21_0
    try clear hcz21_1
    try clear hcz21_2
    try clear hcz21_3
    try clear hcz21_4
    try clear hcz21_5
    try clear hcz21_6
    try clear hcz25_0
    try clear hcz25_1
    try clear hcz25_2
    try clear hcz25_3
    try clear hcz25_4
    try clear hcz25_5
    try clear hcz25_6
    try clear hcz26_0
    try clear hcz26_1
    try clear hcz26_2
    try clear hcz26_3
    try clear hcz26_4
    try clear hcz26_5
    try clear hcz26_6
    try clear hcz27_0
    try clear hcz27_1
    try clear hcz27_2
    try clear hcz27_3
    try clear hcz27_4
    try clear hcz27_5
    try clear hcz27_6
    try clear hcz28_0
    try clear hcz28_1
    try clear hcz28_2
    try clear hcz28_3
    try clear hcz28_4
    try clear hcz28_5
    try clear hcz28_6
    try clear hcz9_0
    try clear hcz9_1
    try clear hcz9_2
    try clear hcz9_3
    try clear hcz9_4
    try clear hcz9_5
    try clear hcz9_6
    try clear hfz10_0
    try clear hfz10_1
    try clear hfz10_2
    try clear hfz10_3
    try clear hfz10_4
    try clear hfz10_5
    try clear hfz10_6
    try clear hfz11_0
    try clear hfz11_1
    try clear hfz11_2
    try clear hfz11_3
    try clear hfz11_4
    try clear hfz11_5
    try clear hfz11_6
    try clear hfz14_0
    try clear hfz14_1
    try clear hfz14_2
    try clear hfz14_3
    try clear hfz14_4
    try clear hfz14_5
    try clear hfz14_6
    try clear hfz15_0
    try clear hfz15_1
    try clear hfz15_2
    try clear hfz15_3
    try clear hfz15_4
    try clear hfz15_5
    try clear hfz15_6
    try clear hfz20_0
    try clear hfz20_1
    try clear hfz20_2
    try clear hfz20_3
    try clear hfz20_4
    try clear hfz20_5
    try clear hfz20_6
    try clear hfz21_0
    try clear hfz21_1
    try clear hfz21_2
    try clear hfz21_3
    try clear hfz21_4
    try clear hfz21_5
    try clear hfz21_6
    try clear hfz25_0
    try clear hfz25_1
    try clear hfz25_2
    try clear hfz25_3
    try clear hfz25_4
    try clear hfz25_5
    try clear hfz25_6
    try clear hfz26_0
    try clear hfz26_1
    try clear hfz26_2
    try clear hfz26_3
    try clear hfz26_4
    try clear hfz26_5
    try clear hfz26_6
    try clear hfz27_0
    try clear hfz27_1
    try clear hfz27_2
    try clear hfz27_3
    try clear hfz27_4
    try clear hfz27_5
    try clear hfz27_6
    try clear hfz28_0
    try clear hfz28_1
    try clear hfz28_2
    try clear hfz28_3
    try clear hfz28_4
    try clear hfz28_5
    try clear hfz28_6
    try clear hfz9_0
    try clear hfz9_1
    try clear hfz9_2
    try clear hfz9_3
    try clear hfz9_4
    try clear hfz9_5
    try clear hfz9_6
    try clear p2
    obtain ⟨kq, x46_16, rfl, HA, HJ16, BK106, HB⟩ := hcut
    cases kq with
    | zero => exact absurd HA.out (by simp [spec_l3Named.j1])
    | succ kj16 =>
     have H := HA.out
     clear HA
     simp only [spec_l3Named.j1] at H
     by_cases c29 : x46_16 = true
     ·subst c29
      rw [if_pos rfl] at H
      obtain rfl := Option.some.inj H
      go_wp2
      go_ret
      exact ⟨ce_, cB1_ GE106.out⟩
     replace c29 := Bool.eq_false_iff.mpr c29
     subst c29
     rw [if_neg (show ¬ (false = true) by decide)] at H
     by_cases c30 : a0_0 = 3
     ·rw [if_pos c30] at H
      have c30b0 : (a0_0 == 3) = true := beq_iff_eq.mpr c30
      have c30b1 : (a0_0 != 3) = false := bne_eq_false_iff_eq.mpr c30
      clear c30
      obtain rfl := Option.some.inj H
      obtain ⟨hcz31_0, hcz31_1, hcz31_2, hcz31_3, hcz31_4, hcz31_5, hcz31_6, hfz31_0, hfz31_1, hfz31_2, hfz31_3, hfz31_4, hfz31_5, hfz31_6⟩ := cells7 BK106.out
      go_wp2
      go_ret
      exact ⟨ce_, cB1_ GE106.out⟩
     rw [if_neg c30] at H
     have c30b0 : (a0_0 == 3) = false := beq_eq_false_iff_ne.mpr c30
     have c30b1 : (a0_0 != 3) = true := bne_iff_ne.mpr c30
     by_cases c32 : a0_0 = 4
     ·rw [if_pos c32] at H
      have c32b0 : (a0_0 == 4) = true := beq_iff_eq.mpr c32
      have c32b1 : (a0_0 != 4) = false := bne_eq_false_iff_eq.mpr c32
      clear c32
      obtain rfl := Option.some.inj H
      obtain ⟨hcz33_0, hcz33_1, hcz33_2, hcz33_3, hcz33_4, hcz33_5, hcz33_6, hfz33_0, hfz33_1, hfz33_2, hfz33_3, hfz33_4, hfz33_5, hfz33_6⟩ := cells7 BK106.out
      go_wp2
      go_ret
      exact ⟨ce_, cB1_ GE106.out⟩
     rw [if_neg c32] at H
     have c32b0 : (a0_0 == 4) = false := beq_eq_false_iff_ne.mpr c32
     have c32b1 : (a0_0 != 4) = true := bne_iff_ne.mpr c32
     by_cases c34 : a0_0 = 5
     ·rw [if_pos c34] at H
      have c34b0 : (a0_0 == 5) = true := beq_iff_eq.mpr c34
      have c34b1 : (a0_0 != 5) = false := bne_eq_false_iff_eq.mpr c34
      clear c34
      obtain rfl := Option.some.inj H
      obtain ⟨hcz35_0, hcz35_1, hcz35_2, hcz35_3, hcz35_4, hcz35_5, hcz35_6, hfz35_0, hfz35_1, hfz35_2, hfz35_3, hfz35_4, hfz35_5, hfz35_6⟩ := cells7 BK106.out
      go_wp2
      go_ret
      exact ⟨ce_, cB1_ GE106.out⟩
     rw [if_neg c34] at H
     have c34b0 : (a0_0 == 5) = false := beq_eq_false_iff_ne.mpr c34
     have c34b1 : (a0_0 != 5) = true := bne_iff_ne.mpr c34
     by_cases c36 : a0_0 = 11
     ·rw [if_pos c36] at H
      have c36b0 : (a0_0 == 11) = true := beq_iff_eq.mpr c36
      have c36b1 : (a0_0 != 11) = false := bne_eq_false_iff_eq.mpr c36
      clear c36
      obtain rfl := Option.some.inj H
      obtain ⟨hcz37_0, hcz37_1, hcz37_2, hcz37_3, hcz37_4, hcz37_5, hcz37_6, hfz37_0, hfz37_1, hfz37_2, hfz37_3, hfz37_4, hfz37_5, hfz37_6⟩ := cells7 BK106.out
      go_wp2
      go_ret
      exact ⟨ce_, cB1_ GE106.out⟩
     rw [if_neg c36] at H
     have c36b0 : (a0_0 == 11) = false := beq_eq_false_iff_ne.mpr c36
     have c36b1 : (a0_0 != 11) = true := bne_iff_ne.mpr c36
     by_cases c38 : a0_0 = 12
     ·rw [if_pos c38] at H
      have c38b0 : (a0_0 == 12) = true := beq_iff_eq.mpr c38
      have c38b1 : (a0_0 != 12) = false := bne_eq_false_iff_eq.mpr c38
      clear c38
      obtain rfl := Option.some.inj H
      obtain ⟨hcz39_0, hcz39_1, hcz39_2, hcz39_3, hcz39_4, hcz39_5, hcz39_6, hfz39_0, hfz39_1, hfz39_2, hfz39_3, hfz39_4, hfz39_5, hfz39_6⟩ := cells7 BK106.out
      go_wp2
      go_ret
      exact ⟨ce_, cB1_ GE106.out⟩
     rw [if_neg c38] at H
     have c38b0 : (a0_0 == 12) = false := beq_eq_false_iff_ne.mpr c38
     have c38b1 : (a0_0 != 12) = true := bne_iff_ne.mpr c38
     obtain rfl := Option.some.inj H
     obtain ⟨hcz40_0, hcz40_1, hcz40_2, hcz40_3, hcz40_4, hcz40_5, hcz40_6, hfz40_0, hfz40_1, hfz40_2, hfz40_3, hfz40_4, hfz40_5, hfz40_6⟩ := cells7 BK106.out
     go_wp2
     go_ret
     exact ⟨ce_, cB1_ GE106.out⟩

/-! ### spec_l1Min: function 73 -/
def spec_l1Min.f (a0 : Int) (a1 : Int) : Option (Int) := if a0 < a1 then (some a0) else (some a1)
set_option maxHeartbeats 8000000 in
set_option maxRecDepth 100000 in
theorem spec_l1Min.calls (a0 : Int) (a1 : Int) (r : Int) (w : World) (h : spec_l1Min.f a0 a1 = some r) :
  Calls Try.prog 73 #[.int .i64 a0, .int .i64 a1] w fun e w' => e = .returned (.int .i64 r) ∧ Drawn0 w w' := by
 have H : (if a0 < a1 then (some a0) else (some a1)) = some r := h
 clear h
 by_cases c3 : a0 < a1
 ·rw [if_pos c3] at H
  have c3b0 : decide (a0 < a1) = true := decide_eq_true c3
  clear c3
  obtain rfl := Option.some.inj H
  go_enter Try.func73, Try.ntmps73
  go_wp2
  go_ret
  exact ⟨cs_, cD_⟩
 rw [if_neg c3] at H
 have c3b0 : decide (a0 < a1) = false := decide_eq_false c3
 clear c3
 obtain rfl := Option.some.inj H
 go_enter Try.func73, Try.ntmps73
 go_wp2
 go_ret
 exact ⟨cs_, cD_⟩

end Go.Proofs.Yteibdjkfkcckkaa.PFnFeeds
