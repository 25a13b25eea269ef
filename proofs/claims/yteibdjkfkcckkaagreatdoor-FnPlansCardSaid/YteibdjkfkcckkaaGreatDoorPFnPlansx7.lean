-- Written by fprint, a program of this session, out of Lean's own print of the translation. Lean checks it.
import Derived.Test.YteibdjkfkcckkaaGreatDoorDense
import Derived.Test.YteibdjkfkcckkaaGreatDoorPFnPlansx0
import Derived.Test.YteibdjkfkcckkaaGreatDoorPFnPlansx1
import Derived.Test.YteibdjkfkcckkaaGreatDoorPFnPlansx5
import Derived.Test.YteibdjkfkcckkaaGreatDoorPFnPlansx6
namespace Go.Proofs.YteibdjkfkcckkaaGreatDoor.PFnPlans
open Go.RowKit Go.Proofs.YteibdjkfkcckkaaGreatDoorW.PrintWords Go.Proofs.YteibdjkfkcckkaaGreatDoorW.PrintLast Go.Proofs.YteibdjkfkcckkaaGreatDoorW.PrintMore
attribute [local go_sem] max2_int min2_int max_two min_two max_three min_three max_four min_four
set_option linter.unusedVariables false
set_option maxHeartbeats 8000000
set_option maxRecDepth 100000
set_option linter.unusedSimpArgs false

theorem c7I0_ {p : Prop} (h : p := by repeat (first | (with_reducible first | exact HI0.out | apply IsS57.alloc | apply IsS57.drewN | apply IsS57.drew | apply IsS57.set_1) | exact HI0.out)) : p := h
theorem b7_0 {p : Prop} (h : p := by exact cK_ HK.out) : p := h
theorem b7_1 {p : Prop} (h : p := by exact cS_ HO_3.out) : p := h
theorem b7_2 {p : Prop} (h : p := by exact cB1_ (IsS57.ge HI0.out)) : p := h
theorem b7_3 {p : Prop} (h : p := by exact cI_ HI0.out) : p := h
theorem b7_5 {p : Prop} (h : p := by exact Kd.C_foot_own ((Kd.S_R (IsS57.apartS (show IsS57 w0 _ g s0_0 x1001_2 from c7I0_) b7_1 (by decide)))) (fun _ h_ => h_.2)) : p := h
theorem q7_0 {p : Prop} (h : p := by have := HJ3.out; have := HK2.out; have := HJ15.out; omega) : p := h
/-! ### spec_l3Draw: function 30 -/
mutual
def spec_l3Draw.j0 : Nat → List (S36) → List Int → Int → Option ((List (S36)) × Int)
 | 0, _, _, _ => none
 | k + 1, x3, x1000, x1001 => (spec_l1Next.f x1000 x1001 6).bind fun bt184 => (spec_l3Draw.l0 k x3 bt184.1 x1000 bt184.2)
def spec_l3Draw.l0 : Nat → List (S36) → Int → List Int → Int → Option ((List (S36)) × Int)
 | 0, _, _, _, _ => none
 | k + 1, x3, x4, x1000, x1001 => if x4 > 0 then (spec_l3Draw.j2 k x3 x4 (decide ((x3.length : Int) < 7)) x1000 x1001) else (spec_l3Draw.j2 k x3 x4 false x1000 x1001)
def spec_l3Draw.j2 : Nat → List (S36) → Int → Bool → List Int → Int → Option ((List (S36)) × Int)
 | 0, _, _, _, _, _ => none
 | k + 1, x3, x4, x28, x1000, x1001 => if x28 = true then ((list_copy.f x3).bind fun t189 => ((spec_l3Grow.f k x1000 x1001 x3).bind fun bt192 => (if t189.length < 1954687338268 then ((some (t189 ++ [(⟨bt192.1, bt192.2.1, bt192.2.2.1, bt192.2.2.2.1, bt192.2.2.2.2.1, bt192.2.2.2.2.2.1, bt192.2.2.2.2.2.2.1⟩ : S36)] : List (S36))).bind fun y202 => (if 0 ≤ (wrap64 ((y202.length : Int) - 1)) then (if (wrap64 ((y202.length : Int) - 1)) < (y202.length : Int) then (if ((rd_T36 y202 (wrap64 ((y202.length : Int) - 1))).f0) = 12 then (spec_l3Draw.l0 k x3 (wrap64 (x4 - 1)) x1000 bt192.2.2.2.2.2.2.2) else ((spec_PlanFault.f k y202).bind fun t206 => (if t206 = 0 then (spec_l3Draw.l0 k y202 (wrap64 (x4 - 1)) x1000 bt192.2.2.2.2.2.2.2) else (spec_l3Draw.l0 k x3 (wrap64 (x4 - 1)) x1000 bt192.2.2.2.2.2.2.2)))) else (none)) else (none))) else (none)))) else (if x3.length < 1954687338268 then (some ((x3 ++ [(⟨12, wrap64 ((x3.length : Int) - 1), 0, 0, 0, 0, ([] : List Int)⟩ : S36)]), x1001)) else (none))
end
def spec_l3Draw.f (k : Nat) (s0_0 : List Int) (s0_1 : Int) : Option ((List (S36)) × Int) := (spec_l1Next.f s0_0 s0_1 2).bind fun bt172 => ((some (([(⟨1, 0, 0, wrap64 (1 + bt172.1), 0, 0, ([] : List Int)⟩ : S36)] : List (S36)) : List (S36))).bind fun y174 => ((spec_l1Chance.f s0_0 bt172.2 2).bind fun bt177 => (if bt177.1 = true then ((spec_l1Next.f s0_0 bt177.2 2).bind fun bt179 => (if y174.length < 1954687338268 then (spec_l3Draw.j0 k (y174 ++ [(⟨1, 0, 0, wrap64 (1 + bt179.1), 0, 0, ([] : List Int)⟩ : S36)]) s0_0 bt179.2) else (none))) else (spec_l3Draw.j0 k y174 s0_0 bt177.2))))
theorem spec_l3Draw.mono_l : ∀ k, (∀ y0 y1 y2, LeO (spec_l3Draw.j0 k y0 y1 y2) (spec_l3Draw.j0 (k + 1) y0 y1 y2)) ∧ (∀ y0 y1 y2 y3, LeO (spec_l3Draw.l0 k y0 y1 y2 y3) (spec_l3Draw.l0 (k + 1) y0 y1 y2 y3)) ∧ (∀ y0 y1 y2 y3 y4, LeO (spec_l3Draw.j2 k y0 y1 y2 y3 y4) (spec_l3Draw.j2 (k + 1) y0 y1 y2 y3 y4))
 | 0 => ⟨fun _ _ _ r h => by simp [spec_l3Draw.j0] at h, fun _ _ _ _ r h => by simp [spec_l3Draw.l0] at h, fun _ _ _ _ _ r h => by simp [spec_l3Draw.j2] at h⟩
 | k + 1 => by
  obtain ⟨ih0, ih1, ih2⟩ := spec_l3Draw.mono_l k
  refine ⟨?_, ?_, ?_⟩
  ·intro y0 y1 y2
   unfold spec_l3Draw.j0
   repeat' first
   | (with_reducible exact ih0 _ _ _)
   | (with_reducible exact ih1 _ _ _ _)
   | (with_reducible exact ih2 _ _ _ _ _)
   | (with_reducible exact spec_PlanFault.mono _ _)
   | (with_reducible exact spec_l3Grow.mono _ _ _ _)
   | (with_reducible exact LeO.refl _)
   | (with_reducible exact LeO.none _)
   | (with_reducible refine LeO.ite ?_ ?_)
   | (with_reducible refine LeO.bind ?_ (fun _ => ?_))
   | refine LeO.ite ?_ ?_
   | refine LeO.bind ?_ (fun _ => ?_)
  ·intro y0 y1 y2 y3
   unfold spec_l3Draw.l0
   repeat' first
   | (with_reducible exact ih0 _ _ _)
   | (with_reducible exact ih1 _ _ _ _)
   | (with_reducible exact ih2 _ _ _ _ _)
   | (with_reducible exact spec_PlanFault.mono _ _)
   | (with_reducible exact spec_l3Grow.mono _ _ _ _)
   | (with_reducible exact LeO.refl _)
   | (with_reducible exact LeO.none _)
   | (with_reducible refine LeO.ite ?_ ?_)
   | (with_reducible refine LeO.bind ?_ (fun _ => ?_))
   | refine LeO.ite ?_ ?_
   | refine LeO.bind ?_ (fun _ => ?_)
  ·intro y0 y1 y2 y3 y4
   unfold spec_l3Draw.j2
   repeat' first
   | (with_reducible exact ih0 _ _ _)
   | (with_reducible exact ih1 _ _ _ _)
   | (with_reducible exact ih2 _ _ _ _ _)
   | (with_reducible exact spec_PlanFault.mono _ _)
   | (with_reducible exact spec_l3Grow.mono _ _ _ _)
   | (with_reducible exact LeO.refl _)
   | (with_reducible exact LeO.none _)
   | (with_reducible refine LeO.ite ?_ ?_)
   | (with_reducible refine LeO.bind ?_ (fun _ => ?_))
   | refine LeO.ite ?_ ?_
   | refine LeO.bind ?_ (fun _ => ?_)
theorem spec_l3Draw.mono : ∀ a0 a1 k, LeO (spec_l3Draw.f k a0 a1) (spec_l3Draw.f (k + 1) a0 a1) := by
 intro a0 a1 k
 obtain ⟨ih0, ih1, ih2⟩ := spec_l3Draw.mono_l k
 unfold spec_l3Draw.f
 repeat' first
   | (with_reducible exact ih0 _ _ _)
   | (with_reducible exact ih1 _ _ _ _)
   | (with_reducible exact ih2 _ _ _ _ _)
   | (with_reducible exact spec_PlanFault.mono _ _)
   | (with_reducible exact spec_l3Grow.mono _ _ _ _)
   | (with_reducible exact LeO.refl _)
   | (with_reducible exact LeO.none _)
   | (with_reducible refine LeO.ite ?_ ?_)
   | (with_reducible refine LeO.bind ?_ (fun _ => ?_))
   | refine LeO.ite ?_ ?_
   | refine LeO.bind ?_ (fun _ => ?_)
theorem spec_l3Draw.calls (k : Nat) (g : Nat) (s0_0 : List Int) (s0_1 : Int) (r1 : List (S36)) (r2 : Int) (w0 w : World) (hI : IsS57 w0 w g s0_0 s0_1) (hB : Below w0.heap.size w0 w) (h : spec_l3Draw.f k s0_0 s0_1 = some (r1, r2)) :
  Calls Tryz.prog 30 #[.pointer (some ⟨g, 0, none⟩)] w fun e w' => ∃ v0_ : Value, e = .returned (v0_) ∧ Kd.S k36 36 w' w.heap.size (fun _ => True) v0_ r1 ∧ IsS57 w0 w' g s0_0 r2 ∧ Below w0.heap.size w0 w' ∧ KeepBut w w' g none := by
 have hu36 := Tryz.underlying36
 have HI0 := Aside0.mk hI
 have HK := Aside0.mk (KeepBut.refl w g none)
 have HL := Aside0.mk hB.size
 clear hI
 have HW0 := Aside0.mk hB.size
 have HB := Aside0.mk hB
 clear hB
 have H : ((spec_l1Next.f s0_0 s0_1 2).bind fun bt172 => ((some (([(⟨1, 0, 0, wrap64 (1 + bt172.1), 0, 0, ([] : List Int)⟩ : S36)] : List (S36)) : List (S36))).bind fun y174 => ((spec_l1Chance.f s0_0 bt172.2 2).bind fun bt177 => (if bt177.1 = true then ((spec_l1Next.f s0_0 bt177.2 2).bind fun bt179 => (if y174.length < 1954687338268 then (spec_l3Draw.j0 k (y174 ++ [(⟨1, 0, 0, wrap64 (1 + bt179.1), 0, 0, ([] : List Int)⟩ : S36)]) s0_0 bt179.2) else (none))) else (spec_l3Draw.j0 k y174 s0_0 bt177.2))))) = some (r1, r2) := h
 clear h
 obtain ⟨⟨t172, t173⟩, A2, H⟩ := bnd_ H
 try dsimp only at H
 obtain ⟨y174, hy_⟩ : ∃ y_ : List (S36), y_ = (([(⟨1, 0, 0, wrap64 (1 + t172), 0, 0, ([] : List Int)⟩ : S36)] : List (S36))) := ⟨_, rfl⟩
 replace H : ((spec_l1Chance.f s0_0 t173 2).bind fun bt177 => (if bt177.1 = true then ((spec_l1Next.f s0_0 bt177.2 2).bind fun bt179 => (if y174.length < 1954687338268 then (spec_l3Draw.j0 k (y174 ++ [(⟨1, 0, 0, wrap64 (1 + bt179.1), 0, 0, ([] : List Int)⟩ : S36)]) s0_0 bt179.2) else (none))) else (spec_l3Draw.j0 k y174 s0_0 bt177.2))) = some (r1, r2) := yb_
 have Ny174 := Aside0.mk hy_
 clear hy_
 obtain ⟨⟨t177, t178⟩, A3, H⟩ := bnd_ H
 try dsimp only at H
 have HC4 := Aside0.mk H
 clear H
 go_enter Tryz.func30, Tryz.ntmps30
 go_upto_if 12 with (first | (refine gl_ 31 (some 7) Tryz.func31 #[.pointer (some ⟨g, 0, none⟩), .int .i64 2] ?_; (with_reducible refine (spec_l1Next.calls g s0_0 s0_1 2 t172 t173 w0 _ ?side1 ?side2 A2.out).mono ?_); (case side1 => exact cI_ HI0.out); (case side2 => exact cB1_ (IsS57.ge HI0.out)); rintro e w5 ⟨rfl, hi, hb, hk⟩; refine ⟨_, rfl, ?_⟩; replace HK := Aside0.mk (KeepBut.trans b7_0 hk (.inl rfl)); replace HB := Aside0.mk (hb); replace HI0 := Aside0.mk (hi); (try clear hb); (try clear hk); (try clear hi)) | ((with_reducible refine gate_dst (N := 10) rfl ?_); (try (refine gate_guard (by rfl) ?_; dsimp only)); refine Kd.S_lit k36 _ 36 ?hg (N := 10) ?hd (xs := ([(⟨1, 0, 0, wrap64 (1 + t172), 0, 0, ([] : List Int)⟩ : S36)] : List (S36))) (inner := [.int .i64 1, .int .i64 0, .int .i64 0, .int .i64 (wrap64 (1 + t172)), .int .i64 0, .int .i64 0, .slice none 0 0]) (ok := fun _ => True) (okp := fun _ => True) ?hr ?hp (fun _ hk => hk) trivial (Below.refl _ _) (Nat.le_refl _) (by simp) ?_; (case hd => rfl); (case hg => rfl); (case hr => first | (go_simp; done) | (go_simp; rfl)); (case hp => exact (Reps.c7 (show Kd.M k36 _ _ _ (⟨1, 0, 0, wrap64 (1 + t172), 0, 0, ([] : List Int)⟩ : S36) [.int .i64 1, .int .i64 0, .int .i64 0, .int .i64 (wrap64 (1 + t172)), .int .i64 0, .int .i64 0, .slice none 0 0] from (k36_mkM _ _ _ (⟨1, 0, 0, wrap64 (1 + t172), 0, 0, ([] : List Int)⟩ : S36) (Kd.R_nil _ _ _ _ _))) (Reps.none _ _))); intro v175 w6 ho7 hb hg_ hnew_; clear hg_ hnew_; (first | rw [← Ny174.out] at ho7 | (simp only [Int.reduceToNat] at ho7; rw [← Ny174.out] at ho7)); have HO176 := Aside0.mk (Kd.S_lower ho7 (keep_size (w := w) (g := g) (row := none) b7_0)); replace HK := Aside0.mk (KeepBut.trans b7_0 (KeepBut.of_below hb g none) (.inl rfl)); replace HB := Aside0.mk (below_step b7_2 hb); replace HI0 := Aside0.mk (IsS57.below b7_3 hb); clear hb ho7) | (refine gl_ 61 (some 12) Tryz.func61 #[.pointer (some ⟨g, 0, none⟩), .int .i64 2] ?_; (with_reducible refine (spec_l1Chance.calls g s0_0 t173 2 t177 t178 w0 _ ?side1 ?side2 A3.out).mono ?_); (case side1 => exact cI_ HI0.out); (case side2 => exact cB1_ (IsS57.ge HI0.out)); rintro e w8 ⟨rfl, hi, hb, hk⟩; refine ⟨_, rfl, ?_⟩; replace HO176 := Aside0.mk (Kd.S_mono (Kd.S_keep (IsS57.apartS (show IsS57 w0 _ g s0_0 t173 from c7I0_) (cS_ HO176.out) (by decide)) hk (fun _ h => h.2)) (fun _ h => h.1)); replace HK := Aside0.mk (KeepBut.trans b7_0 hk (.inl rfl)); replace HB := Aside0.mk (hb); replace HI0 := Aside0.mk (hi); (try clear hb); (try clear hk); (try clear hi)))
 (try simp only [Act.put, List.setIfInBounds_toArray, List.set_cons_zero, List.set_cons_succ])
 go_cut [3] (fun v3 wc => ∃ (kq : Nat) (x3_3 : List (S36)) (x1001_3 : Int), Aside0 (spec_l3Draw.j0 kq x3_3 s0_0 x1001_3 = some (r1, r2)) ∧ Aside0 (kq ≤ k) ∧ Aside0 (Kd.S k36 36 wc w.heap.size (fun _ => True) v3 x3_3) ∧ Aside0 (IsS57 w0 wc g s0_0 x1001_3) ∧ Aside0 (KeepBut w wc g none) ∧ Aside0 (Below w0.heap.size w0 wc))
 case first =>
  have H := HC4.out
  clear HC4
  by_cases c9 : t177 = true
  ·subst c9
   rw [if_pos rfl] at H
   obtain ⟨⟨t179, t180⟩, A10, H⟩ := bnd_ H
   try dsimp only at H
   by_cases c11 : y174.length < 1954687338268
   ·rw [if_pos c11] at H
    have LMc11 := Aside0.mk c11
    clear c11
    obtain ⟨y181, hy_⟩ : ∃ y_ : List (S36), y_ = (y174 ++ [(⟨1, 0, 0, wrap64 (1 + t179), 0, 0, ([] : List Int)⟩ : S36)]) := ⟨_, rfl⟩
    replace H : (spec_l3Draw.j0 k y181 s0_0 t180) = some (r1, r2) := yb_
    have Ny181 := Aside0.mk hy_
    clear hy_
    have H' := Aside0.mk H
    clear H
    go_wp2_with (first | (refine gl_ 31 (some 15) Tryz.func31 #[.pointer (some ⟨g, 0, none⟩), .int .i64 2] ?_; (with_reducible refine (spec_l1Next.calls g s0_0 t178 2 t179 t180 w0 _ ?side1 ?side2 A10.out).mono ?_); (case side1 => exact cI_ HI0.out); (case side2 => exact cB1_ (IsS57.ge HI0.out)); rintro e w12 ⟨rfl, hi, hb, hk⟩; refine ⟨_, rfl, ?_⟩; replace HO176 := Aside0.mk (Kd.S_mono (Kd.S_keep (IsS57.apartS (show IsS57 w0 _ g s0_0 t178 from c7I0_) (cS_ HO176.out) (by decide)) hk (fun _ h => h.2)) (fun _ h => h.1)); replace HK := Aside0.mk (KeepBut.trans b7_0 hk (.inl rfl)); replace HB := Aside0.mk (hb); replace HI0 := Aside0.mk (hi); (try clear hb); (try clear hk); (try clear hi)) | ((with_reducible refine gate_builtin (b := .append) (xs := #[.tmp 13, .tmp 18]) rfl ?_); (try (refine gate_guard (by rfl) ?_; dsimp only)); at_builtin; refine Kd.S_append k36 w.heap.size rfl (.tmp 13) (.tmp 18) 24 36 (.agg #[(.int .i64 0), (.int .i64 0), (.int .i64 0), (.int .i64 0), (.int .i64 0), (.int .i64 0), (.slice none 0 0)]) 72 rfl Tryz.underlying24 info36 rfl (by decide) (by omega) v175 y174 (⟨1, 0, 0, wrap64 (1 + t179), 0, 0, ([] : List Int)⟩ : S36) [.int .i64 1, .int .i64 0, .int .i64 0, .int .i64 (wrap64 (1 + t179)), .int .i64 0, .int .i64 0, .slice none 0 0] (fun _ => True) (fun _ => False) rfl rfl ?aP (fun k_ hk_ => hk_.elim) ?aF ?aO (Below.refl _ _) ?aS ?aL ?_; (case aP => exact k36_mkM _ _ _ (⟨1, 0, 0, wrap64 (1 + t179), 0, 0, ([] : List Int)⟩ : S36) (Kd.R_nil _ _ _ _ _)); (case aF => exact (fun _ _ => trivial)); (case aO => exact (by exact (by refine cS_ ?_; exact Kd.S_mono HO176.out (fun k_ hk => ⟨trivial, fun e_ => e_⟩)))); (case aS => exact (by exact (keep_size (w := w) (g := g) (row := none) b7_0))); (case aL => exact co_ LMc11.out); intro v182 w13 ho hb hg hat; rw [← Ny181.out] at ho; replace HB := Aside0.mk (below_weaken b7_2 HL.out hb); replace HI0 := Aside0.mk (IsS57.grown b7_3 hg (IsS57.own_neS HI0.out HO176.out (by decide))); replace HK := Aside0.mk (KeepBut.trans b7_0 (KeepBut.of_grown hg g) (Kd.S_base2 HO176.out)); have HO183 := Aside0.mk (ho); clear HO176; clear ho hb hg hat))
    go_meet
    case rel => exact ⟨_, (y181), (t180), H', ⟨cm_⟩, ⟨cS_ HO183.out⟩, ⟨cI_ HI0.out⟩, ⟨cK_ HK.out⟩, ⟨cB1_ (IsS57.ge HI0.out)⟩⟩
   ·rw [if_neg c11] at H
    exact absurd H (by simp)
  ·replace c9 := Bool.eq_false_iff.mpr c9
   subst c9
   rw [if_neg (show ¬ (false = true) by decide)] at H
   have H' := Aside0.mk H
   clear H
   go_wp2
   go_meet
   case rel => exact ⟨_, (y174), (t178), H', ⟨cm_⟩, ⟨cS_ HO176.out⟩, ⟨cI_ HI0.out⟩, ⟨cK_ HK.out⟩, ⟨cB1_ (IsS57.ge HI0.out)⟩⟩
 case rest =>
  clear HC4
  obtain ⟨kq, x3_3, x1001_3, HA, HJ3, HO_3, HI0, HK, HB⟩ := hcut
  cases kq with
  | zero => exact absurd HA.out (by simp [spec_l3Draw.j0])
  | succ kj3 =>
   have H := HA.out
   clear HA
   simp only [spec_l3Draw.j0] at H
   obtain ⟨⟨t184, t185⟩, A14, H⟩ := bnd_ H
   try dsimp only at H
   have H' := Aside0.mk H
   clear H
   go_wp2_with (first | (refine gl_ 31 (some 21) Tryz.func31 #[.pointer (some ⟨g, 0, none⟩), .int .i64 6] ?_; (with_reducible refine (spec_l1Next.calls g s0_0 x1001_3 6 t184 t185 w0 _ ?side1 ?side2 A14.out).mono ?_); (case side1 => exact cI_ HI0.out); (case side2 => exact cB1_ (IsS57.ge HI0.out)); rintro e w15 ⟨rfl, hi, hb, hk⟩; refine ⟨_, rfl, ?_⟩; replace HO_3 := Aside0.mk (Kd.S_mono (Kd.S_keep (IsS57.apartS (show IsS57 w0 _ g s0_0 x1001_3 from c7I0_) b7_1 (by decide)) hk (fun _ h => h.2)) (fun _ h => h.1)); replace HK := Aside0.mk (KeepBut.trans b7_0 hk (.inl rfl)); replace HB := Aside0.mk (hb); replace HI0 := Aside0.mk (hi); (try clear hb); (try clear hk); (try clear hi)))
   go_loopg [3, 4] kj3 (fun kq v3 v4 w' => ∃ (x3_2 : List (S36)) (x4_2 : Int) (x1001_2 : Int), v4 = .int .i64 x4_2 ∧ Aside0 (spec_l3Draw.l0 kq x3_2 x4_2 s0_0 x1001_2 = some (r1, r2)) ∧ Aside0 (kq ≤ kj3) ∧ Aside0 (Kd.S k36 36 w' w.heap.size (fun _ => True) v3 x3_2) ∧ Aside0 (IsS57 w0 w' g s0_0 x1001_2) ∧ Aside0 (KeepBut w w' g none) ∧ Aside0 (Below w0.heap.size w0 w'))
   case atStart => exact ⟨(x3_3), (t184), (t185), cs_, H', ⟨Nat.le_refl _⟩, ⟨cS_ HO_3.out⟩, ⟨cI_ HI0.out⟩, ⟨cK_ HK.out⟩, ⟨cB1_ (IsS57.ge HI0.out)⟩⟩
   case round =>
    clear H'
    obtain ⟨x3_2, x4_2, x1001_2, rfl, HA, HK2, HO_3, HI0, HK, HB⟩ := hrel
    cases gk with
    | zero => exact absurd HA.out (by simp [spec_l3Draw.l0])
    | succ k2 =>
     have H := HA.out
     clear HA
     simp only [spec_l3Draw.l0] at H
     have HC16 := Aside0.mk H
     clear H
     go_upto_region 5 with (fail)
     go_cut [28] (fun v28 wc => ∃ (kq : Nat) (x28_15 : Bool), v28 = .bool x28_15 ∧ Aside0 (spec_l3Draw.j2 kq x3_2 x4_2 x28_15 s0_0 x1001_2 = some (r1, r2)) ∧ Aside0 (kq ≤ k2) ∧ Aside0 (Kd.S k36 36 wc w.heap.size (fun _ => True) u3 x3_2) ∧ Aside0 (IsS57 w0 wc g s0_0 x1001_2) ∧ Aside0 (KeepBut w wc g none) ∧ Aside0 (Below w0.heap.size w0 wc))
     case first =>
      have H := HC16.out
      clear HC16
      by_cases c17 : x4_2 > 0
      ·rw [if_pos c17] at H
       have c17b0 : decide (0 < x4_2) = true := decide_eq_true c17
       clear c17
       (first | rw [c17b0] | (simp only [i64_w, i32_w]; rw [c17b0]) | skip)
       have H' := Aside0.mk H
       clear H
       obtain ⟨Ao18, co18, eo18⟩ := Kd.S_slice HO_3.out
       subst eo18
       go_wp2
       go_meet
       case rel => exact ⟨_, (decide ((x3_2.length : Int) < 7)), cs_, H', ⟨by have := HJ3.out; have := HK2.out; first | omega | exact Nat.le_refl _⟩, ⟨cS_ HO_3.out⟩, ⟨cI_ HI0.out⟩, ⟨cK_ HK.out⟩, ⟨cB1_ (IsS57.ge HI0.out)⟩⟩
      ·rw [if_neg c17] at H
       have c17b0 : decide (0 < x4_2) = false := decide_eq_false c17
       clear c17
       (first | rw [c17b0] | (simp only [i64_w, i32_w]; rw [c17b0]) | skip)
       have H' := Aside0.mk H
       clear H
       go_wp2
       go_meet
       case rel => exact ⟨_, (false), cs_, H', ⟨by have := HJ3.out; have := HK2.out; first | omega | exact Nat.le_refl _⟩, ⟨cS_ HO_3.out⟩, ⟨cI_ HI0.out⟩, ⟨cK_ HK.out⟩, ⟨cB1_ (IsS57.ge HI0.out)⟩⟩
     case rest =>
      clear HC16
      obtain ⟨kq, x28_15, rfl, HA, HJ15, HO_3, HI0, HK, HB⟩ := hcut
      cases kq with
      | zero => exact absurd HA.out (by simp [spec_l3Draw.j2])
      | succ kj15 =>
       have H := HA.out
       clear HA
       simp only [spec_l3Draw.j2] at H
       by_cases c19 : x28_15 = true
       ·subst c19
        rw [if_pos rfl] at H
        obtain ⟨t189, A20, H⟩ := bnd_ H
        try dsimp only at H
        obtain ⟨⟨t192, t193, t194, t195, t196, t197, t198, t201⟩, A21, H⟩ := bnd_ H
        try dsimp only at H
        by_cases c22 : t189.length < 1954687338268
        ·rw [if_pos c22] at H
         have LMc22 := Aside0.mk c22
         clear c22
         obtain ⟨y202, hy_⟩ : ∃ y_ : List (S36), y_ = (t189 ++ [(⟨t192, t193, t194, t195, t196, t197, t198⟩ : S36)]) := ⟨_, rfl⟩
         replace H : (if 0 ≤ (wrap64 ((y202.length : Int) - 1)) then (if (wrap64 ((y202.length : Int) - 1)) < (y202.length : Int) then (if ((rd_T36 y202 (wrap64 ((y202.length : Int) - 1))).f0) = 12 then (spec_l3Draw.l0 kj15 x3_2 (wrap64 (x4_2 - 1)) s0_0 t201) else ((spec_PlanFault.f kj15 y202).bind fun t206 => (if t206 = 0 then (spec_l3Draw.l0 kj15 y202 (wrap64 (x4_2 - 1)) s0_0 t201) else (spec_l3Draw.l0 kj15 x3_2 (wrap64 (x4_2 - 1)) s0_0 t201)))) else (none)) else (none)) = some (r1, r2) := yb_
         have Ny202 := Aside0.mk hy_
         clear hy_
         obtain ⟨ji23, hji23⟩ : ∃ j_ : Int, (wrap64 ((y202.length : Int) - 1)) = j_ := ⟨_, rfl⟩
         replace H : (if 0 ≤ (ji23) then (if (ji23) < (y202.length : Int) then (if ((rd_T36 y202 (ji23)).f0) = 12 then (spec_l3Draw.l0 kj15 x3_2 (wrap64 (x4_2 - 1)) s0_0 t201) else ((spec_PlanFault.f kj15 y202).bind fun t206 => (if t206 = 0 then (spec_l3Draw.l0 kj15 y202 (wrap64 (x4_2 - 1)) s0_0 t201) else (spec_l3Draw.l0 kj15 x3_2 (wrap64 (x4_2 - 1)) s0_0 t201)))) else (none)) else (none)) = some (r1, r2) := by first | (rw [hji23] at H; exact H) | (simp only [hji23] at H ⊢; exact H)
         (try rw [hji23] at A20)
         (try rw [hji23] at A21)
         have hji23w : (IntKind.i64.wrap ((y202.length : Int) - 1)) = ji23 := (i64_w _).trans hji23
         by_cases c24 : 0 ≤ (ji23)
         ·rw [if_pos c24] at H
          have c24b0 := decide_eq_true c24
          clear c24
          by_cases c25 : (ji23) < (y202.length : Int)
          ·rw [if_pos c25] at H
           have c25b0 := decide_eq_true c25
           clear c25
           by_cases c26 : ((rd_T36 y202 (ji23)).f0) = 12
           ·rw [if_pos c26] at H
            have c26b0 : (((rd_T36 y202 (ji23)).f0) == 12) = true := beq_iff_eq.mpr c26
            have c26b1 : (((rd_T36 y202 (ji23)).f0) != 12) = false := bne_eq_false_iff_eq.mpr c26
            clear c26
            have H' := Aside0.mk H
            clear H
            obtain ⟨Ao27, co27, eo27⟩ := Kd.S_slice HO_3.out
            subst eo27
            go_wp2_with (first | ((with_reducible refine gate_dst (N := 31) rfl ?_); (try (refine gate_guard (by rfl) ?_; dsimp only)); refine Kd.S_lit k36 _ 36 ?hg (N := 31) ?hd (xs := ([] : List (S36))) (inner := []) (ok := fun _ => True) (okp := fun _ => True) ?hr ?hp (fun _ hk => hk) trivial (Below.refl _ _) (Nat.le_refl _) (by simp) ?_; (case hd => rfl); (case hg => rfl); (case hr => first | (go_simp; done) | (go_simp; rfl)); (case hp => exact (Reps.none _ _)); intro v27 w27 ho28 hb28 hg_ hnew_; clear hg_ hnew_; have HE := Aside0.mk (And.intro ho28 hb28); clear ho28 hb28) | ((with_reducible refine gate_builtin (b := .append) (xs := #[.tmp 31, .tmp 32]) rfl ?_); (try (refine gate_guard (by rfl) ?_; dsimp only)); at_builtin; have et_ := A20.out; simp only [list_copy.f, Option.ite_none_right_eq_some, Option.some.injEq] at et_; obtain ⟨lt_, et_⟩ := et_; refine Kd.S_append_copy k36 w.heap.size rfl (.tmp 31) (.tmp 32) 24 36 (.agg #[(.int .i64 0), (.int .i64 0), (.int .i64 0), (.int .i64 0), (.int .i64 0), (.int .i64 0), (.slice none 0 0)]) 72 rfl Tryz.underlying24 info36 rfl (by decide) (by omega) (by decide) v27 x3_2 t189 et_ Ao27 co27 rfl rfl HE.out.1 (keep_size (w := w) (g := g) (row := none) HK.out) (Kd.S_below HO_3.out HE.out.2) (Kd.S_lt HO_3.out) (Nat.le_trans (keep_size (w := w) (g := g) (row := none) HK.out) HE.out.2.size) (by omega) ?_; intro v190 w28 ho0 hg_ hat_; have hb := Below.grown HE.out.2 hg_ HE.out.2.size (Kd.S_base HE.out.1); have hbase_ := own_new_ HE.out.2 (Kd.S_base HE.out.1) hat_; clear hg_ hat_ HE; clear et_ lt_; have n0_ := Aside0.mk (Kd.S_elder' HO_3.out hbase_ hb); have n1_ := Aside0.mk ho0; have n2_ := Aside0.mk (IsS57.below b7_3 hb); have n3_ := Aside0.mk (KeepBut.trans b7_0 (KeepBut.of_below hb g none) (.inl rfl)); have n4_ := Aside0.mk (below_step b7_2 hb); clear HO_3; clear HI0; clear HK; clear HB; have HO_3 := n0_; have HO191 := n1_; have HI0 := n2_; have HK := n3_; have HB := n4_; clear n0_ n1_ n2_ n3_ n4_ hbase_; (try clear hb); (try clear ho0)) | (refine gl_ 62 (some 36) Tryz.func62 #[.pointer (some ⟨g, 0, none⟩), .slice Ao27 x3_2.length co27] ?_; (with_reducible refine (spec_l3Grow.calls kj15 g s0_0 x1001_2 _ _ x3_2 t192 t193 t194 t195 t196 t197 t198 t201 w0 _ ?side1 ?side2 ?side3 ?side4 A21.out).mono ?_); (case side1 => exact cI_ HI0.out); (case side2 => exact cB1_ (IsS57.ge HI0.out)); (case side3 => exact b7_5); (case side4 => exact (Kd.S_reads' HO_3.out).2.1); rintro e w29 ⟨v199, rfl, ho0, hi, hb, hk⟩; refine ⟨_, rfl, ?_⟩; replace HO_3 := Aside0.mk (Kd.S_mono (Kd.S_told (Kd.S_oldK (IsS57.apartS (show IsS57 w0 _ g s0_0 x1001_2 from c7I0_) b7_1 (by decide)) hk) (Kd.R_base ho0)) (fun _ h_ => h_.1)); replace HO191 := Aside0.mk (Kd.S_mono (Kd.S_told (Kd.S_oldK (IsS57.apartS (show IsS57 w0 _ g s0_0 x1001_2 from c7I0_) (cS_ HO191.out) (by decide)) hk) (Kd.R_base ho0)) (fun _ h_ => h_.1)); have HO200 := Aside0.mk (Kd.R_lower ho0 (keep_size (w := w) (g := g) (row := none) b7_0)); replace HK := Aside0.mk (KeepBut.trans b7_0 hk (.inl rfl)); replace HB := Aside0.mk (hb); replace HI0 := Aside0.mk (hi); (try clear hb); (try clear hk); (try clear hi); (try clear ho0); obtain ⟨Ao31, co31, eo31⟩ := Kd.R_slice HO200.out; subst eo31) | ((with_reducible refine gate_builtin (b := .append) (xs := #[.tmp 33, .tmp 37]) rfl ?_); (try (refine gate_guard (by rfl) ?_; dsimp only)); at_builtin; refine Kd.S_append k36 w.heap.size rfl (.tmp 33) (.tmp 37) 24 36 (.agg #[(.int .i64 0), (.int .i64 0), (.int .i64 0), (.int .i64 0), (.int .i64 0), (.int .i64 0), (.slice none 0 0)]) 72 rfl Tryz.underlying24 info36 rfl (by decide) (by omega) v190 t189 (⟨t192, t193, t194, t195, t196, t197, t198⟩ : S36) [.int .i64 t192, .int .i64 t193, .int .i64 t194, .int .i64 t195, .int .i64 t196, .int .i64 t197, .slice Ao31 t198.length co31] (fun k_ => some k_ ≠ (.slice Ao27 x3_2.length co27 : Value).ownBlock) (fun k_ => some k_ = (.slice Ao31 t198.length co31 : Value).ownBlock) rfl rfl ?aP (fun k_ hk_ => ((Kd.R_mono (ok' := fun k_ => ((fun k_ => some k_ ≠ (.slice Ao27 x3_2.length co27 : Value).ownBlock)) k_ ∧ some k_ ≠ (v190 : Value).ownBlock) (Kd.R_apart' (Kd.R_apart' (HO200.out) (Kd.S_typed HO_3.out) (by decide)) (Kd.S_typed HO191.out) (by decide)) (fun k_ hk => ⟨hk.1.2, hk.2⟩))).1 k_ hk_.symm) ?aF ?aO (Below.refl _ _) ?aS ?aL ?_; (case aP => exact (by exact k36_mkM _ _ _ (⟨t192, t193, t194, t195, t196, t197, t198⟩ : S36) (Kd.R_mono (Kd.R_tight rfl (Kd.R_mono (ok' := fun k_ => ((fun k_ => some k_ ≠ (.slice Ao27 x3_2.length co27 : Value).ownBlock)) k_ ∧ some k_ ≠ (v190 : Value).ownBlock) (Kd.R_apart' (Kd.R_apart' (HO200.out) (Kd.S_typed HO_3.out) (by decide)) (Kd.S_typed HO191.out) (by decide)) (fun k_ hk => ⟨hk.1.2, hk.2⟩))) (fun _ h_ => h_)))); (case aF => exact (by exact (fun k_ hk => Kd.fresh' (Kd.S_lt b7_1) k_ hk))); (case aO => exact (by exact (by refine cS_ ?_; exact Kd.S_mono HO191.out (fun k_ hk => ⟨hk.1.2, fun e_ => hk.2 e_⟩)))); (case aS => exact (by exact (keep_size (w := w) (g := g) (row := none) b7_0))); (case aL => exact co_ LMc22.out); intro v203 w30 ho hb hg hat; rw [← Ny202.out] at ho; replace HO_3 := Aside0.mk (Kd.S_after (ok := (fun k_ => some k_ ≠ (.slice Ao31 t198.length co31 : Value).ownBlock)) (by refine cS_ ?_; exact Kd.S_mono HO_3.out (fun _ hk => ⟨hk.2, hk.1.2⟩)) hg hat); replace HB := Aside0.mk (below_weaken b7_2 HL.out hb); replace HI0 := Aside0.mk (IsS57.grown b7_3 hg (IsS57.own_neS HI0.out HO191.out (by decide))); replace HK := Aside0.mk (KeepBut.trans b7_0 (KeepBut.of_grown hg g) (Kd.S_base2 HO191.out)); have HO204 := Aside0.mk (ho); clear HO191; clear HO200; clear ho hb hg hat; obtain ⟨Ao32, co32, eo32⟩ := Kd.S_slice HO204.out; subst eo32; have p205 : 0 ≤ ((ji23) : Int) := cd_; have q205 : (ji23) < (y202.length : Int) := cd_; obtain ⟨ad205, A205_6, c205_6, e205, hx205_0, hx205_1, hx205_2, hx205_3, hx205_4, hx205_5, hx205_6, hl205_6, hi205_6⟩ := at_T36 (Kd.S_reads' HO204.out).2.2 (ji23) p205 q205; cases e205; obtain ⟨ce205, hce205, hMe205, hcc205⟩ := Kd.S_get HO204.out z36 (ji23) p205 (by first | exact q205 | exact of_decide_eq_true ca_ | (have e_ := (Kd.S_reads' HO204.out).1; omega)); obtain ⟨ve205_6, rfl, ge205_6⟩ := k36_openM hMe205; have hv205_6 := hcc205 6 _ rfl; rw [add_field _ _ 6 (by omega)] at hv205_6; replace hv205_6 := Option.some.inj (hv205_6.symm.trans hx205_6); rw [hv205_6] at ge205_6; have HL205_6 := Aside0.mk (show Kd.R (Kd.int .i64) 2 _ _ _ _ ((rd_T36 y202 (ji23)).f6) from ge205_6); clear hv205_6 ge205_6; clear hcc205 hce205; have HR205_6 := Aside0.mk hi205_6; have HC205_6 := Aside0.mk hl205_6; clear hi205_6 hl205_6; replace p205 := eq_true p205; replace q205 := eq_true q205))
            go_roundg kj15
            case measure => have := HJ3.out; have := HK2.out; have := HJ15.out; omega
            case rel => exact ⟨(x3_2), (wrap64 (x4_2 - 1)), (t201), cs_, H', ⟨q7_0⟩, ⟨by refine cS_ ?_; exact Kd.S_mono HO_3.out (fun _ hk => trivial)⟩, ⟨cI_ HI0.out⟩, ⟨cK_ HK.out⟩, ⟨cB1_ (IsS57.ge HI0.out)⟩⟩
           ·rw [if_neg c26] at H
            have c26b0 : (((rd_T36 y202 (ji23)).f0) == 12) = false := beq_eq_false_iff_ne.mpr c26
            have c26b1 : (((rd_T36 y202 (ji23)).f0) != 12) = true := bne_iff_ne.mpr c26
            obtain ⟨t206, A33, H⟩ := bnd_ H
            try dsimp only at H
            by_cases c34 : t206 = 0
            ·rw [if_pos c34] at H
             have c34b0 : (t206 == 0) = true := beq_iff_eq.mpr c34
             have c34b1 : (t206 != 0) = false := bne_eq_false_iff_eq.mpr c34
             clear c34
             have H' := Aside0.mk H
             clear H
             obtain ⟨Ao35, co35, eo35⟩ := Kd.S_slice HO_3.out
             subst eo35
             go_wp2_with (first | ((with_reducible refine gate_dst (N := 31) rfl ?_); (try (refine gate_guard (by rfl) ?_; dsimp only)); refine Kd.S_lit k36 _ 36 ?hg (N := 31) ?hd (xs := ([] : List (S36))) (inner := []) (ok := fun _ => True) (okp := fun _ => True) ?hr ?hp (fun _ hk => hk) trivial (Below.refl _ _) (Nat.le_refl _) (by simp) ?_; (case hd => rfl); (case hg => rfl); (case hr => first | (go_simp; done) | (go_simp; rfl)); (case hp => exact (Reps.none _ _)); intro v27 w27 ho28 hb28 hg_ hnew_; clear hg_ hnew_; have HE := Aside0.mk (And.intro ho28 hb28); clear ho28 hb28) | ((with_reducible refine gate_builtin (b := .append) (xs := #[.tmp 31, .tmp 32]) rfl ?_); (try (refine gate_guard (by rfl) ?_; dsimp only)); at_builtin; have et_ := A20.out; simp only [list_copy.f, Option.ite_none_right_eq_some, Option.some.injEq] at et_; obtain ⟨lt_, et_⟩ := et_; refine Kd.S_append_copy k36 w.heap.size rfl (.tmp 31) (.tmp 32) 24 36 (.agg #[(.int .i64 0), (.int .i64 0), (.int .i64 0), (.int .i64 0), (.int .i64 0), (.int .i64 0), (.slice none 0 0)]) 72 rfl Tryz.underlying24 info36 rfl (by decide) (by omega) (by decide) v27 x3_2 t189 et_ Ao35 co35 rfl rfl HE.out.1 (keep_size (w := w) (g := g) (row := none) HK.out) (Kd.S_below HO_3.out HE.out.2) (Kd.S_lt HO_3.out) (Nat.le_trans (keep_size (w := w) (g := g) (row := none) HK.out) HE.out.2.size) (by omega) ?_; intro v190 w36 ho0 hg_ hat_; have hb := Below.grown HE.out.2 hg_ HE.out.2.size (Kd.S_base HE.out.1); have hbase_ := own_new_ HE.out.2 (Kd.S_base HE.out.1) hat_; clear hg_ hat_ HE; clear et_ lt_; have n0_ := Aside0.mk (Kd.S_elder' HO_3.out hbase_ hb); have n1_ := Aside0.mk ho0; have n2_ := Aside0.mk (IsS57.below b7_3 hb); have n3_ := Aside0.mk (KeepBut.trans b7_0 (KeepBut.of_below hb g none) (.inl rfl)); have n4_ := Aside0.mk (below_step b7_2 hb); clear HO_3; clear HI0; clear HK; clear HB; have HO_3 := n0_; have HO191 := n1_; have HI0 := n2_; have HK := n3_; have HB := n4_; clear n0_ n1_ n2_ n3_ n4_ hbase_; (try clear hb); (try clear ho0)) | (refine gl_ 62 (some 36) Tryz.func62 #[.pointer (some ⟨g, 0, none⟩), .slice Ao35 x3_2.length co35] ?_; (with_reducible refine (spec_l3Grow.calls kj15 g s0_0 x1001_2 _ _ x3_2 t192 t193 t194 t195 t196 t197 t198 t201 w0 _ ?side1 ?side2 ?side3 ?side4 A21.out).mono ?_); (case side1 => exact cI_ HI0.out); (case side2 => exact cB1_ (IsS57.ge HI0.out)); (case side3 => exact b7_5); (case side4 => exact (Kd.S_reads' HO_3.out).2.1); rintro e w37 ⟨v199, rfl, ho0, hi, hb, hk⟩; refine ⟨_, rfl, ?_⟩; replace HO_3 := Aside0.mk (Kd.S_mono (Kd.S_told (Kd.S_oldK (IsS57.apartS (show IsS57 w0 _ g s0_0 x1001_2 from c7I0_) b7_1 (by decide)) hk) (Kd.R_base ho0)) (fun _ h_ => h_.1)); replace HO191 := Aside0.mk (Kd.S_mono (Kd.S_told (Kd.S_oldK (IsS57.apartS (show IsS57 w0 _ g s0_0 x1001_2 from c7I0_) (cS_ HO191.out) (by decide)) hk) (Kd.R_base ho0)) (fun _ h_ => h_.1)); have HO200 := Aside0.mk (Kd.R_lower ho0 (keep_size (w := w) (g := g) (row := none) b7_0)); replace HK := Aside0.mk (KeepBut.trans b7_0 hk (.inl rfl)); replace HB := Aside0.mk (hb); replace HI0 := Aside0.mk (hi); (try clear hb); (try clear hk); (try clear hi); (try clear ho0); obtain ⟨Ao39, co39, eo39⟩ := Kd.R_slice HO200.out; subst eo39) | ((with_reducible refine gate_builtin (b := .append) (xs := #[.tmp 33, .tmp 37]) rfl ?_); (try (refine gate_guard (by rfl) ?_; dsimp only)); at_builtin; refine Kd.S_append k36 w.heap.size rfl (.tmp 33) (.tmp 37) 24 36 (.agg #[(.int .i64 0), (.int .i64 0), (.int .i64 0), (.int .i64 0), (.int .i64 0), (.int .i64 0), (.slice none 0 0)]) 72 rfl Tryz.underlying24 info36 rfl (by decide) (by omega) v190 t189 (⟨t192, t193, t194, t195, t196, t197, t198⟩ : S36) [.int .i64 t192, .int .i64 t193, .int .i64 t194, .int .i64 t195, .int .i64 t196, .int .i64 t197, .slice Ao39 t198.length co39] (fun k_ => some k_ ≠ (.slice Ao35 x3_2.length co35 : Value).ownBlock) (fun k_ => some k_ = (.slice Ao39 t198.length co39 : Value).ownBlock) rfl rfl ?aP (fun k_ hk_ => ((Kd.R_mono (ok' := fun k_ => ((fun k_ => some k_ ≠ (.slice Ao35 x3_2.length co35 : Value).ownBlock)) k_ ∧ some k_ ≠ (v190 : Value).ownBlock) (Kd.R_apart' (Kd.R_apart' (HO200.out) (Kd.S_typed HO_3.out) (by decide)) (Kd.S_typed HO191.out) (by decide)) (fun k_ hk => ⟨hk.1.2, hk.2⟩))).1 k_ hk_.symm) ?aF ?aO (Below.refl _ _) ?aS ?aL ?_; (case aP => exact (by exact k36_mkM _ _ _ (⟨t192, t193, t194, t195, t196, t197, t198⟩ : S36) (Kd.R_mono (Kd.R_tight rfl (Kd.R_mono (ok' := fun k_ => ((fun k_ => some k_ ≠ (.slice Ao35 x3_2.length co35 : Value).ownBlock)) k_ ∧ some k_ ≠ (v190 : Value).ownBlock) (Kd.R_apart' (Kd.R_apart' (HO200.out) (Kd.S_typed HO_3.out) (by decide)) (Kd.S_typed HO191.out) (by decide)) (fun k_ hk => ⟨hk.1.2, hk.2⟩))) (fun _ h_ => h_)))); (case aF => exact (by exact (fun k_ hk => Kd.fresh' (Kd.S_lt b7_1) k_ hk))); (case aO => exact (by exact (by refine cS_ ?_; exact Kd.S_mono HO191.out (fun k_ hk => ⟨hk.1.2, fun e_ => hk.2 e_⟩)))); (case aS => exact (by exact (keep_size (w := w) (g := g) (row := none) b7_0))); (case aL => exact co_ LMc22.out); intro v203 w38 ho hb hg hat; rw [← Ny202.out] at ho; replace HO_3 := Aside0.mk (Kd.S_after (ok := (fun k_ => some k_ ≠ (.slice Ao39 t198.length co39 : Value).ownBlock)) (by refine cS_ ?_; exact Kd.S_mono HO_3.out (fun _ hk => ⟨hk.2, hk.1.2⟩)) hg hat); replace HB := Aside0.mk (below_weaken b7_2 HL.out hb); replace HI0 := Aside0.mk (IsS57.grown b7_3 hg (IsS57.own_neS HI0.out HO191.out (by decide))); replace HK := Aside0.mk (KeepBut.trans b7_0 (KeepBut.of_grown hg g) (Kd.S_base2 HO191.out)); have HO204 := Aside0.mk (ho); clear HO191; clear HO200; clear ho hb hg hat; obtain ⟨Ao40, co40, eo40⟩ := Kd.S_slice HO204.out; subst eo40; have p205 : 0 ≤ ((ji23) : Int) := cd_; have q205 : (ji23) < (y202.length : Int) := cd_; obtain ⟨ad205, A205_6, c205_6, e205, hx205_0, hx205_1, hx205_2, hx205_3, hx205_4, hx205_5, hx205_6, hl205_6, hi205_6⟩ := at_T36 (Kd.S_reads' HO204.out).2.2 (ji23) p205 q205; cases e205; obtain ⟨ce205, hce205, hMe205, hcc205⟩ := Kd.S_get HO204.out z36 (ji23) p205 (by first | exact q205 | exact of_decide_eq_true ca_ | (have e_ := (Kd.S_reads' HO204.out).1; omega)); obtain ⟨ve205_6, rfl, ge205_6⟩ := k36_openM hMe205; have hv205_6 := hcc205 6 _ rfl; rw [add_field _ _ 6 (by omega)] at hv205_6; replace hv205_6 := Option.some.inj (hv205_6.symm.trans hx205_6); rw [hv205_6] at ge205_6; have HL205_6 := Aside0.mk (show Kd.R (Kd.int .i64) 2 _ _ _ _ ((rd_T36 y202 (ji23)).f6) from ge205_6); clear hv205_6 ge205_6; clear hcc205 hce205; have HR205_6 := Aside0.mk hi205_6; have HC205_6 := Aside0.mk hl205_6; clear hi205_6 hl205_6; replace p205 := eq_true p205; replace q205 := eq_true q205) | (go_at_call 8; (with_reducible refine (spec_PlanFault.calls kj15 _ _ y202 t206 _ ?side1 ?side2 A33.out).mono ?_); (case side1 => exact cC_ ((Kd.S_reads' HO204.out).2.2)); (case side2 => exact (Kd.S_reads' HO204.out).2.1); rintro e w41 ⟨rfl, hb⟩; replace HO_3 := Aside0.mk (Kd.S_below b7_1 hb); replace HO204 := Aside0.mk (Kd.S_below (cS_ HO204.out) hb); replace HL205_6 := Aside0.mk (Kd.R_below (cR_ HL205_6.out) hb); replace HR205_6 := Aside0.mk (Kd.C_below (by repeat (first | (with_reducible exact HR205_6.out) | (with_reducible refine Kd.C_alloc ?_ _) | (with_reducible refine Kd.C_drewN ?_ _) | (with_reducible refine Kd.C_drew ?_) | exact HR205_6.out)) hb); replace HK := Aside0.mk (KeepBut.trans b7_0 (KeepBut.of_below hb g none) (.inl rfl)); replace HB := Aside0.mk (below_step b7_2 hb); replace HI0 := Aside0.mk (IsS57.below b7_3 hb); (try clear hb)))
             go_roundg kj15
             case measure => have := HJ3.out; have := HK2.out; have := HJ15.out; omega
             case rel => exact ⟨(y202), (wrap64 (x4_2 - 1)), (t201), cs_, H', ⟨q7_0⟩, ⟨by refine cS_ ?_; exact Kd.S_mono HO204.out (fun _ hk => trivial)⟩, ⟨cI_ HI0.out⟩, ⟨cK_ HK.out⟩, ⟨cB1_ (IsS57.ge HI0.out)⟩⟩
            ·rw [if_neg c34] at H
             have c34b0 : (t206 == 0) = false := beq_eq_false_iff_ne.mpr c34
             have c34b1 : (t206 != 0) = true := bne_iff_ne.mpr c34
             have H' := Aside0.mk H
             clear H
             obtain ⟨Ao42, co42, eo42⟩ := Kd.S_slice HO_3.out
             subst eo42
             go_wp2_with (first | ((with_reducible refine gate_dst (N := 31) rfl ?_); (try (refine gate_guard (by rfl) ?_; dsimp only)); refine Kd.S_lit k36 _ 36 ?hg (N := 31) ?hd (xs := ([] : List (S36))) (inner := []) (ok := fun _ => True) (okp := fun _ => True) ?hr ?hp (fun _ hk => hk) trivial (Below.refl _ _) (Nat.le_refl _) (by simp) ?_; (case hd => rfl); (case hg => rfl); (case hr => first | (go_simp; done) | (go_simp; rfl)); (case hp => exact (Reps.none _ _)); intro v27 w27 ho28 hb28 hg_ hnew_; clear hg_ hnew_; have HE := Aside0.mk (And.intro ho28 hb28); clear ho28 hb28) | ((with_reducible refine gate_builtin (b := .append) (xs := #[.tmp 31, .tmp 32]) rfl ?_); (try (refine gate_guard (by rfl) ?_; dsimp only)); at_builtin; have et_ := A20.out; simp only [list_copy.f, Option.ite_none_right_eq_some, Option.some.injEq] at et_; obtain ⟨lt_, et_⟩ := et_; refine Kd.S_append_copy k36 w.heap.size rfl (.tmp 31) (.tmp 32) 24 36 (.agg #[(.int .i64 0), (.int .i64 0), (.int .i64 0), (.int .i64 0), (.int .i64 0), (.int .i64 0), (.slice none 0 0)]) 72 rfl Tryz.underlying24 info36 rfl (by decide) (by omega) (by decide) v27 x3_2 t189 et_ Ao42 co42 rfl rfl HE.out.1 (keep_size (w := w) (g := g) (row := none) HK.out) (Kd.S_below HO_3.out HE.out.2) (Kd.S_lt HO_3.out) (Nat.le_trans (keep_size (w := w) (g := g) (row := none) HK.out) HE.out.2.size) (by omega) ?_; intro v190 w43 ho0 hg_ hat_; have hb := Below.grown HE.out.2 hg_ HE.out.2.size (Kd.S_base HE.out.1); have hbase_ := own_new_ HE.out.2 (Kd.S_base HE.out.1) hat_; clear hg_ hat_ HE; clear et_ lt_; have n0_ := Aside0.mk (Kd.S_elder' HO_3.out hbase_ hb); have n1_ := Aside0.mk ho0; have n2_ := Aside0.mk (IsS57.below b7_3 hb); have n3_ := Aside0.mk (KeepBut.trans b7_0 (KeepBut.of_below hb g none) (.inl rfl)); have n4_ := Aside0.mk (below_step b7_2 hb); clear HO_3; clear HI0; clear HK; clear HB; have HO_3 := n0_; have HO191 := n1_; have HI0 := n2_; have HK := n3_; have HB := n4_; clear n0_ n1_ n2_ n3_ n4_ hbase_; (try clear hb); (try clear ho0)) | (refine gl_ 62 (some 36) Tryz.func62 #[.pointer (some ⟨g, 0, none⟩), .slice Ao42 x3_2.length co42] ?_; (with_reducible refine (spec_l3Grow.calls kj15 g s0_0 x1001_2 _ _ x3_2 t192 t193 t194 t195 t196 t197 t198 t201 w0 _ ?side1 ?side2 ?side3 ?side4 A21.out).mono ?_); (case side1 => exact cI_ HI0.out); (case side2 => exact cB1_ (IsS57.ge HI0.out)); (case side3 => exact b7_5); (case side4 => exact (Kd.S_reads' HO_3.out).2.1); rintro e w44 ⟨v199, rfl, ho0, hi, hb, hk⟩; refine ⟨_, rfl, ?_⟩; replace HO_3 := Aside0.mk (Kd.S_mono (Kd.S_told (Kd.S_oldK (IsS57.apartS (show IsS57 w0 _ g s0_0 x1001_2 from c7I0_) b7_1 (by decide)) hk) (Kd.R_base ho0)) (fun _ h_ => h_.1)); replace HO191 := Aside0.mk (Kd.S_mono (Kd.S_told (Kd.S_oldK (IsS57.apartS (show IsS57 w0 _ g s0_0 x1001_2 from c7I0_) (cS_ HO191.out) (by decide)) hk) (Kd.R_base ho0)) (fun _ h_ => h_.1)); have HO200 := Aside0.mk (Kd.R_lower ho0 (keep_size (w := w) (g := g) (row := none) b7_0)); replace HK := Aside0.mk (KeepBut.trans b7_0 hk (.inl rfl)); replace HB := Aside0.mk (hb); replace HI0 := Aside0.mk (hi); (try clear hb); (try clear hk); (try clear hi); (try clear ho0); obtain ⟨Ao46, co46, eo46⟩ := Kd.R_slice HO200.out; subst eo46) | ((with_reducible refine gate_builtin (b := .append) (xs := #[.tmp 33, .tmp 37]) rfl ?_); (try (refine gate_guard (by rfl) ?_; dsimp only)); at_builtin; refine Kd.S_append k36 w.heap.size rfl (.tmp 33) (.tmp 37) 24 36 (.agg #[(.int .i64 0), (.int .i64 0), (.int .i64 0), (.int .i64 0), (.int .i64 0), (.int .i64 0), (.slice none 0 0)]) 72 rfl Tryz.underlying24 info36 rfl (by decide) (by omega) v190 t189 (⟨t192, t193, t194, t195, t196, t197, t198⟩ : S36) [.int .i64 t192, .int .i64 t193, .int .i64 t194, .int .i64 t195, .int .i64 t196, .int .i64 t197, .slice Ao46 t198.length co46] (fun k_ => some k_ ≠ (.slice Ao42 x3_2.length co42 : Value).ownBlock) (fun k_ => some k_ = (.slice Ao46 t198.length co46 : Value).ownBlock) rfl rfl ?aP (fun k_ hk_ => ((Kd.R_mono (ok' := fun k_ => ((fun k_ => some k_ ≠ (.slice Ao42 x3_2.length co42 : Value).ownBlock)) k_ ∧ some k_ ≠ (v190 : Value).ownBlock) (Kd.R_apart' (Kd.R_apart' (HO200.out) (Kd.S_typed HO_3.out) (by decide)) (Kd.S_typed HO191.out) (by decide)) (fun k_ hk => ⟨hk.1.2, hk.2⟩))).1 k_ hk_.symm) ?aF ?aO (Below.refl _ _) ?aS ?aL ?_; (case aP => exact (by exact k36_mkM _ _ _ (⟨t192, t193, t194, t195, t196, t197, t198⟩ : S36) (Kd.R_mono (Kd.R_tight rfl (Kd.R_mono (ok' := fun k_ => ((fun k_ => some k_ ≠ (.slice Ao42 x3_2.length co42 : Value).ownBlock)) k_ ∧ some k_ ≠ (v190 : Value).ownBlock) (Kd.R_apart' (Kd.R_apart' (HO200.out) (Kd.S_typed HO_3.out) (by decide)) (Kd.S_typed HO191.out) (by decide)) (fun k_ hk => ⟨hk.1.2, hk.2⟩))) (fun _ h_ => h_)))); (case aF => exact (by exact (fun k_ hk => Kd.fresh' (Kd.S_lt b7_1) k_ hk))); (case aO => exact (by exact (by refine cS_ ?_; exact Kd.S_mono HO191.out (fun k_ hk => ⟨hk.1.2, fun e_ => hk.2 e_⟩)))); (case aS => exact (by exact (keep_size (w := w) (g := g) (row := none) b7_0))); (case aL => exact co_ LMc22.out); intro v203 w45 ho hb hg hat; rw [← Ny202.out] at ho; replace HO_3 := Aside0.mk (Kd.S_after (ok := (fun k_ => some k_ ≠ (.slice Ao46 t198.length co46 : Value).ownBlock)) (by refine cS_ ?_; exact Kd.S_mono HO_3.out (fun _ hk => ⟨hk.2, hk.1.2⟩)) hg hat); replace HB := Aside0.mk (below_weaken b7_2 HL.out hb); replace HI0 := Aside0.mk (IsS57.grown b7_3 hg (IsS57.own_neS HI0.out HO191.out (by decide))); replace HK := Aside0.mk (KeepBut.trans b7_0 (KeepBut.of_grown hg g) (Kd.S_base2 HO191.out)); have HO204 := Aside0.mk (ho); clear HO191; clear HO200; clear ho hb hg hat; obtain ⟨Ao47, co47, eo47⟩ := Kd.S_slice HO204.out; subst eo47; have p205 : 0 ≤ ((ji23) : Int) := cd_; have q205 : (ji23) < (y202.length : Int) := cd_; obtain ⟨ad205, A205_6, c205_6, e205, hx205_0, hx205_1, hx205_2, hx205_3, hx205_4, hx205_5, hx205_6, hl205_6, hi205_6⟩ := at_T36 (Kd.S_reads' HO204.out).2.2 (ji23) p205 q205; cases e205; obtain ⟨ce205, hce205, hMe205, hcc205⟩ := Kd.S_get HO204.out z36 (ji23) p205 (by first | exact q205 | exact of_decide_eq_true ca_ | (have e_ := (Kd.S_reads' HO204.out).1; omega)); obtain ⟨ve205_6, rfl, ge205_6⟩ := k36_openM hMe205; have hv205_6 := hcc205 6 _ rfl; rw [add_field _ _ 6 (by omega)] at hv205_6; replace hv205_6 := Option.some.inj (hv205_6.symm.trans hx205_6); rw [hv205_6] at ge205_6; have HL205_6 := Aside0.mk (show Kd.R (Kd.int .i64) 2 _ _ _ _ ((rd_T36 y202 (ji23)).f6) from ge205_6); clear hv205_6 ge205_6; clear hcc205 hce205; have HR205_6 := Aside0.mk hi205_6; have HC205_6 := Aside0.mk hl205_6; clear hi205_6 hl205_6; replace p205 := eq_true p205; replace q205 := eq_true q205) | (go_at_call 8; (with_reducible refine (spec_PlanFault.calls kj15 _ _ y202 t206 _ ?side1 ?side2 A33.out).mono ?_); (case side1 => exact cC_ ((Kd.S_reads' HO204.out).2.2)); (case side2 => exact (Kd.S_reads' HO204.out).2.1); rintro e w48 ⟨rfl, hb⟩; replace HO_3 := Aside0.mk (Kd.S_below b7_1 hb); replace HO204 := Aside0.mk (Kd.S_below (cS_ HO204.out) hb); replace HL205_6 := Aside0.mk (Kd.R_below (cR_ HL205_6.out) hb); replace HR205_6 := Aside0.mk (Kd.C_below (by repeat (first | (with_reducible exact HR205_6.out) | (with_reducible refine Kd.C_alloc ?_ _) | (with_reducible refine Kd.C_drewN ?_ _) | (with_reducible refine Kd.C_drew ?_) | exact HR205_6.out)) hb); replace HK := Aside0.mk (KeepBut.trans b7_0 (KeepBut.of_below hb g none) (.inl rfl)); replace HB := Aside0.mk (below_step b7_2 hb); replace HI0 := Aside0.mk (IsS57.below b7_3 hb); (try clear hb)))
             go_roundg kj15
             case measure => have := HJ3.out; have := HK2.out; have := HJ15.out; omega
             case rel => exact ⟨(x3_2), (wrap64 (x4_2 - 1)), (t201), cs_, H', ⟨q7_0⟩, ⟨by refine cS_ ?_; exact Kd.S_mono HO_3.out (fun _ hk => trivial)⟩, ⟨cI_ HI0.out⟩, ⟨cK_ HK.out⟩, ⟨cB1_ (IsS57.ge HI0.out)⟩⟩
          ·rw [if_neg c25] at H
           exact absurd H (by simp)
         ·rw [if_neg c24] at H
          exact absurd H (by simp)
        ·rw [if_neg c22] at H
         exact absurd H (by simp)
       ·replace c19 := Bool.eq_false_iff.mpr c19
        subst c19
        rw [if_neg (show ¬ (false = true) by decide)] at H
        by_cases c49 : x3_2.length < 1954687338268
        ·rw [if_pos c49] at H
         have LMc49 := Aside0.mk c49
         clear c49
         obtain ⟨y186, hy_⟩ : ∃ y_ : List (S36), y_ = (x3_2 ++ [(⟨12, wrap64 ((x3_2.length : Int) - 1), 0, 0, 0, 0, ([] : List Int)⟩ : S36)]) := ⟨_, rfl⟩
         replace H : (some (y186, x1001_2)) = some (r1, r2) := yb_
         have Ny186 := Aside0.mk hy_
         clear hy_
         simp only [Option.some.injEq, Prod.mk.injEq] at H
         obtain ⟨rfl, rfl⟩ := H
         obtain ⟨Ao50, co50, eo50⟩ := Kd.S_slice HO_3.out
         subst eo50
         go_wp2_with (first | ((with_reducible refine gate_builtin (b := .append) (xs := #[.tmp 53, .tmp 58]) rfl ?_); (try (refine gate_guard (by rfl) ?_; dsimp only)); at_builtin; refine Kd.S_append k36 w.heap.size rfl (.tmp 53) (.tmp 58) 24 36 (.agg #[(.int .i64 0), (.int .i64 0), (.int .i64 0), (.int .i64 0), (.int .i64 0), (.int .i64 0), (.slice none 0 0)]) 72 rfl Tryz.underlying24 info36 rfl (by decide) (by omega) (.slice Ao50 x3_2.length co50) x3_2 (⟨12, wrap64 ((x3_2.length : Int) - 1), 0, 0, 0, 0, ([] : List Int)⟩ : S36) [.int .i64 12, .int .i64 (wrap64 ((x3_2.length : Int) - 1)), .int .i64 0, .int .i64 0, .int .i64 0, .int .i64 0, .slice none 0 0] (fun _ => True) (fun _ => False) rfl rfl ?aP (fun k_ hk_ => hk_.elim) ?aF ?aO (Below.refl _ _) ?aS ?aL ?_; (case aP => exact k36_mkM _ _ _ (⟨12, wrap64 ((x3_2.length : Int) - 1), 0, 0, 0, 0, ([] : List Int)⟩ : S36) (Kd.R_nil _ _ _ _ _)); (case aF => exact (fun _ _ => trivial)); (case aO => exact (by exact (by refine cS_ ?_; exact Kd.S_mono HO_3.out (fun k_ hk => ⟨trivial, fun e_ => e_⟩)))); (case aS => exact (by exact (keep_size (w := w) (g := g) (row := none) b7_0))); (case aL => exact co_ LMc49.out); intro v187 w51 ho hb hg hat; rw [← Ny186.out] at ho; replace HB := Aside0.mk (below_weaken b7_2 HL.out hb); replace HI0 := Aside0.mk (IsS57.grown b7_3 hg (IsS57.own_neS HI0.out HO_3.out (by decide))); replace HK := Aside0.mk (KeepBut.trans b7_0 (KeepBut.of_grown hg g) (Kd.S_base2 HO_3.out)); have HO188 := Aside0.mk (ho); clear HO_3; clear ho hb hg hat))
         go_ret
         exact ⟨_, ce_, cS_ HO188.out, cI_ HI0.out, cB1_ (IsS57.ge HI0.out), cK_ HK.out⟩
        ·rw [if_neg c49] at H
         exact absurd H (by simp)

/-! ### spec_l1Pick: function 32 -/
def spec_l1Pick.f (s0_0 : List Int) (s0_1 : Int) (l1 : List Int) : Option (Int × Int) := (spec_l1Next.f s0_0 s0_1 (l1.length : Int)).bind fun bt207 => (if 0 ≤ bt207.1 then (if bt207.1 < (l1.length : Int) then (some (rd l1 bt207.1, bt207.2)) else (none)) else (none))
theorem spec_l1Pick.calls (g : Nat) (s0_0 : List Int) (s0_1 : Int) (A1 : Option Addr) (c1 : Nat) (l1 : List Int) (r1 : Int) (r2 : Int) (w0 w : World) (hI : IsS57 w0 w g s0_0 s0_1) (hB : Below w0.heap.size w0 w) (hr1 : Kd.C (Kd.int .i64) w A1 l1.length l1) (hc1 : l1.length ≤ c1) (hf1 : ∀ ad, A1 = some ad → 0 < l1.length → ad.block ≠ g) (h : spec_l1Pick.f s0_0 s0_1 l1 = some (r1, r2)) :
  Calls Tryz.prog 32 #[.pointer (some ⟨g, 0, none⟩), .slice A1 l1.length c1] w fun e w' => e = .returned (.int .i64 r1) ∧ IsS57 w0 w' g s0_0 r2 ∧ Below w0.heap.size w0 w' ∧ KeepBut w w' g none := by
 have HR1 := Aside0.mk hr1
 have HC1 := Aside0.mk hc1
 clear hr1 hc1
 have HI0 := Aside0.mk hI
 have HK := Aside0.mk (KeepBut.refl w g none)
 have HL := Aside0.mk hB.size
 clear hI
 have HW0 := Aside0.mk hB.size
 have HB := Aside0.mk hB
 clear hB
 have H : ((spec_l1Next.f s0_0 s0_1 (l1.length : Int)).bind fun bt207 => (if 0 ≤ bt207.1 then (if bt207.1 < (l1.length : Int) then (some (rd l1 bt207.1, bt207.2)) else (none)) else (none))) = some (r1, r2) := h
 clear h
 obtain ⟨⟨t207, t208⟩, A3, H⟩ := bnd_ H
 try dsimp only at H
 by_cases c4 : 0 ≤ t207
 ·rw [if_pos c4] at H
  have c4b0 := decide_eq_true c4
  clear c4
  by_cases c5 : t207 < (l1.length : Int)
  ·rw [if_pos c5] at H
   have c5b0 := decide_eq_true c5
   clear c5
   simp only [Option.some.injEq, Prod.mk.injEq] at H
   obtain ⟨rfl, rfl⟩ := H
   go_enter Tryz.func32, Tryz.ntmps32
   go_wp2_with (first | (refine gl_ 31 (some 9) Tryz.func31 #[.pointer (some ⟨g, 0, none⟩), .int .i64 (l1.length : Int)] ?_; (with_reducible refine (spec_l1Next.calls g s0_0 s0_1 (l1.length : Int) t207 t208 w0 _ ?side1 ?side2 A3.out).mono ?_); (case side1 => exact cI_ HI0.out); (case side2 => exact cB1_ (IsS57.ge HI0.out)); rintro e w6 ⟨rfl, hi, hb, hk⟩; refine ⟨_, rfl, ?_⟩; replace HK := Aside0.mk (KeepBut.trans b7_0 hk (.inl rfl)); replace HB := Aside0.mk (hb); replace HI0 := Aside0.mk (hi); (try clear hb); (try clear hk); (try clear hi); have p209 : 0 ≤ (t207 : Int) := cd_; have q209 : t207 < (l1.length : Int) := cd_; obtain ⟨ad209, e209, hx209_0⟩ := Kd.at_int HR1.out t207 p209 q209; cases e209; replace hx209_0 := keep_cell HK.out hx209_0 (by first | (rw [add_block]; exact hf1 _ rfl (by omega)) | exact hf1 _ rfl (by omega) | exact hf1 ad209 rfl (by omega)); replace p209 := eq_true p209; replace q209 := eq_true q209))
   go_ret
   exact ⟨ce_, cI_ HI0.out, cB1_ (IsS57.ge HI0.out), cK_ HK.out⟩
  ·rw [if_neg c5] at H
   exact absurd H (by simp)
 ·rw [if_neg c4] at H
  exact absurd H (by simp)

end Go.Proofs.YteibdjkfkcckkaaGreatDoor.PFnPlans
