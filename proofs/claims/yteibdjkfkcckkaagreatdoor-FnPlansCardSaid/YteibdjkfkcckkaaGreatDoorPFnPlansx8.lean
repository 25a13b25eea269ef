-- Written by fprint, a program of this session, out of Lean's own print of the translation. Lean checks it.
import Derived.Test.YteibdjkfkcckkaaGreatDoorDense
import Derived.Test.YteibdjkfkcckkaaGreatDoorShort
import Derived.Test.YteibdjkfkcckkaaGreatDoorPFnPlansx0
import Derived.Test.YteibdjkfkcckkaaGreatDoorPFnPlansx1
import Derived.Test.YteibdjkfkcckkaaGreatDoorPFnPlansx5
import Derived.Test.YteibdjkfkcckkaaGreatDoorPFnPlansx7
namespace Go.Proofs.YteibdjkfkcckkaaGreatDoor.PFnPlans
open Go.RowKit Go.Proofs.YteibdjkfkcckkaaGreatDoorW.PrintWords Go.Proofs.YteibdjkfkcckkaaGreatDoorW.PrintLast Go.Proofs.YteibdjkfkcckkaaGreatDoorW.PrintMore
attribute [local go_sem] max2_int min2_int max_two min_two max_three min_three max_four min_four
set_option linter.unusedVariables false
set_option maxHeartbeats 8000000
set_option maxRecDepth 100000
set_option linter.unusedSimpArgs false

theorem c8I0_ {p : Prop} (h : p := by repeat (first | (with_reducible first | exact HI0.out | apply IsS57.alloc | apply IsS57.drewN | apply IsS57.drew | apply IsS57.set_1) | exact HI0.out)) : p := h
theorem c8I1_ {p : Prop} {q0 : Prop} (x0 : q0) (h : q0 → p := by intro x0_; repeat (first | (with_reducible first | exact HI0.out | apply IsS57.alloc | apply IsS57.drewN | apply IsS57.drew | apply IsS57.set_1 | refine IsS57.far ?_ x0_ _) | exact HI0.out)) : p := h x0
theorem b8_0 {p : Prop} (h : p := by exact cK_ HK.out) : p := h
theorem b8_2 {p : Prop} (h : p := by exact cN_ HO212.out) : p := h
theorem b8_3 {p : Prop} (h : p := by exact cI_ HI0.out) : p := h
theorem b8_5 {p : Prop} (h : p := by exact cB1_ (IsS57.ge HI0.out)) : p := h
theorem b8_6 {p : Prop} (h : p := by first | (rw [add_block]; exact Kd.own_blk (IsS57.own_neN HI0.out HO212.out (by decide))) | (show (Addr.add _ _).block ≠ _; rw [add_block]; exact Kd.own_blk (IsS57.own_neN HI0.out HO212.out (by decide))) | exact Kd.own_blk (IsS57.own_neN HI0.out HO212.out (by decide))) : p := h
/-! ### spec_l3Bent: function 16 -/
def spec_l3Bent.f (k : Nat) (s0_0 : List Int) (s0_1 : Int) : Option ((List (S36)) × Int) := (spec_l3Draw.f k s0_0 s0_1).bind fun bt210 => ((spec_l1Next.f s0_0 bt210.2 (bt210.1.length : Int)).bind fun bt214 => ((spec_l1Next.f s0_0 bt214.2 24).bind fun bt216 => (if bt216.1 = 0 then ((spec_l1Next.f s0_0 bt216.2 13).bind fun bt218 => ((spec_l1Pick.f s0_0 bt218.2 (([0, 13, bt218.1] : List Int))).bind fun bt223 => (if 0 ≤ bt214.1 then (if bt214.1 < (bt210.1.length : Int) then (some ((bt210.1.set (bt214.1 : Int).toNat (⟨bt223.1, (rd_T36 bt210.1 bt214.1).f1, (rd_T36 bt210.1 bt214.1).f2, (rd_T36 bt210.1 bt214.1).f3, (rd_T36 bt210.1 bt214.1).f4, (rd_T36 bt210.1 bt214.1).f5, (rd_T36 bt210.1 bt214.1).f6⟩ : S36)), bt223.2)) else (none)) else (none)))) else (if bt216.1 = 1 then ((spec_l1Pick.f s0_0 bt216.2 (([(-1), bt214.1, 0, 4611686018427387904] : List Int))).bind fun bt229 => (if 0 ≤ bt214.1 then (if bt214.1 < (bt210.1.length : Int) then (some ((bt210.1.set (bt214.1 : Int).toNat (⟨(rd_T36 bt210.1 bt214.1).f0, bt229.1, (rd_T36 bt210.1 bt214.1).f2, (rd_T36 bt210.1 bt214.1).f3, (rd_T36 bt210.1 bt214.1).f4, (rd_T36 bt210.1 bt214.1).f5, (rd_T36 bt210.1 bt214.1).f6⟩ : S36)), bt229.2)) else (none)) else (none))) else (if bt216.1 = 2 then ((spec_l1Pick.f s0_0 bt216.2 (([(-1), bt214.1, 1] : List Int))).bind fun bt235 => (if 0 ≤ bt214.1 then (if bt214.1 < (bt210.1.length : Int) then (some ((bt210.1.set (bt214.1 : Int).toNat (⟨(rd_T36 bt210.1 bt214.1).f0, (rd_T36 bt210.1 bt214.1).f1, bt235.1, (rd_T36 bt210.1 bt214.1).f3, (rd_T36 bt210.1 bt214.1).f4, (rd_T36 bt210.1 bt214.1).f5, (rd_T36 bt210.1 bt214.1).f6⟩ : S36)), bt235.2)) else (none)) else (none))) else (if bt216.1 = 3 then ((spec_l1Pick.f s0_0 bt216.2 (([(-1), 0, 4, 3, 1] : List Int))).bind fun bt241 => (if 0 ≤ bt214.1 then (if bt214.1 < (bt210.1.length : Int) then (some ((bt210.1.set (bt214.1 : Int).toNat (⟨(rd_T36 bt210.1 bt214.1).f0, (rd_T36 bt210.1 bt214.1).f1, (rd_T36 bt210.1 bt214.1).f2, bt241.1, (rd_T36 bt210.1 bt214.1).f4, (rd_T36 bt210.1 bt214.1).f5, (rd_T36 bt210.1 bt214.1).f6⟩ : S36)), bt241.2)) else (none)) else (none))) else (if bt216.1 = 4 then (if 0 ≤ bt214.1 then (if bt214.1 < (bt210.1.length : Int) then ((spec_l1Pick.f s0_0 bt216.2 (([0, (-1), 4] : List Int))).bind fun bt248 => ((list_app.f ((rd_T36 bt210.1 bt214.1).f6) (([bt248.1] : List Int))).bind fun t253 => (some ((bt210.1.set (bt214.1 : Int).toNat (⟨(rd_T36 bt210.1 bt214.1).f0, (rd_T36 bt210.1 bt214.1).f1, (rd_T36 bt210.1 bt214.1).f2, (rd_T36 bt210.1 bt214.1).f3, (rd_T36 bt210.1 bt214.1).f4, (rd_T36 bt210.1 bt214.1).f5, t253⟩ : S36)), bt248.2)))) else (none)) else (none)) else (if bt216.1 = 5 then ((spec_l1Pick.f s0_0 bt216.2 (([1, 3] : List Int))).bind fun bt260 => (if 0 ≤ bt214.1 then (if bt214.1 < (bt210.1.length : Int) then (some ((bt210.1.set (bt214.1 : Int).toNat (⟨(rd_T36 bt210.1 bt214.1).f0, (rd_T36 bt210.1 bt214.1).f1, (rd_T36 bt210.1 bt214.1).f2, (rd_T36 bt210.1 bt214.1).f3, bt260.1, (rd_T36 bt210.1 bt214.1).f5, (rd_T36 bt210.1 bt214.1).f6⟩ : S36)), bt260.2)) else (none)) else (none))) else (if bt216.1 = 6 then ((spec_l1Pick.f s0_0 bt216.2 (([1000000000, 1000000001, (-1)] : List Int))).bind fun bt266 => (if 0 ≤ bt214.1 then (if bt214.1 < (bt210.1.length : Int) then (some ((bt210.1.set (bt214.1 : Int).toNat (⟨(rd_T36 bt210.1 bt214.1).f0, (rd_T36 bt210.1 bt214.1).f1, (rd_T36 bt210.1 bt214.1).f2, (rd_T36 bt210.1 bt214.1).f3, (rd_T36 bt210.1 bt214.1).f4, bt266.1, (rd_T36 bt210.1 bt214.1).f6⟩ : S36)), bt266.2)) else (none)) else (none))) else (if bt216.1 = 7 then (if bt210.1.length < 1954687338268 then (some ((bt210.1 ++ [(⟨5, wrap64 ((bt210.1.length : Int) - 1), 0, 0, 0, 0, ([] : List Int)⟩ : S36)]), bt216.2)) else (none)) else (if bt216.1 = 8 then ((spec_l1Pick.f s0_0 bt216.2 (([0, 9] : List Int))).bind fun bt275 => (if 0 ≤ bt275.1 then (if (bt275.1 : Int).toNat ≤ 3909374676536 then (some ((List.replicate (bt275.1 : Int).toNat z36), bt275.2)) else (none)) else (none))) else (some (bt210.1, bt216.2)))))))))))))
theorem spec_l3Bent.mono : ∀ a0 a1 k, LeO (spec_l3Bent.f k a0 a1) (spec_l3Bent.f (k + 1) a0 a1) := by
 intro a0 a1 k
 unfold spec_l3Bent.f
 repeat' first
   | (with_reducible exact spec_l3Draw.mono _ _ _)
   | (with_reducible exact LeO.refl _)
   | (with_reducible exact LeO.none _)
   | (with_reducible refine LeO.ite ?_ ?_)
   | (with_reducible refine LeO.bind ?_ (fun _ => ?_))
   | refine LeO.ite ?_ ?_
   | refine LeO.bind ?_ (fun _ => ?_)
def spec_l3Bent.T13 : Bool × List (List Nat × List Nat) := (true, [([], []), ([], []), ([], []), ([], []), ([2, 3], [2, 3]), ([4], [4]), ([5], [5]), ([], []), ([], []), ([7, 8], [7, 8]), ([9], [9]), ([6, 10, 9], [6, 10]), ([0, 1, 0, 1, 2, 3, 4, 5, 6, 7, 8, 9, 10, 11], [0, 1]), ([12, 0, 1, 2, 3, 4, 5, 6, 7, 8, 9, 10, 11], [12]), ([13, 11, 11, 0, 1, 2, 3, 4, 5, 6, 7, 8, 9, 10, 11], [11, 13])])
def spec_l3Bent.B13 : List Nat := [0, 0, 0, 0, 12, 28, 60, 0, 0, 384, 896, 2044, 4095, 8191, 16383]
theorem spec_l3Bent.tab13 : rtab .any (opsOf Tryz.f16 13) = spec_l3Bent.T13 := by kernel_rfl
theorem spec_l3Bent.bits13 : waitsOk spec_l3Bent.T13.2 spec_l3Bent.B13 = true := by kernel_rfl
theorem spec_l3Bent.calls (k : Nat) (g : Nat) (s0_0 : List Int) (s0_1 : Int) (r1 : List (S36)) (r2 : Int) (w0 w : World) (hI : IsS57 w0 w g s0_0 s0_1) (hB : Below w0.heap.size w0 w) (h : spec_l3Bent.f k s0_0 s0_1 = some (r1, r2)) :
  Calls Tryz.prog 16 #[.pointer (some ⟨g, 0, none⟩)] w fun e w' => ∃ v0_ : Value, e = .returned (v0_) ∧ Kd.N k36 36 w' w.heap.size (fun k_ => (w.heap.size ≤ k_)) v0_ r1 ∧ IsS57 w0 w' g s0_0 r2 ∧ Below w0.heap.size w0 w' ∧ KeepBut w w' g none := by
 have hu36 := Tryz.underlying36
 have HI0 := Aside0.mk hI
 have HK := Aside0.mk (KeepBut.refl w g none)
 have HL := Aside0.mk hB.size
 clear hI
 have HW0 := Aside0.mk hB.size
 have HB := Aside0.mk hB
 clear hB
 have H : ((spec_l3Draw.f k s0_0 s0_1).bind fun bt210 => ((spec_l1Next.f s0_0 bt210.2 (bt210.1.length : Int)).bind fun bt214 => ((spec_l1Next.f s0_0 bt214.2 24).bind fun bt216 => (if bt216.1 = 0 then ((spec_l1Next.f s0_0 bt216.2 13).bind fun bt218 => ((spec_l1Pick.f s0_0 bt218.2 (([0, 13, bt218.1] : List Int))).bind fun bt223 => (if 0 ≤ bt214.1 then (if bt214.1 < (bt210.1.length : Int) then (some ((bt210.1.set (bt214.1 : Int).toNat (⟨bt223.1, (rd_T36 bt210.1 bt214.1).f1, (rd_T36 bt210.1 bt214.1).f2, (rd_T36 bt210.1 bt214.1).f3, (rd_T36 bt210.1 bt214.1).f4, (rd_T36 bt210.1 bt214.1).f5, (rd_T36 bt210.1 bt214.1).f6⟩ : S36)), bt223.2)) else (none)) else (none)))) else (if bt216.1 = 1 then ((spec_l1Pick.f s0_0 bt216.2 (([(-1), bt214.1, 0, 4611686018427387904] : List Int))).bind fun bt229 => (if 0 ≤ bt214.1 then (if bt214.1 < (bt210.1.length : Int) then (some ((bt210.1.set (bt214.1 : Int).toNat (⟨(rd_T36 bt210.1 bt214.1).f0, bt229.1, (rd_T36 bt210.1 bt214.1).f2, (rd_T36 bt210.1 bt214.1).f3, (rd_T36 bt210.1 bt214.1).f4, (rd_T36 bt210.1 bt214.1).f5, (rd_T36 bt210.1 bt214.1).f6⟩ : S36)), bt229.2)) else (none)) else (none))) else (if bt216.1 = 2 then ((spec_l1Pick.f s0_0 bt216.2 (([(-1), bt214.1, 1] : List Int))).bind fun bt235 => (if 0 ≤ bt214.1 then (if bt214.1 < (bt210.1.length : Int) then (some ((bt210.1.set (bt214.1 : Int).toNat (⟨(rd_T36 bt210.1 bt214.1).f0, (rd_T36 bt210.1 bt214.1).f1, bt235.1, (rd_T36 bt210.1 bt214.1).f3, (rd_T36 bt210.1 bt214.1).f4, (rd_T36 bt210.1 bt214.1).f5, (rd_T36 bt210.1 bt214.1).f6⟩ : S36)), bt235.2)) else (none)) else (none))) else (if bt216.1 = 3 then ((spec_l1Pick.f s0_0 bt216.2 (([(-1), 0, 4, 3, 1] : List Int))).bind fun bt241 => (if 0 ≤ bt214.1 then (if bt214.1 < (bt210.1.length : Int) then (some ((bt210.1.set (bt214.1 : Int).toNat (⟨(rd_T36 bt210.1 bt214.1).f0, (rd_T36 bt210.1 bt214.1).f1, (rd_T36 bt210.1 bt214.1).f2, bt241.1, (rd_T36 bt210.1 bt214.1).f4, (rd_T36 bt210.1 bt214.1).f5, (rd_T36 bt210.1 bt214.1).f6⟩ : S36)), bt241.2)) else (none)) else (none))) else (if bt216.1 = 4 then (if 0 ≤ bt214.1 then (if bt214.1 < (bt210.1.length : Int) then ((spec_l1Pick.f s0_0 bt216.2 (([0, (-1), 4] : List Int))).bind fun bt248 => ((list_app.f ((rd_T36 bt210.1 bt214.1).f6) (([bt248.1] : List Int))).bind fun t253 => (some ((bt210.1.set (bt214.1 : Int).toNat (⟨(rd_T36 bt210.1 bt214.1).f0, (rd_T36 bt210.1 bt214.1).f1, (rd_T36 bt210.1 bt214.1).f2, (rd_T36 bt210.1 bt214.1).f3, (rd_T36 bt210.1 bt214.1).f4, (rd_T36 bt210.1 bt214.1).f5, t253⟩ : S36)), bt248.2)))) else (none)) else (none)) else (if bt216.1 = 5 then ((spec_l1Pick.f s0_0 bt216.2 (([1, 3] : List Int))).bind fun bt260 => (if 0 ≤ bt214.1 then (if bt214.1 < (bt210.1.length : Int) then (some ((bt210.1.set (bt214.1 : Int).toNat (⟨(rd_T36 bt210.1 bt214.1).f0, (rd_T36 bt210.1 bt214.1).f1, (rd_T36 bt210.1 bt214.1).f2, (rd_T36 bt210.1 bt214.1).f3, bt260.1, (rd_T36 bt210.1 bt214.1).f5, (rd_T36 bt210.1 bt214.1).f6⟩ : S36)), bt260.2)) else (none)) else (none))) else (if bt216.1 = 6 then ((spec_l1Pick.f s0_0 bt216.2 (([1000000000, 1000000001, (-1)] : List Int))).bind fun bt266 => (if 0 ≤ bt214.1 then (if bt214.1 < (bt210.1.length : Int) then (some ((bt210.1.set (bt214.1 : Int).toNat (⟨(rd_T36 bt210.1 bt214.1).f0, (rd_T36 bt210.1 bt214.1).f1, (rd_T36 bt210.1 bt214.1).f2, (rd_T36 bt210.1 bt214.1).f3, (rd_T36 bt210.1 bt214.1).f4, bt266.1, (rd_T36 bt210.1 bt214.1).f6⟩ : S36)), bt266.2)) else (none)) else (none))) else (if bt216.1 = 7 then (if bt210.1.length < 1954687338268 then (some ((bt210.1 ++ [(⟨5, wrap64 ((bt210.1.length : Int) - 1), 0, 0, 0, 0, ([] : List Int)⟩ : S36)]), bt216.2)) else (none)) else (if bt216.1 = 8 then ((spec_l1Pick.f s0_0 bt216.2 (([0, 9] : List Int))).bind fun bt275 => (if 0 ≤ bt275.1 then (if (bt275.1 : Int).toNat ≤ 3909374676536 then (some ((List.replicate (bt275.1 : Int).toNat z36), bt275.2)) else (none)) else (none))) else (some (bt210.1, bt216.2)))))))))))))) = some (r1, r2) := h
 clear h
 obtain ⟨⟨t210, t213⟩, A2, H⟩ := bnd_ H
 try dsimp only at H
 obtain ⟨⟨t214, t215⟩, A3, H⟩ := bnd_ H
 try dsimp only at H
 obtain ⟨⟨t216, t217⟩, A4, H⟩ := bnd_ H
 try dsimp only at H
 by_cases c5 : t216 = 0
 ·rw [if_pos c5] at H
  have c5b0 : (t216 == 0) = true := beq_iff_eq.mpr c5
  have c5b1 : (t216 != 0) = false := bne_eq_false_iff_eq.mpr c5
  clear c5
  obtain ⟨⟨t218, t219⟩, A6, H⟩ := bnd_ H
  try dsimp only at H
  obtain ⟨y220, hy_⟩ : ∃ y_ : List Int, y_ = (([0, 13, t218] : List Int)) := ⟨_, rfl⟩
  replace H : ((spec_l1Pick.f s0_0 t219 y220).bind fun bt223 => (if 0 ≤ t214 then (if t214 < (t210.length : Int) then (some ((t210.set (t214 : Int).toNat (⟨bt223.1, (rd_T36 t210 t214).f1, (rd_T36 t210 t214).f2, (rd_T36 t210 t214).f3, (rd_T36 t210 t214).f4, (rd_T36 t210 t214).f5, (rd_T36 t210 t214).f6⟩ : S36)), bt223.2)) else (none)) else (none))) = some (r1, r2) := yb_
  have Ny220 := Aside0.mk hy_
  clear hy_
  obtain ⟨⟨t223, t224⟩, A7, H⟩ := bnd_ H
  try dsimp only at H
  by_cases c8 : 0 ≤ t214
  rotate_left
  ·rw [if_neg c8] at H
   exact absurd H (by simp)
  rw [if_pos c8] at H
  have c8b0 := decide_eq_true c8
  clear c8
  by_cases c9 : t214 < (t210.length : Int)
  ·rw [if_pos c9] at H
   have c9b0 := decide_eq_true c9
   clear c9
   obtain ⟨y225, hy_⟩ : ∃ y_ : List (S36), y_ = (t210.set (t214 : Int).toNat (⟨t223, (rd_T36 t210 t214).f1, (rd_T36 t210 t214).f2, (rd_T36 t210 t214).f3, (rd_T36 t210 t214).f4, (rd_T36 t210 t214).f5, (rd_T36 t210 t214).f6⟩ : S36)) := ⟨_, rfl⟩
   replace H : (some (y225, t224)) = some (r1, r2) := yb_
   have Ny225 := Aside0.mk hy_
   clear hy_
   simp only [Option.some.injEq, Prod.mk.injEq] at H
   obtain ⟨rfl, rfl⟩ := H
   go_enter Tryz.func16, Tryz.ntmps16
   go_wp2_with (first | (refine gl_ 30 (some 6) Tryz.func30 #[.pointer (some ⟨g, 0, none⟩)] ?_; (with_reducible refine (spec_l3Draw.calls k g s0_0 s0_1 t210 t213 w0 _ ?side1 ?side2 A2.out).mono ?_); (case side1 => exact cI_ HI0.out); (case side2 => exact cB1_ (IsS57.ge HI0.out)); rintro e w11 ⟨v211, rfl, ho0, hi, hb, hk⟩; refine ⟨_, rfl, ?_⟩; have HO212 := Aside0.mk (Kd.N_lower (Kd.N_mono (ok' := fun k_ => (w.heap.size ≤ k_) ∧ k_ ≠ g) (Kd.S_N (Kd.S_bound ho0)) (fun k_ hk_ => ⟨(Nat.le_trans (keep_size (w := w) (g := g) (row := none) b8_0) hk_.2.1), (IsS57.fresh b8_3 k_ hk_.2.1)⟩)) (keep_size (w := w) (g := g) (row := none) b8_0)); replace HK := Aside0.mk (KeepBut.trans b8_0 hk (.inl rfl)); replace HB := Aside0.mk (hb); replace HI0 := Aside0.mk (hi); (try clear hb); (try clear hk); (try clear hi); (try clear ho0); obtain ⟨Ao12, co12, eo12⟩ := Kd.N_slice HO212.out; subst eo12) | (refine gl_ 31 (some 10) Tryz.func31 #[.pointer (some ⟨g, 0, none⟩), .int .i64 (t210.length : Int)] ?_; (with_reducible refine (spec_l1Next.calls g s0_0 t213 (t210.length : Int) t214 t215 w0 _ ?side1 ?side2 A3.out).mono ?_); (case side1 => exact cI_ HI0.out); (case side2 => exact cB1_ (IsS57.ge HI0.out)); rintro e w13 ⟨rfl, hi, hb, hk⟩; refine ⟨_, rfl, ?_⟩; replace HO212 := Aside0.mk (Kd.N_mono (Kd.N_keep (Kd.N_mono (ok := fun k_ => (((w.heap.size ≤ k_)) ∧ k_ ≠ g)) b8_2 (fun k_ hk_ => (⟨hk_, hk_.2⟩ : _ ∧ k_ ≠ g))) hk (fun _ h => h.2)) (fun _ h => h.1)); replace HK := Aside0.mk (KeepBut.trans b8_0 hk (.inl rfl)); replace HB := Aside0.mk (hb); replace HI0 := Aside0.mk (hi); (try clear hb); (try clear hk); (try clear hi)) | (refine gl_ 31 (some 12) Tryz.func31 #[.pointer (some ⟨g, 0, none⟩), .int .i64 24] ?_; (with_reducible refine (spec_l1Next.calls g s0_0 t215 24 t216 t217 w0 _ ?side1 ?side2 A4.out).mono ?_); (case side1 => exact cI_ HI0.out); (case side2 => exact cB1_ (IsS57.ge HI0.out)); rintro e w14 ⟨rfl, hi, hb, hk⟩; refine ⟨_, rfl, ?_⟩; replace HO212 := Aside0.mk (Kd.N_mono (Kd.N_keep (Kd.N_mono (ok := fun k_ => (((w.heap.size ≤ k_)) ∧ k_ ≠ g)) b8_2 (fun k_ hk_ => (⟨hk_, hk_.2⟩ : _ ∧ k_ ≠ g))) hk (fun _ h => h.2)) (fun _ h => h.1)); replace HK := Aside0.mk (KeepBut.trans b8_0 hk (.inl rfl)); replace HB := Aside0.mk (hb); replace HI0 := Aside0.mk (hi); (try clear hb); (try clear hk); (try clear hi)) | (refine gl_ 31 (some 19) Tryz.func31 #[.pointer (some ⟨g, 0, none⟩), .int .i64 13] ?_; (with_reducible refine (spec_l1Next.calls g s0_0 t217 13 t218 t219 w0 _ ?side1 ?side2 A6.out).mono ?_); (case side1 => exact cI_ HI0.out); (case side2 => exact cB1_ (IsS57.ge HI0.out)); rintro e w15 ⟨rfl, hi, hb, hk⟩; refine ⟨_, rfl, ?_⟩; replace HO212 := Aside0.mk (Kd.N_mono (Kd.N_keep (Kd.N_mono (ok := fun k_ => (((w.heap.size ≤ k_)) ∧ k_ ≠ g)) b8_2 (fun k_ hk_ => (⟨hk_, hk_.2⟩ : _ ∧ k_ ≠ g))) hk (fun _ h => h.2)) (fun _ h => h.1)); replace HK := Aside0.mk (KeepBut.trans b8_0 hk (.inl rfl)); replace HB := Aside0.mk (hb); replace HI0 := Aside0.mk (hi); (try clear hb); (try clear hk); (try clear hi)) | ((with_reducible refine gate_dst (N := 20) rfl ?_); refine Kd.R_lit (Kd.int .i64) _ 2 ?hg (N := 20) ?hd (xs := ([0, 13, t218] : List Int)) (inner := [.int .i64 0, .int .i64 13, .int .i64 t218]) (ok := fun _ => True) (okp := fun _ => True) ?hr ?hp (fun _ hk => hk) trivial (Below.refl _ _) (Nat.le_refl _) (by simp) ?_; (case hd => rfl); (case hg => rfl); (case hr => first | (go_simp; done) | (go_simp; rfl)); (case hp => exact (Reps.one (show Kd.M (Kd.int .i64) _ _ _ 0 [.int .i64 0] from rfl) (Reps.one (show Kd.M (Kd.int .i64) _ _ _ 13 [.int .i64 13] from rfl) (Reps.one (show Kd.M (Kd.int .i64) _ _ _ t218 [.int .i64 t218] from rfl) (Reps.none _ _))))); intro v221 w16 ho17 hb hg_ hnew_; clear hg_ hnew_; (first | rw [← Ny220.out] at ho17 | (simp only [Int.reduceToNat] at ho17; rw [← Ny220.out] at ho17)); replace HO212 := Aside0.mk (Kd.N_elder' b8_2 (Kd.R_base ho17) hb); have HO222 := Aside0.mk (Kd.R_lower (Kd.R_newM (M := fun k_ => (w.heap.size ≤ k_)) ho17 (keep_size (w := w) (g := g) (row := none) b8_0) (fun k_ h_ => h_)) (keep_size (w := w) (g := g) (row := none) b8_0)); replace HK := Aside0.mk (KeepBut.trans b8_0 (KeepBut.of_below hb g none) (.inl rfl)); replace HB := Aside0.mk (below_step b8_5 hb); replace HI0 := Aside0.mk (IsS57.below b8_3 hb); clear hb ho17; obtain ⟨Ao18, co18, eo18⟩ := Kd.R_slice HO222.out; subst eo18) | (refine gl_ 32 (some 21) Tryz.func32 #[.pointer (some ⟨g, 0, none⟩), .slice Ao18 y220.length co18] ?_; (with_reducible refine (spec_l1Pick.calls g s0_0 t219 _ _ y220 t223 t224 w0 _ ?side1 ?side2 ?side3 ?side4 ?side5 A7.out).mono ?_); (case side1 => exact cI_ HI0.out); (case side2 => exact cB1_ (IsS57.ge HI0.out)); (case side3 => exact cC_ ((Kd.R_reads' HO222.out).2.2)); (case side4 => exact (Kd.R_reads' HO222.out).2.1); (case side5 => exact (by exact far_slice (IsS57.own_ne HI0.out HO222.out (by decide)))); rintro e w19 ⟨rfl, hi, hb, hk⟩; refine ⟨_, rfl, ?_⟩; replace HO212 := Aside0.mk (Kd.N_mono (Kd.N_keep (Kd.N_mono (ok := fun k_ => ((((w.heap.size ≤ k_)) ∧ k_ ≠ g) ∧ some k_ ≠ (.slice Ao18 y220.length co18 : Value).ownBlock)) b8_2 (fun k_ hk_ => (⟨hk_, hk_.1.2⟩ : _ ∧ k_ ≠ g))) hk (fun _ h => h.2)) (fun _ h => h.1)); replace HO222 := Aside0.mk (Kd.R_mono (Kd.R_keep (IsS57.apart (show IsS57 w0 _ g s0_0 t219 from c8I0_) (cR_ HO222.out) (by decide)) hk (fun _ h => h.2)) (fun _ h => h.1)); replace HK := Aside0.mk (KeepBut.trans b8_0 hk (.inl rfl)); replace HB := Aside0.mk (hb); replace HI0 := Aside0.mk (hi); (try clear hb); (try clear hk); (try clear hi); have p10 : 0 ≤ (t214 : Int) := cd_; have q10 : (t214 : Int) < ((t210.length : Int) : Int) := cd_; obtain ⟨go10, co10, eo10, gb10, gl10, cl10, HG10⟩ := Kd.N_form HO212.out (by omega); (first | cases eo10 | (injection eo10 with ea_ en_ ec_; (first | subst ea_ | (injection ea_ with ea_; subst ea_)); subst ec_; clear en_)); have GB10 := Aside0.mk gb10; have GG10 := Aside0.mk HG10; clear gb10 gl10 HG10; obtain ⟨ce10, hcl10, hM10, hcc10, hfr10⟩ := Kd.N_elem HO212.out z36 (t214 : Int) p10 q10; obtain ⟨ua10_6, uc10_6, rfl, ul10_6, ge10_6⟩ := k36_openF hM10; have hx10_0 : w19.cell? ⟨go10, (t214 : Int).toNat * 7, none⟩ = some (.int .i64 ((rd_T36 t210 t214).f0)) := hcc10 0 _ rfl; have hx10_1 : w19.cell? ⟨go10, (t214 : Int).toNat * 7 + 1, none⟩ = some (.int .i64 ((rd_T36 t210 t214).f1)) := hcc10 1 _ rfl; have hx10_2 : w19.cell? ⟨go10, (t214 : Int).toNat * 7 + 2, none⟩ = some (.int .i64 ((rd_T36 t210 t214).f2)) := hcc10 2 _ rfl; have hx10_3 : w19.cell? ⟨go10, (t214 : Int).toNat * 7 + 3, none⟩ = some (.int .i64 ((rd_T36 t210 t214).f3)) := hcc10 3 _ rfl; have hx10_4 : w19.cell? ⟨go10, (t214 : Int).toNat * 7 + 4, none⟩ = some (.int .i64 ((rd_T36 t210 t214).f4)) := hcc10 4 _ rfl; have hx10_5 : w19.cell? ⟨go10, (t214 : Int).toNat * 7 + 5, none⟩ = some (.int .i64 ((rd_T36 t210 t214).f5)) := hcc10 5 _ rfl; have hx10_6 : w19.cell? ⟨go10, (t214 : Int).toNat * 7 + 6, none⟩ = some (.slice ua10_6 ((rd_T36 t210 t214).f6).length uc10_6) := hcc10 6 _ rfl; have hf10_0 : w19.frozen? ⟨go10, (t214 : Int).toNat * 7, none⟩ = false := hfr10 0; have hf10_1 : w19.frozen? ⟨go10, (t214 : Int).toNat * 7 + 1, none⟩ = false := hfr10 1; have hf10_2 : w19.frozen? ⟨go10, (t214 : Int).toNat * 7 + 2, none⟩ = false := hfr10 2; have hf10_3 : w19.frozen? ⟨go10, (t214 : Int).toNat * 7 + 3, none⟩ = false := hfr10 3; have hf10_4 : w19.frozen? ⟨go10, (t214 : Int).toNat * 7 + 4, none⟩ = false := hfr10 4; have hf10_5 : w19.frozen? ⟨go10, (t214 : Int).toNat * 7 + 5, none⟩ = false := hfr10 5; have hf10_6 : w19.frozen? ⟨go10, (t214 : Int).toNat * 7 + 6, none⟩ = false := hfr10 6; (try clear hM10); clear hcl10 hcc10 hfr10; replace p10 := eq_true p10; replace q10 := eq_true q10; have n_ := Aside0.mk (Kd.N_mono (ok' := (fun k_ => (w.heap.size ≤ k_) ∧ some k_ ≠ (.slice Ao18 y220.length co18 : Value).ownBlock ∧ k_ ≠ g)) HO212.out (fun k_ hk => ⟨hk.1.1, ⟨hk.2, hk.1.2⟩⟩)); clear HO212; have HO212 := n_; clear n_; have HX20 := Aside0.mk (show Kd.N k36 36 w19 w.heap.size (fun k_ => (w.heap.size ≤ k_) ∧ some k_ ≠ (.slice Ao18 y220.length co18 : Value).ownBlock ∧ k_ ≠ g) (.slice (some ⟨go10, 0, none⟩) t210.length co12) t210 from b8_2); obtain ⟨ce20, hcl20, hM20, hcc20, hfr20⟩ := Kd.N_elem HX20.out z36 (t214 : Int) (of_decide_eq_true ca_) (by have h_ : (t214 : Int) < ((t210.length : Int) : Int) := cd_; first | exact h_ | (have e_ := (Kd.N_reads' HO212.out).1; omega) | simpa using h_); obtain ⟨ua20_6, uc20_6, rfl, ul20_6, ge20_6⟩ := k36_openF hM20; have HP20 := Kd.N_seg HX20.out (t214 : Int) (of_decide_eq_true ca_) (by have h_ : (t214 : Int) < ((t210.length : Int) : Int) := cd_; first | exact h_ | (have e_ := (Kd.N_reads' HO212.out).1; omega) | simpa using h_) (seg := [.int .i64 t223]) (j := 0) hcl20 hcc20 (show 1 ≤ 7 from by decide) (x' := (⟨t223, (rd_T36 t210 t214).f1, (rd_T36 t210 t214).f2, (rd_T36 t210 t214).f3, (rd_T36 t210 t214).f4, (rd_T36 t210 t214).f5, (rd_T36 t210 t214).f6⟩ : S36)) (k36_mkF _ _ (⟨t223, (rd_T36 t210 t214).f1, (rd_T36 t210 t214).f2, (rd_T36 t210 t214).f3, (rd_T36 t210 t214).f4, (rd_T36 t210 t214).f5, (rd_T36 t210 t214).f6⟩ : S36) ul20_6 ge20_6) (fun _ hk => hk); have hx20_0 := hcc20 0 _ rfl; (try simp only [show (k36).sz = 7 from rfl, Nat.mul_one, Nat.add_zero] at hx20_0); have hf20_0 := hfr20 0; (try simp only [show (k36).sz = 7 from rfl, Nat.mul_one, Nat.add_zero] at hf20_0); (try clear hM20); clear hcl20 hcc20 hfr20) | ((with_reducible refine gate_store (t := 2) (p := 23) rfl ?_); refine store_event (t := 2) (p := 23) (v := ?vo_w21) (w1 := (w19.setCell ⟨go10, (t214 : Int).toNat * 7, none⟩ (.int .i64 t223))) ?hg ?ho ?hn ?hr ?_; (case ho => rfl); (case hg => rfl); (case hn => rfl); (case hr => first | (go_simp; done) | (go_simp; rfl)); intro w21 hw; have hg : w19.grownBy w21 (some go10) := (by rw [hw]; exact HP20.2); have hp_ : Kd.N k36 36 w21 w.heap.size (fun k_ => (w.heap.size ≤ k_) ∧ some k_ ≠ (.slice Ao18 y220.length co18 : Value).ownBlock ∧ k_ ≠ g) (.slice (some ⟨go10, 0, none⟩) t210.length co12) y225 := (by rw [hw, Ny225.out]; exact HP20.1); clear HP20; replace HI0 := Aside0.mk (IsS57.grown b8_3 hg (IsS57.own_neN HI0.out HO212.out (by decide))); replace HO222 := Aside0.mk (Kd.R_over' (v := (.slice (some ⟨go10, 0, none⟩) t210.length co12)) (cR_ HO222.out) (Kd.N_typed HO212.out) (by decide) hg); replace HB := Aside0.mk ((by rw [hw]; exact below_set (HB.out) (Nat.le_trans HL.out GB10.out) : Below w0.heap.size w0 w21)); replace HK := Aside0.mk (KeepBut.trans b8_0 (KeepBut.of_grown hg g) (Kd.N_base2 HO212.out)); replace HO212 := Aside0.mk (hp_); clear hg hw hp_))
   go_ret
   exact ⟨_, ce_, by refine cN_ ?_; exact Kd.N_mono HO212.out (fun _ hk => hk.1), cI_ HI0.out, cB1_ (IsS57.ge HI0.out), cK_ HK.out⟩
  rw [if_neg c9] at H
  exact absurd H (by simp)
 rw [if_neg c5] at H
 have c5b0 : (t216 == 0) = false := beq_eq_false_iff_ne.mpr c5
 have c5b1 : (t216 != 0) = true := bne_iff_ne.mpr c5
 by_cases c22 : t216 = 1
 ·rw [if_pos c22] at H
  have c22b0 : (t216 == 1) = true := beq_iff_eq.mpr c22
  have c22b1 : (t216 != 1) = false := bne_eq_false_iff_eq.mpr c22
  clear c22
  obtain ⟨y226, hy_⟩ : ∃ y_ : List Int, y_ = (([(-1), t214, 0, 4611686018427387904] : List Int)) := ⟨_, rfl⟩
  replace H : ((spec_l1Pick.f s0_0 t217 y226).bind fun bt229 => (if 0 ≤ t214 then (if t214 < (t210.length : Int) then (some ((t210.set (t214 : Int).toNat (⟨(rd_T36 t210 t214).f0, bt229.1, (rd_T36 t210 t214).f2, (rd_T36 t210 t214).f3, (rd_T36 t210 t214).f4, (rd_T36 t210 t214).f5, (rd_T36 t210 t214).f6⟩ : S36)), bt229.2)) else (none)) else (none))) = some (r1, r2) := yb_
  have Ny226 := Aside0.mk hy_
  clear hy_
  obtain ⟨⟨t229, t230⟩, A23, H⟩ := bnd_ H
  try dsimp only at H
  by_cases c24 : 0 ≤ t214
  rotate_left
  ·rw [if_neg c24] at H
   exact absurd H (by simp)
  rw [if_pos c24] at H
  have c24b0 := decide_eq_true c24
  clear c24
  by_cases c25 : t214 < (t210.length : Int)
  ·rw [if_pos c25] at H
   have c25b0 := decide_eq_true c25
   clear c25
   obtain ⟨y231, hy_⟩ : ∃ y_ : List (S36), y_ = (t210.set (t214 : Int).toNat (⟨(rd_T36 t210 t214).f0, t229, (rd_T36 t210 t214).f2, (rd_T36 t210 t214).f3, (rd_T36 t210 t214).f4, (rd_T36 t210 t214).f5, (rd_T36 t210 t214).f6⟩ : S36)) := ⟨_, rfl⟩
   replace H : (some (y231, t230)) = some (r1, r2) := yb_
   have Ny231 := Aside0.mk hy_
   clear hy_
   simp only [Option.some.injEq, Prod.mk.injEq] at H
   obtain ⟨rfl, rfl⟩ := H
   go_enter Tryz.func16, Tryz.ntmps16
   go_wp2_with (first | (refine gl_ 30 (some 6) Tryz.func30 #[.pointer (some ⟨g, 0, none⟩)] ?_; (with_reducible refine (spec_l3Draw.calls k g s0_0 s0_1 t210 t213 w0 _ ?side1 ?side2 A2.out).mono ?_); (case side1 => exact cI_ HI0.out); (case side2 => exact cB1_ (IsS57.ge HI0.out)); rintro e w27 ⟨v211, rfl, ho0, hi, hb, hk⟩; refine ⟨_, rfl, ?_⟩; have HO212 := Aside0.mk (Kd.N_lower (Kd.N_mono (ok' := fun k_ => (w.heap.size ≤ k_) ∧ k_ ≠ g) (Kd.S_N (Kd.S_bound ho0)) (fun k_ hk_ => ⟨(Nat.le_trans (keep_size (w := w) (g := g) (row := none) b8_0) hk_.2.1), (IsS57.fresh b8_3 k_ hk_.2.1)⟩)) (keep_size (w := w) (g := g) (row := none) b8_0)); replace HK := Aside0.mk (KeepBut.trans b8_0 hk (.inl rfl)); replace HB := Aside0.mk (hb); replace HI0 := Aside0.mk (hi); (try clear hb); (try clear hk); (try clear hi); (try clear ho0); obtain ⟨Ao28, co28, eo28⟩ := Kd.N_slice HO212.out; subst eo28) | (refine gl_ 31 (some 10) Tryz.func31 #[.pointer (some ⟨g, 0, none⟩), .int .i64 (t210.length : Int)] ?_; (with_reducible refine (spec_l1Next.calls g s0_0 t213 (t210.length : Int) t214 t215 w0 _ ?side1 ?side2 A3.out).mono ?_); (case side1 => exact cI_ HI0.out); (case side2 => exact cB1_ (IsS57.ge HI0.out)); rintro e w29 ⟨rfl, hi, hb, hk⟩; refine ⟨_, rfl, ?_⟩; replace HO212 := Aside0.mk (Kd.N_mono (Kd.N_keep (Kd.N_mono (ok := fun k_ => (((w.heap.size ≤ k_)) ∧ k_ ≠ g)) b8_2 (fun k_ hk_ => (⟨hk_, hk_.2⟩ : _ ∧ k_ ≠ g))) hk (fun _ h => h.2)) (fun _ h => h.1)); replace HK := Aside0.mk (KeepBut.trans b8_0 hk (.inl rfl)); replace HB := Aside0.mk (hb); replace HI0 := Aside0.mk (hi); (try clear hb); (try clear hk); (try clear hi)) | (refine gl_ 31 (some 12) Tryz.func31 #[.pointer (some ⟨g, 0, none⟩), .int .i64 24] ?_; (with_reducible refine (spec_l1Next.calls g s0_0 t215 24 t216 t217 w0 _ ?side1 ?side2 A4.out).mono ?_); (case side1 => exact cI_ HI0.out); (case side2 => exact cB1_ (IsS57.ge HI0.out)); rintro e w30 ⟨rfl, hi, hb, hk⟩; refine ⟨_, rfl, ?_⟩; replace HO212 := Aside0.mk (Kd.N_mono (Kd.N_keep (Kd.N_mono (ok := fun k_ => (((w.heap.size ≤ k_)) ∧ k_ ≠ g)) b8_2 (fun k_ hk_ => (⟨hk_, hk_.2⟩ : _ ∧ k_ ≠ g))) hk (fun _ h => h.2)) (fun _ h => h.1)); replace HK := Aside0.mk (KeepBut.trans b8_0 hk (.inl rfl)); replace HB := Aside0.mk (hb); replace HI0 := Aside0.mk (hi); (try clear hb); (try clear hk); (try clear hi)) | ((with_reducible refine gate_dst (N := 30) rfl ?_); refine Kd.R_lit (Kd.int .i64) _ 2 ?hg (N := 30) ?hd (xs := ([(-1), t214, 0, 4611686018427387904] : List Int)) (inner := [.int .i64 (-1), .int .i64 t214, .int .i64 0, .int .i64 4611686018427387904]) (ok := fun _ => True) (okp := fun _ => True) ?hr ?hp (fun _ hk => hk) trivial (Below.refl _ _) (Nat.le_refl _) (by simp) ?_; (case hd => rfl); (case hg => rfl); (case hr => first | (go_simp; done) | (go_simp; rfl)); (case hp => exact (Reps.one (show Kd.M (Kd.int .i64) _ _ _ (-1) [.int .i64 (-1)] from rfl) (Reps.one (show Kd.M (Kd.int .i64) _ _ _ t214 [.int .i64 t214] from rfl) (Reps.one (show Kd.M (Kd.int .i64) _ _ _ 0 [.int .i64 0] from rfl) (Reps.one (show Kd.M (Kd.int .i64) _ _ _ 4611686018427387904 [.int .i64 4611686018427387904] from rfl) (Reps.none _ _)))))); intro v227 w31 ho32 hb hg_ hnew_; clear hg_ hnew_; (first | rw [← Ny226.out] at ho32 | (simp only [Int.reduceToNat] at ho32; rw [← Ny226.out] at ho32)); replace HO212 := Aside0.mk (Kd.N_elder' b8_2 (Kd.R_base ho32) hb); have HO228 := Aside0.mk (Kd.R_lower (Kd.R_newM (M := fun k_ => (w.heap.size ≤ k_)) ho32 (keep_size (w := w) (g := g) (row := none) b8_0) (fun k_ h_ => h_)) (keep_size (w := w) (g := g) (row := none) b8_0)); replace HK := Aside0.mk (KeepBut.trans b8_0 (KeepBut.of_below hb g none) (.inl rfl)); replace HB := Aside0.mk (below_step b8_5 hb); replace HI0 := Aside0.mk (IsS57.below b8_3 hb); clear hb ho32; obtain ⟨Ao33, co33, eo33⟩ := Kd.R_slice HO228.out; subst eo33) | (refine gl_ 32 (some 31) Tryz.func32 #[.pointer (some ⟨g, 0, none⟩), .slice Ao33 y226.length co33] ?_; (with_reducible refine (spec_l1Pick.calls g s0_0 t217 _ _ y226 t229 t230 w0 _ ?side1 ?side2 ?side3 ?side4 ?side5 A23.out).mono ?_); (case side1 => exact cI_ HI0.out); (case side2 => exact cB1_ (IsS57.ge HI0.out)); (case side3 => exact cC_ ((Kd.R_reads' HO228.out).2.2)); (case side4 => exact (Kd.R_reads' HO228.out).2.1); (case side5 => exact (by exact far_slice (IsS57.own_ne HI0.out HO228.out (by decide)))); rintro e w34 ⟨rfl, hi, hb, hk⟩; refine ⟨_, rfl, ?_⟩; replace HO212 := Aside0.mk (Kd.N_mono (Kd.N_keep (Kd.N_mono (ok := fun k_ => ((((w.heap.size ≤ k_)) ∧ k_ ≠ g) ∧ some k_ ≠ (.slice Ao33 y226.length co33 : Value).ownBlock)) b8_2 (fun k_ hk_ => (⟨hk_, hk_.1.2⟩ : _ ∧ k_ ≠ g))) hk (fun _ h => h.2)) (fun _ h => h.1)); replace HO228 := Aside0.mk (Kd.R_mono (Kd.R_keep (IsS57.apart (show IsS57 w0 _ g s0_0 t217 from c8I0_) (cR_ HO228.out) (by decide)) hk (fun _ h => h.2)) (fun _ h => h.1)); replace HK := Aside0.mk (KeepBut.trans b8_0 hk (.inl rfl)); replace HB := Aside0.mk (hb); replace HI0 := Aside0.mk (hi); (try clear hb); (try clear hk); (try clear hi); have p26 : 0 ≤ (t214 : Int) := cd_; have q26 : (t214 : Int) < ((t210.length : Int) : Int) := cd_; obtain ⟨go26, co26, eo26, gb26, gl26, cl26, HG26⟩ := Kd.N_form HO212.out (by omega); (first | cases eo26 | (injection eo26 with ea_ en_ ec_; (first | subst ea_ | (injection ea_ with ea_; subst ea_)); subst ec_; clear en_)); have GB26 := Aside0.mk gb26; have GG26 := Aside0.mk HG26; clear gb26 gl26 HG26; obtain ⟨ce26, hcl26, hM26, hcc26, hfr26⟩ := Kd.N_elem HO212.out z36 (t214 : Int) p26 q26; obtain ⟨ua26_6, uc26_6, rfl, ul26_6, ge26_6⟩ := k36_openF hM26; have hx26_0 : w34.cell? ⟨go26, (t214 : Int).toNat * 7, none⟩ = some (.int .i64 ((rd_T36 t210 t214).f0)) := hcc26 0 _ rfl; have hx26_1 : w34.cell? ⟨go26, (t214 : Int).toNat * 7 + 1, none⟩ = some (.int .i64 ((rd_T36 t210 t214).f1)) := hcc26 1 _ rfl; have hx26_2 : w34.cell? ⟨go26, (t214 : Int).toNat * 7 + 2, none⟩ = some (.int .i64 ((rd_T36 t210 t214).f2)) := hcc26 2 _ rfl; have hx26_3 : w34.cell? ⟨go26, (t214 : Int).toNat * 7 + 3, none⟩ = some (.int .i64 ((rd_T36 t210 t214).f3)) := hcc26 3 _ rfl; have hx26_4 : w34.cell? ⟨go26, (t214 : Int).toNat * 7 + 4, none⟩ = some (.int .i64 ((rd_T36 t210 t214).f4)) := hcc26 4 _ rfl; have hx26_5 : w34.cell? ⟨go26, (t214 : Int).toNat * 7 + 5, none⟩ = some (.int .i64 ((rd_T36 t210 t214).f5)) := hcc26 5 _ rfl; have hx26_6 : w34.cell? ⟨go26, (t214 : Int).toNat * 7 + 6, none⟩ = some (.slice ua26_6 ((rd_T36 t210 t214).f6).length uc26_6) := hcc26 6 _ rfl; have hf26_0 : w34.frozen? ⟨go26, (t214 : Int).toNat * 7, none⟩ = false := hfr26 0; have hf26_1 : w34.frozen? ⟨go26, (t214 : Int).toNat * 7 + 1, none⟩ = false := hfr26 1; have hf26_2 : w34.frozen? ⟨go26, (t214 : Int).toNat * 7 + 2, none⟩ = false := hfr26 2; have hf26_3 : w34.frozen? ⟨go26, (t214 : Int).toNat * 7 + 3, none⟩ = false := hfr26 3; have hf26_4 : w34.frozen? ⟨go26, (t214 : Int).toNat * 7 + 4, none⟩ = false := hfr26 4; have hf26_5 : w34.frozen? ⟨go26, (t214 : Int).toNat * 7 + 5, none⟩ = false := hfr26 5; have hf26_6 : w34.frozen? ⟨go26, (t214 : Int).toNat * 7 + 6, none⟩ = false := hfr26 6; (try clear hM26); clear hcl26 hcc26 hfr26; replace p26 := eq_true p26; replace q26 := eq_true q26; have n_ := Aside0.mk (Kd.N_mono (ok' := (fun k_ => (w.heap.size ≤ k_) ∧ some k_ ≠ (.slice Ao33 y226.length co33 : Value).ownBlock ∧ k_ ≠ g)) HO212.out (fun k_ hk => ⟨hk.1.1, ⟨hk.2, hk.1.2⟩⟩)); clear HO212; have HO212 := n_; clear n_; have HX35 := Aside0.mk (show Kd.N k36 36 w34 w.heap.size (fun k_ => (w.heap.size ≤ k_) ∧ some k_ ≠ (.slice Ao33 y226.length co33 : Value).ownBlock ∧ k_ ≠ g) (.slice (some ⟨go26, 0, none⟩) t210.length co28) t210 from b8_2); obtain ⟨ce35, hcl35, hM35, hcc35, hfr35⟩ := Kd.N_elem HX35.out z36 (t214 : Int) (of_decide_eq_true ca_) (by have h_ : (t214 : Int) < ((t210.length : Int) : Int) := cd_; first | exact h_ | (have e_ := (Kd.N_reads' HO212.out).1; omega) | simpa using h_); obtain ⟨ua35_6, uc35_6, rfl, ul35_6, ge35_6⟩ := k36_openF hM35; have HP35 := Kd.N_seg HX35.out (t214 : Int) (of_decide_eq_true ca_) (by have h_ : (t214 : Int) < ((t210.length : Int) : Int) := cd_; first | exact h_ | (have e_ := (Kd.N_reads' HO212.out).1; omega) | simpa using h_) (seg := [.int .i64 t229]) (j := 1) hcl35 hcc35 (show 2 ≤ 7 from by decide) (x' := (⟨(rd_T36 t210 t214).f0, t229, (rd_T36 t210 t214).f2, (rd_T36 t210 t214).f3, (rd_T36 t210 t214).f4, (rd_T36 t210 t214).f5, (rd_T36 t210 t214).f6⟩ : S36)) (k36_mkF _ _ (⟨(rd_T36 t210 t214).f0, t229, (rd_T36 t210 t214).f2, (rd_T36 t210 t214).f3, (rd_T36 t210 t214).f4, (rd_T36 t210 t214).f5, (rd_T36 t210 t214).f6⟩ : S36) ul35_6 ge35_6) (fun _ hk => hk); have hx35_1 := hcc35 1 _ rfl; (try simp only [show (k36).sz = 7 from rfl, Nat.mul_one, Nat.add_zero] at hx35_1); have hf35_1 := hfr35 1; (try simp only [show (k36).sz = 7 from rfl, Nat.mul_one, Nat.add_zero] at hf35_1); (try clear hM35); clear hcl35 hcc35 hfr35) | ((with_reducible refine gate_store (t := 2) (p := 33) rfl ?_); refine store_event (t := 2) (p := 33) (v := ?vo_w36) (w1 := (w34.setCell ⟨go26, (t214 : Int).toNat * 7 + 1, none⟩ (.int .i64 t229))) ?hg ?ho ?hn ?hr ?_; (case ho => rfl); (case hg => rfl); (case hn => rfl); (case hr => first | (go_simp; done) | (go_simp; rfl)); intro w36 hw; have hg : w34.grownBy w36 (some go26) := (by rw [hw]; exact HP35.2); have hp_ : Kd.N k36 36 w36 w.heap.size (fun k_ => (w.heap.size ≤ k_) ∧ some k_ ≠ (.slice Ao33 y226.length co33 : Value).ownBlock ∧ k_ ≠ g) (.slice (some ⟨go26, 0, none⟩) t210.length co28) y231 := (by rw [hw, Ny231.out]; exact HP35.1); clear HP35; replace HI0 := Aside0.mk (IsS57.grown b8_3 hg (IsS57.own_neN HI0.out HO212.out (by decide))); replace HO228 := Aside0.mk (Kd.R_over' (v := (.slice (some ⟨go26, 0, none⟩) t210.length co28)) (cR_ HO228.out) (Kd.N_typed HO212.out) (by decide) hg); replace HB := Aside0.mk ((by rw [hw]; exact below_set (HB.out) (Nat.le_trans HL.out GB26.out) : Below w0.heap.size w0 w36)); replace HK := Aside0.mk (KeepBut.trans b8_0 (KeepBut.of_grown hg g) (Kd.N_base2 HO212.out)); replace HO212 := Aside0.mk (hp_); clear hg hw hp_))
   go_ret
   exact ⟨_, ce_, by refine cN_ ?_; exact Kd.N_mono HO212.out (fun _ hk => hk.1), cI_ HI0.out, cB1_ (IsS57.ge HI0.out), cK_ HK.out⟩
  rw [if_neg c25] at H
  exact absurd H (by simp)
 rw [if_neg c22] at H
 have c22b0 : (t216 == 1) = false := beq_eq_false_iff_ne.mpr c22
 have c22b1 : (t216 != 1) = true := bne_iff_ne.mpr c22
 by_cases c37 : t216 = 2
 ·rw [if_pos c37] at H
  have c37b0 : (t216 == 2) = true := beq_iff_eq.mpr c37
  have c37b1 : (t216 != 2) = false := bne_eq_false_iff_eq.mpr c37
  clear c37
  obtain ⟨y232, hy_⟩ : ∃ y_ : List Int, y_ = (([(-1), t214, 1] : List Int)) := ⟨_, rfl⟩
  replace H : ((spec_l1Pick.f s0_0 t217 y232).bind fun bt235 => (if 0 ≤ t214 then (if t214 < (t210.length : Int) then (some ((t210.set (t214 : Int).toNat (⟨(rd_T36 t210 t214).f0, (rd_T36 t210 t214).f1, bt235.1, (rd_T36 t210 t214).f3, (rd_T36 t210 t214).f4, (rd_T36 t210 t214).f5, (rd_T36 t210 t214).f6⟩ : S36)), bt235.2)) else (none)) else (none))) = some (r1, r2) := yb_
  have Ny232 := Aside0.mk hy_
  clear hy_
  obtain ⟨⟨t235, t236⟩, A38, H⟩ := bnd_ H
  try dsimp only at H
  by_cases c39 : 0 ≤ t214
  rotate_left
  ·rw [if_neg c39] at H
   exact absurd H (by simp)
  rw [if_pos c39] at H
  have c39b0 := decide_eq_true c39
  clear c39
  by_cases c40 : t214 < (t210.length : Int)
  ·rw [if_pos c40] at H
   have c40b0 := decide_eq_true c40
   clear c40
   obtain ⟨y237, hy_⟩ : ∃ y_ : List (S36), y_ = (t210.set (t214 : Int).toNat (⟨(rd_T36 t210 t214).f0, (rd_T36 t210 t214).f1, t235, (rd_T36 t210 t214).f3, (rd_T36 t210 t214).f4, (rd_T36 t210 t214).f5, (rd_T36 t210 t214).f6⟩ : S36)) := ⟨_, rfl⟩
   replace H : (some (y237, t236)) = some (r1, r2) := yb_
   have Ny237 := Aside0.mk hy_
   clear hy_
   simp only [Option.some.injEq, Prod.mk.injEq] at H
   obtain ⟨rfl, rfl⟩ := H
   go_enter Tryz.func16, Tryz.ntmps16
   go_wp2_with (first | (refine gl_ 30 (some 6) Tryz.func30 #[.pointer (some ⟨g, 0, none⟩)] ?_; (with_reducible refine (spec_l3Draw.calls k g s0_0 s0_1 t210 t213 w0 _ ?side1 ?side2 A2.out).mono ?_); (case side1 => exact cI_ HI0.out); (case side2 => exact cB1_ (IsS57.ge HI0.out)); rintro e w42 ⟨v211, rfl, ho0, hi, hb, hk⟩; refine ⟨_, rfl, ?_⟩; have HO212 := Aside0.mk (Kd.N_lower (Kd.N_mono (ok' := fun k_ => (w.heap.size ≤ k_) ∧ k_ ≠ g) (Kd.S_N (Kd.S_bound ho0)) (fun k_ hk_ => ⟨(Nat.le_trans (keep_size (w := w) (g := g) (row := none) b8_0) hk_.2.1), (IsS57.fresh b8_3 k_ hk_.2.1)⟩)) (keep_size (w := w) (g := g) (row := none) b8_0)); replace HK := Aside0.mk (KeepBut.trans b8_0 hk (.inl rfl)); replace HB := Aside0.mk (hb); replace HI0 := Aside0.mk (hi); (try clear hb); (try clear hk); (try clear hi); (try clear ho0); obtain ⟨Ao43, co43, eo43⟩ := Kd.N_slice HO212.out; subst eo43) | (refine gl_ 31 (some 10) Tryz.func31 #[.pointer (some ⟨g, 0, none⟩), .int .i64 (t210.length : Int)] ?_; (with_reducible refine (spec_l1Next.calls g s0_0 t213 (t210.length : Int) t214 t215 w0 _ ?side1 ?side2 A3.out).mono ?_); (case side1 => exact cI_ HI0.out); (case side2 => exact cB1_ (IsS57.ge HI0.out)); rintro e w44 ⟨rfl, hi, hb, hk⟩; refine ⟨_, rfl, ?_⟩; replace HO212 := Aside0.mk (Kd.N_mono (Kd.N_keep (Kd.N_mono (ok := fun k_ => (((w.heap.size ≤ k_)) ∧ k_ ≠ g)) b8_2 (fun k_ hk_ => (⟨hk_, hk_.2⟩ : _ ∧ k_ ≠ g))) hk (fun _ h => h.2)) (fun _ h => h.1)); replace HK := Aside0.mk (KeepBut.trans b8_0 hk (.inl rfl)); replace HB := Aside0.mk (hb); replace HI0 := Aside0.mk (hi); (try clear hb); (try clear hk); (try clear hi)) | (refine gl_ 31 (some 12) Tryz.func31 #[.pointer (some ⟨g, 0, none⟩), .int .i64 24] ?_; (with_reducible refine (spec_l1Next.calls g s0_0 t215 24 t216 t217 w0 _ ?side1 ?side2 A4.out).mono ?_); (case side1 => exact cI_ HI0.out); (case side2 => exact cB1_ (IsS57.ge HI0.out)); rintro e w45 ⟨rfl, hi, hb, hk⟩; refine ⟨_, rfl, ?_⟩; replace HO212 := Aside0.mk (Kd.N_mono (Kd.N_keep (Kd.N_mono (ok := fun k_ => (((w.heap.size ≤ k_)) ∧ k_ ≠ g)) b8_2 (fun k_ hk_ => (⟨hk_, hk_.2⟩ : _ ∧ k_ ≠ g))) hk (fun _ h => h.2)) (fun _ h => h.1)); replace HK := Aside0.mk (KeepBut.trans b8_0 hk (.inl rfl)); replace HB := Aside0.mk (hb); replace HI0 := Aside0.mk (hi); (try clear hb); (try clear hk); (try clear hi)) | ((with_reducible refine gate_dst (N := 40) rfl ?_); refine Kd.R_lit (Kd.int .i64) _ 2 ?hg (N := 40) ?hd (xs := ([(-1), t214, 1] : List Int)) (inner := [.int .i64 (-1), .int .i64 t214, .int .i64 1]) (ok := fun _ => True) (okp := fun _ => True) ?hr ?hp (fun _ hk => hk) trivial (Below.refl _ _) (Nat.le_refl _) (by simp) ?_; (case hd => rfl); (case hg => rfl); (case hr => first | (go_simp; done) | (go_simp; rfl)); (case hp => exact (Reps.one (show Kd.M (Kd.int .i64) _ _ _ (-1) [.int .i64 (-1)] from rfl) (Reps.one (show Kd.M (Kd.int .i64) _ _ _ t214 [.int .i64 t214] from rfl) (Reps.one (show Kd.M (Kd.int .i64) _ _ _ 1 [.int .i64 1] from rfl) (Reps.none _ _))))); intro v233 w46 ho47 hb hg_ hnew_; clear hg_ hnew_; (first | rw [← Ny232.out] at ho47 | (simp only [Int.reduceToNat] at ho47; rw [← Ny232.out] at ho47)); replace HO212 := Aside0.mk (Kd.N_elder' b8_2 (Kd.R_base ho47) hb); have HO234 := Aside0.mk (Kd.R_lower (Kd.R_newM (M := fun k_ => (w.heap.size ≤ k_)) ho47 (keep_size (w := w) (g := g) (row := none) b8_0) (fun k_ h_ => h_)) (keep_size (w := w) (g := g) (row := none) b8_0)); replace HK := Aside0.mk (KeepBut.trans b8_0 (KeepBut.of_below hb g none) (.inl rfl)); replace HB := Aside0.mk (below_step b8_5 hb); replace HI0 := Aside0.mk (IsS57.below b8_3 hb); clear hb ho47; obtain ⟨Ao48, co48, eo48⟩ := Kd.R_slice HO234.out; subst eo48) | (refine gl_ 32 (some 41) Tryz.func32 #[.pointer (some ⟨g, 0, none⟩), .slice Ao48 y232.length co48] ?_; (with_reducible refine (spec_l1Pick.calls g s0_0 t217 _ _ y232 t235 t236 w0 _ ?side1 ?side2 ?side3 ?side4 ?side5 A38.out).mono ?_); (case side1 => exact cI_ HI0.out); (case side2 => exact cB1_ (IsS57.ge HI0.out)); (case side3 => exact cC_ ((Kd.R_reads' HO234.out).2.2)); (case side4 => exact (Kd.R_reads' HO234.out).2.1); (case side5 => exact (by exact far_slice (IsS57.own_ne HI0.out HO234.out (by decide)))); rintro e w49 ⟨rfl, hi, hb, hk⟩; refine ⟨_, rfl, ?_⟩; replace HO212 := Aside0.mk (Kd.N_mono (Kd.N_keep (Kd.N_mono (ok := fun k_ => ((((w.heap.size ≤ k_)) ∧ k_ ≠ g) ∧ some k_ ≠ (.slice Ao48 y232.length co48 : Value).ownBlock)) b8_2 (fun k_ hk_ => (⟨hk_, hk_.1.2⟩ : _ ∧ k_ ≠ g))) hk (fun _ h => h.2)) (fun _ h => h.1)); replace HO234 := Aside0.mk (Kd.R_mono (Kd.R_keep (IsS57.apart (show IsS57 w0 _ g s0_0 t217 from c8I0_) (cR_ HO234.out) (by decide)) hk (fun _ h => h.2)) (fun _ h => h.1)); replace HK := Aside0.mk (KeepBut.trans b8_0 hk (.inl rfl)); replace HB := Aside0.mk (hb); replace HI0 := Aside0.mk (hi); (try clear hb); (try clear hk); (try clear hi); have p41 : 0 ≤ (t214 : Int) := cd_; have q41 : (t214 : Int) < ((t210.length : Int) : Int) := cd_; obtain ⟨go41, co41, eo41, gb41, gl41, cl41, HG41⟩ := Kd.N_form HO212.out (by omega); (first | cases eo41 | (injection eo41 with ea_ en_ ec_; (first | subst ea_ | (injection ea_ with ea_; subst ea_)); subst ec_; clear en_)); have GB41 := Aside0.mk gb41; have GG41 := Aside0.mk HG41; clear gb41 gl41 HG41; obtain ⟨ce41, hcl41, hM41, hcc41, hfr41⟩ := Kd.N_elem HO212.out z36 (t214 : Int) p41 q41; obtain ⟨ua41_6, uc41_6, rfl, ul41_6, ge41_6⟩ := k36_openF hM41; have hx41_0 : w49.cell? ⟨go41, (t214 : Int).toNat * 7, none⟩ = some (.int .i64 ((rd_T36 t210 t214).f0)) := hcc41 0 _ rfl; have hx41_1 : w49.cell? ⟨go41, (t214 : Int).toNat * 7 + 1, none⟩ = some (.int .i64 ((rd_T36 t210 t214).f1)) := hcc41 1 _ rfl; have hx41_2 : w49.cell? ⟨go41, (t214 : Int).toNat * 7 + 2, none⟩ = some (.int .i64 ((rd_T36 t210 t214).f2)) := hcc41 2 _ rfl; have hx41_3 : w49.cell? ⟨go41, (t214 : Int).toNat * 7 + 3, none⟩ = some (.int .i64 ((rd_T36 t210 t214).f3)) := hcc41 3 _ rfl; have hx41_4 : w49.cell? ⟨go41, (t214 : Int).toNat * 7 + 4, none⟩ = some (.int .i64 ((rd_T36 t210 t214).f4)) := hcc41 4 _ rfl; have hx41_5 : w49.cell? ⟨go41, (t214 : Int).toNat * 7 + 5, none⟩ = some (.int .i64 ((rd_T36 t210 t214).f5)) := hcc41 5 _ rfl; have hx41_6 : w49.cell? ⟨go41, (t214 : Int).toNat * 7 + 6, none⟩ = some (.slice ua41_6 ((rd_T36 t210 t214).f6).length uc41_6) := hcc41 6 _ rfl; have hf41_0 : w49.frozen? ⟨go41, (t214 : Int).toNat * 7, none⟩ = false := hfr41 0; have hf41_1 : w49.frozen? ⟨go41, (t214 : Int).toNat * 7 + 1, none⟩ = false := hfr41 1; have hf41_2 : w49.frozen? ⟨go41, (t214 : Int).toNat * 7 + 2, none⟩ = false := hfr41 2; have hf41_3 : w49.frozen? ⟨go41, (t214 : Int).toNat * 7 + 3, none⟩ = false := hfr41 3; have hf41_4 : w49.frozen? ⟨go41, (t214 : Int).toNat * 7 + 4, none⟩ = false := hfr41 4; have hf41_5 : w49.frozen? ⟨go41, (t214 : Int).toNat * 7 + 5, none⟩ = false := hfr41 5; have hf41_6 : w49.frozen? ⟨go41, (t214 : Int).toNat * 7 + 6, none⟩ = false := hfr41 6; (try clear hM41); clear hcl41 hcc41 hfr41; replace p41 := eq_true p41; replace q41 := eq_true q41; have n_ := Aside0.mk (Kd.N_mono (ok' := (fun k_ => (w.heap.size ≤ k_) ∧ some k_ ≠ (.slice Ao48 y232.length co48 : Value).ownBlock ∧ k_ ≠ g)) HO212.out (fun k_ hk => ⟨hk.1.1, ⟨hk.2, hk.1.2⟩⟩)); clear HO212; have HO212 := n_; clear n_; have HX50 := Aside0.mk (show Kd.N k36 36 w49 w.heap.size (fun k_ => (w.heap.size ≤ k_) ∧ some k_ ≠ (.slice Ao48 y232.length co48 : Value).ownBlock ∧ k_ ≠ g) (.slice (some ⟨go41, 0, none⟩) t210.length co43) t210 from b8_2); obtain ⟨ce50, hcl50, hM50, hcc50, hfr50⟩ := Kd.N_elem HX50.out z36 (t214 : Int) (of_decide_eq_true ca_) (by have h_ : (t214 : Int) < ((t210.length : Int) : Int) := cd_; first | exact h_ | (have e_ := (Kd.N_reads' HO212.out).1; omega) | simpa using h_); obtain ⟨ua50_6, uc50_6, rfl, ul50_6, ge50_6⟩ := k36_openF hM50; have HP50 := Kd.N_seg HX50.out (t214 : Int) (of_decide_eq_true ca_) (by have h_ : (t214 : Int) < ((t210.length : Int) : Int) := cd_; first | exact h_ | (have e_ := (Kd.N_reads' HO212.out).1; omega) | simpa using h_) (seg := [.int .i64 t235]) (j := 2) hcl50 hcc50 (show 3 ≤ 7 from by decide) (x' := (⟨(rd_T36 t210 t214).f0, (rd_T36 t210 t214).f1, t235, (rd_T36 t210 t214).f3, (rd_T36 t210 t214).f4, (rd_T36 t210 t214).f5, (rd_T36 t210 t214).f6⟩ : S36)) (k36_mkF _ _ (⟨(rd_T36 t210 t214).f0, (rd_T36 t210 t214).f1, t235, (rd_T36 t210 t214).f3, (rd_T36 t210 t214).f4, (rd_T36 t210 t214).f5, (rd_T36 t210 t214).f6⟩ : S36) ul50_6 ge50_6) (fun _ hk => hk); have hx50_2 := hcc50 2 _ rfl; (try simp only [show (k36).sz = 7 from rfl, Nat.mul_one, Nat.add_zero] at hx50_2); have hf50_2 := hfr50 2; (try simp only [show (k36).sz = 7 from rfl, Nat.mul_one, Nat.add_zero] at hf50_2); (try clear hM50); clear hcl50 hcc50 hfr50) | ((with_reducible refine gate_store (t := 2) (p := 43) rfl ?_); refine store_event (t := 2) (p := 43) (v := ?vo_w51) (w1 := (w49.setCell ⟨go41, (t214 : Int).toNat * 7 + 2, none⟩ (.int .i64 t235))) ?hg ?ho ?hn ?hr ?_; (case ho => rfl); (case hg => rfl); (case hn => rfl); (case hr => first | (go_simp; done) | (go_simp; rfl)); intro w51 hw; have hg : w49.grownBy w51 (some go41) := (by rw [hw]; exact HP50.2); have hp_ : Kd.N k36 36 w51 w.heap.size (fun k_ => (w.heap.size ≤ k_) ∧ some k_ ≠ (.slice Ao48 y232.length co48 : Value).ownBlock ∧ k_ ≠ g) (.slice (some ⟨go41, 0, none⟩) t210.length co43) y237 := (by rw [hw, Ny237.out]; exact HP50.1); clear HP50; replace HI0 := Aside0.mk (IsS57.grown b8_3 hg (IsS57.own_neN HI0.out HO212.out (by decide))); replace HO234 := Aside0.mk (Kd.R_over' (v := (.slice (some ⟨go41, 0, none⟩) t210.length co43)) (cR_ HO234.out) (Kd.N_typed HO212.out) (by decide) hg); replace HB := Aside0.mk ((by rw [hw]; exact below_set (HB.out) (Nat.le_trans HL.out GB41.out) : Below w0.heap.size w0 w51)); replace HK := Aside0.mk (KeepBut.trans b8_0 (KeepBut.of_grown hg g) (Kd.N_base2 HO212.out)); replace HO212 := Aside0.mk (hp_); clear hg hw hp_))
   go_ret
   exact ⟨_, ce_, by refine cN_ ?_; exact Kd.N_mono HO212.out (fun _ hk => hk.1), cI_ HI0.out, cB1_ (IsS57.ge HI0.out), cK_ HK.out⟩
  rw [if_neg c40] at H
  exact absurd H (by simp)
 rw [if_neg c37] at H
 have c37b0 : (t216 == 2) = false := beq_eq_false_iff_ne.mpr c37
 have c37b1 : (t216 != 2) = true := bne_iff_ne.mpr c37
 by_cases c52 : t216 = 3
 ·rw [if_pos c52] at H
  have c52b0 : (t216 == 3) = true := beq_iff_eq.mpr c52
  have c52b1 : (t216 != 3) = false := bne_eq_false_iff_eq.mpr c52
  clear c52
  obtain ⟨y238, hy_⟩ : ∃ y_ : List Int, y_ = (([(-1), 0, 4, 3, 1] : List Int)) := ⟨_, rfl⟩
  replace H : ((spec_l1Pick.f s0_0 t217 y238).bind fun bt241 => (if 0 ≤ t214 then (if t214 < (t210.length : Int) then (some ((t210.set (t214 : Int).toNat (⟨(rd_T36 t210 t214).f0, (rd_T36 t210 t214).f1, (rd_T36 t210 t214).f2, bt241.1, (rd_T36 t210 t214).f4, (rd_T36 t210 t214).f5, (rd_T36 t210 t214).f6⟩ : S36)), bt241.2)) else (none)) else (none))) = some (r1, r2) := yb_
  have Ny238 := Aside0.mk hy_
  clear hy_
  obtain ⟨⟨t241, t242⟩, A53, H⟩ := bnd_ H
  try dsimp only at H
  by_cases c54 : 0 ≤ t214
  rotate_left
  ·rw [if_neg c54] at H
   exact absurd H (by simp)
  rw [if_pos c54] at H
  have c54b0 := decide_eq_true c54
  clear c54
  by_cases c55 : t214 < (t210.length : Int)
  ·rw [if_pos c55] at H
   have c55b0 := decide_eq_true c55
   clear c55
   obtain ⟨y243, hy_⟩ : ∃ y_ : List (S36), y_ = (t210.set (t214 : Int).toNat (⟨(rd_T36 t210 t214).f0, (rd_T36 t210 t214).f1, (rd_T36 t210 t214).f2, t241, (rd_T36 t210 t214).f4, (rd_T36 t210 t214).f5, (rd_T36 t210 t214).f6⟩ : S36)) := ⟨_, rfl⟩
   replace H : (some (y243, t242)) = some (r1, r2) := yb_
   have Ny243 := Aside0.mk hy_
   clear hy_
   simp only [Option.some.injEq, Prod.mk.injEq] at H
   obtain ⟨rfl, rfl⟩ := H
   go_enter Tryz.func16, Tryz.ntmps16
   go_wp2_with (first | (refine gl_ 30 (some 6) Tryz.func30 #[.pointer (some ⟨g, 0, none⟩)] ?_; (with_reducible refine (spec_l3Draw.calls k g s0_0 s0_1 t210 t213 w0 _ ?side1 ?side2 A2.out).mono ?_); (case side1 => exact cI_ HI0.out); (case side2 => exact cB1_ (IsS57.ge HI0.out)); rintro e w57 ⟨v211, rfl, ho0, hi, hb, hk⟩; refine ⟨_, rfl, ?_⟩; have HO212 := Aside0.mk (Kd.N_lower (Kd.N_mono (ok' := fun k_ => (w.heap.size ≤ k_) ∧ k_ ≠ g) (Kd.S_N (Kd.S_bound ho0)) (fun k_ hk_ => ⟨(Nat.le_trans (keep_size (w := w) (g := g) (row := none) b8_0) hk_.2.1), (IsS57.fresh b8_3 k_ hk_.2.1)⟩)) (keep_size (w := w) (g := g) (row := none) b8_0)); replace HK := Aside0.mk (KeepBut.trans b8_0 hk (.inl rfl)); replace HB := Aside0.mk (hb); replace HI0 := Aside0.mk (hi); (try clear hb); (try clear hk); (try clear hi); (try clear ho0); obtain ⟨Ao58, co58, eo58⟩ := Kd.N_slice HO212.out; subst eo58) | (refine gl_ 31 (some 10) Tryz.func31 #[.pointer (some ⟨g, 0, none⟩), .int .i64 (t210.length : Int)] ?_; (with_reducible refine (spec_l1Next.calls g s0_0 t213 (t210.length : Int) t214 t215 w0 _ ?side1 ?side2 A3.out).mono ?_); (case side1 => exact cI_ HI0.out); (case side2 => exact cB1_ (IsS57.ge HI0.out)); rintro e w59 ⟨rfl, hi, hb, hk⟩; refine ⟨_, rfl, ?_⟩; replace HO212 := Aside0.mk (Kd.N_mono (Kd.N_keep (Kd.N_mono (ok := fun k_ => (((w.heap.size ≤ k_)) ∧ k_ ≠ g)) b8_2 (fun k_ hk_ => (⟨hk_, hk_.2⟩ : _ ∧ k_ ≠ g))) hk (fun _ h => h.2)) (fun _ h => h.1)); replace HK := Aside0.mk (KeepBut.trans b8_0 hk (.inl rfl)); replace HB := Aside0.mk (hb); replace HI0 := Aside0.mk (hi); (try clear hb); (try clear hk); (try clear hi)) | (refine gl_ 31 (some 12) Tryz.func31 #[.pointer (some ⟨g, 0, none⟩), .int .i64 24] ?_; (with_reducible refine (spec_l1Next.calls g s0_0 t215 24 t216 t217 w0 _ ?side1 ?side2 A4.out).mono ?_); (case side1 => exact cI_ HI0.out); (case side2 => exact cB1_ (IsS57.ge HI0.out)); rintro e w60 ⟨rfl, hi, hb, hk⟩; refine ⟨_, rfl, ?_⟩; replace HO212 := Aside0.mk (Kd.N_mono (Kd.N_keep (Kd.N_mono (ok := fun k_ => (((w.heap.size ≤ k_)) ∧ k_ ≠ g)) b8_2 (fun k_ hk_ => (⟨hk_, hk_.2⟩ : _ ∧ k_ ≠ g))) hk (fun _ h => h.2)) (fun _ h => h.1)); replace HK := Aside0.mk (KeepBut.trans b8_0 hk (.inl rfl)); replace HB := Aside0.mk (hb); replace HI0 := Aside0.mk (hi); (try clear hb); (try clear hk); (try clear hi)) | ((with_reducible refine gate_dst (N := 49) rfl ?_); refine Kd.R_lit (Kd.int .i64) _ 2 ?hg (N := 49) ?hd (xs := ([(-1), 0, 4, 3, 1] : List Int)) (inner := [.int .i64 (-1), .int .i64 0, .int .i64 4, .int .i64 3, .int .i64 1]) (ok := fun _ => True) (okp := fun _ => True) ?hr ?hp (fun _ hk => hk) trivial (Below.refl _ _) (Nat.le_refl _) (by simp) ?_; (case hd => rfl); (case hg => rfl); (case hr => first | (go_simp; done) | (go_simp; rfl)); (case hp => exact (Reps.one (show Kd.M (Kd.int .i64) _ _ _ (-1) [.int .i64 (-1)] from rfl) (Reps.one (show Kd.M (Kd.int .i64) _ _ _ 0 [.int .i64 0] from rfl) (Reps.one (show Kd.M (Kd.int .i64) _ _ _ 4 [.int .i64 4] from rfl) (Reps.one (show Kd.M (Kd.int .i64) _ _ _ 3 [.int .i64 3] from rfl) (Reps.one (show Kd.M (Kd.int .i64) _ _ _ 1 [.int .i64 1] from rfl) (Reps.none _ _))))))); intro v239 w61 ho62 hb hg_ hnew_; clear hg_ hnew_; (first | rw [← Ny238.out] at ho62 | (simp only [Int.reduceToNat] at ho62; rw [← Ny238.out] at ho62)); replace HO212 := Aside0.mk (Kd.N_elder' b8_2 (Kd.R_base ho62) hb); have HO240 := Aside0.mk (Kd.R_lower (Kd.R_newM (M := fun k_ => (w.heap.size ≤ k_)) ho62 (keep_size (w := w) (g := g) (row := none) b8_0) (fun k_ h_ => h_)) (keep_size (w := w) (g := g) (row := none) b8_0)); replace HK := Aside0.mk (KeepBut.trans b8_0 (KeepBut.of_below hb g none) (.inl rfl)); replace HB := Aside0.mk (below_step b8_5 hb); replace HI0 := Aside0.mk (IsS57.below b8_3 hb); clear hb ho62; obtain ⟨Ao63, co63, eo63⟩ := Kd.R_slice HO240.out; subst eo63) | (refine gl_ 32 (some 50) Tryz.func32 #[.pointer (some ⟨g, 0, none⟩), .slice Ao63 y238.length co63] ?_; (with_reducible refine (spec_l1Pick.calls g s0_0 t217 _ _ y238 t241 t242 w0 _ ?side1 ?side2 ?side3 ?side4 ?side5 A53.out).mono ?_); (case side1 => exact cI_ HI0.out); (case side2 => exact cB1_ (IsS57.ge HI0.out)); (case side3 => exact cC_ ((Kd.R_reads' HO240.out).2.2)); (case side4 => exact (Kd.R_reads' HO240.out).2.1); (case side5 => exact (by exact far_slice (IsS57.own_ne HI0.out HO240.out (by decide)))); rintro e w64 ⟨rfl, hi, hb, hk⟩; refine ⟨_, rfl, ?_⟩; replace HO212 := Aside0.mk (Kd.N_mono (Kd.N_keep (Kd.N_mono (ok := fun k_ => ((((w.heap.size ≤ k_)) ∧ k_ ≠ g) ∧ some k_ ≠ (.slice Ao63 y238.length co63 : Value).ownBlock)) b8_2 (fun k_ hk_ => (⟨hk_, hk_.1.2⟩ : _ ∧ k_ ≠ g))) hk (fun _ h => h.2)) (fun _ h => h.1)); replace HO240 := Aside0.mk (Kd.R_mono (Kd.R_keep (IsS57.apart (show IsS57 w0 _ g s0_0 t217 from c8I0_) (cR_ HO240.out) (by decide)) hk (fun _ h => h.2)) (fun _ h => h.1)); replace HK := Aside0.mk (KeepBut.trans b8_0 hk (.inl rfl)); replace HB := Aside0.mk (hb); replace HI0 := Aside0.mk (hi); (try clear hb); (try clear hk); (try clear hi); have p56 : 0 ≤ (t214 : Int) := cd_; have q56 : (t214 : Int) < ((t210.length : Int) : Int) := cd_; obtain ⟨go56, co56, eo56, gb56, gl56, cl56, HG56⟩ := Kd.N_form HO212.out (by omega); (first | cases eo56 | (injection eo56 with ea_ en_ ec_; (first | subst ea_ | (injection ea_ with ea_; subst ea_)); subst ec_; clear en_)); have GB56 := Aside0.mk gb56; have GG56 := Aside0.mk HG56; clear gb56 gl56 HG56; obtain ⟨ce56, hcl56, hM56, hcc56, hfr56⟩ := Kd.N_elem HO212.out z36 (t214 : Int) p56 q56; obtain ⟨ua56_6, uc56_6, rfl, ul56_6, ge56_6⟩ := k36_openF hM56; have hx56_0 : w64.cell? ⟨go56, (t214 : Int).toNat * 7, none⟩ = some (.int .i64 ((rd_T36 t210 t214).f0)) := hcc56 0 _ rfl; have hx56_1 : w64.cell? ⟨go56, (t214 : Int).toNat * 7 + 1, none⟩ = some (.int .i64 ((rd_T36 t210 t214).f1)) := hcc56 1 _ rfl; have hx56_2 : w64.cell? ⟨go56, (t214 : Int).toNat * 7 + 2, none⟩ = some (.int .i64 ((rd_T36 t210 t214).f2)) := hcc56 2 _ rfl; have hx56_3 : w64.cell? ⟨go56, (t214 : Int).toNat * 7 + 3, none⟩ = some (.int .i64 ((rd_T36 t210 t214).f3)) := hcc56 3 _ rfl; have hx56_4 : w64.cell? ⟨go56, (t214 : Int).toNat * 7 + 4, none⟩ = some (.int .i64 ((rd_T36 t210 t214).f4)) := hcc56 4 _ rfl; have hx56_5 : w64.cell? ⟨go56, (t214 : Int).toNat * 7 + 5, none⟩ = some (.int .i64 ((rd_T36 t210 t214).f5)) := hcc56 5 _ rfl; have hx56_6 : w64.cell? ⟨go56, (t214 : Int).toNat * 7 + 6, none⟩ = some (.slice ua56_6 ((rd_T36 t210 t214).f6).length uc56_6) := hcc56 6 _ rfl; have hf56_0 : w64.frozen? ⟨go56, (t214 : Int).toNat * 7, none⟩ = false := hfr56 0; have hf56_1 : w64.frozen? ⟨go56, (t214 : Int).toNat * 7 + 1, none⟩ = false := hfr56 1; have hf56_2 : w64.frozen? ⟨go56, (t214 : Int).toNat * 7 + 2, none⟩ = false := hfr56 2; have hf56_3 : w64.frozen? ⟨go56, (t214 : Int).toNat * 7 + 3, none⟩ = false := hfr56 3; have hf56_4 : w64.frozen? ⟨go56, (t214 : Int).toNat * 7 + 4, none⟩ = false := hfr56 4; have hf56_5 : w64.frozen? ⟨go56, (t214 : Int).toNat * 7 + 5, none⟩ = false := hfr56 5; have hf56_6 : w64.frozen? ⟨go56, (t214 : Int).toNat * 7 + 6, none⟩ = false := hfr56 6; (try clear hM56); clear hcl56 hcc56 hfr56; replace p56 := eq_true p56; replace q56 := eq_true q56; have n_ := Aside0.mk (Kd.N_mono (ok' := (fun k_ => (w.heap.size ≤ k_) ∧ some k_ ≠ (.slice Ao63 y238.length co63 : Value).ownBlock ∧ k_ ≠ g)) HO212.out (fun k_ hk => ⟨hk.1.1, ⟨hk.2, hk.1.2⟩⟩)); clear HO212; have HO212 := n_; clear n_; have HX65 := Aside0.mk (show Kd.N k36 36 w64 w.heap.size (fun k_ => (w.heap.size ≤ k_) ∧ some k_ ≠ (.slice Ao63 y238.length co63 : Value).ownBlock ∧ k_ ≠ g) (.slice (some ⟨go56, 0, none⟩) t210.length co58) t210 from b8_2); obtain ⟨ce65, hcl65, hM65, hcc65, hfr65⟩ := Kd.N_elem HX65.out z36 (t214 : Int) (of_decide_eq_true ca_) (by have h_ : (t214 : Int) < ((t210.length : Int) : Int) := cd_; first | exact h_ | (have e_ := (Kd.N_reads' HO212.out).1; omega) | simpa using h_); obtain ⟨ua65_6, uc65_6, rfl, ul65_6, ge65_6⟩ := k36_openF hM65; have HP65 := Kd.N_seg HX65.out (t214 : Int) (of_decide_eq_true ca_) (by have h_ : (t214 : Int) < ((t210.length : Int) : Int) := cd_; first | exact h_ | (have e_ := (Kd.N_reads' HO212.out).1; omega) | simpa using h_) (seg := [.int .i64 t241]) (j := 3) hcl65 hcc65 (show 4 ≤ 7 from by decide) (x' := (⟨(rd_T36 t210 t214).f0, (rd_T36 t210 t214).f1, (rd_T36 t210 t214).f2, t241, (rd_T36 t210 t214).f4, (rd_T36 t210 t214).f5, (rd_T36 t210 t214).f6⟩ : S36)) (k36_mkF _ _ (⟨(rd_T36 t210 t214).f0, (rd_T36 t210 t214).f1, (rd_T36 t210 t214).f2, t241, (rd_T36 t210 t214).f4, (rd_T36 t210 t214).f5, (rd_T36 t210 t214).f6⟩ : S36) ul65_6 ge65_6) (fun _ hk => hk); have hx65_3 := hcc65 3 _ rfl; (try simp only [show (k36).sz = 7 from rfl, Nat.mul_one, Nat.add_zero] at hx65_3); have hf65_3 := hfr65 3; (try simp only [show (k36).sz = 7 from rfl, Nat.mul_one, Nat.add_zero] at hf65_3); (try clear hM65); clear hcl65 hcc65 hfr65) | ((with_reducible refine gate_store (t := 2) (p := 52) rfl ?_); refine store_event (t := 2) (p := 52) (v := ?vo_w66) (w1 := (w64.setCell ⟨go56, (t214 : Int).toNat * 7 + 3, none⟩ (.int .i64 t241))) ?hg ?ho ?hn ?hr ?_; (case ho => rfl); (case hg => rfl); (case hn => rfl); (case hr => first | (go_simp; done) | (go_simp; rfl)); intro w66 hw; have hg : w64.grownBy w66 (some go56) := (by rw [hw]; exact HP65.2); have hp_ : Kd.N k36 36 w66 w.heap.size (fun k_ => (w.heap.size ≤ k_) ∧ some k_ ≠ (.slice Ao63 y238.length co63 : Value).ownBlock ∧ k_ ≠ g) (.slice (some ⟨go56, 0, none⟩) t210.length co58) y243 := (by rw [hw, Ny243.out]; exact HP65.1); clear HP65; replace HI0 := Aside0.mk (IsS57.grown b8_3 hg (IsS57.own_neN HI0.out HO212.out (by decide))); replace HO240 := Aside0.mk (Kd.R_over' (v := (.slice (some ⟨go56, 0, none⟩) t210.length co58)) (cR_ HO240.out) (Kd.N_typed HO212.out) (by decide) hg); replace HB := Aside0.mk ((by rw [hw]; exact below_set (HB.out) (Nat.le_trans HL.out GB56.out) : Below w0.heap.size w0 w66)); replace HK := Aside0.mk (KeepBut.trans b8_0 (KeepBut.of_grown hg g) (Kd.N_base2 HO212.out)); replace HO212 := Aside0.mk (hp_); clear hg hw hp_))
   go_ret
   exact ⟨_, ce_, by refine cN_ ?_; exact Kd.N_mono HO212.out (fun _ hk => hk.1), cI_ HI0.out, cB1_ (IsS57.ge HI0.out), cK_ HK.out⟩
  rw [if_neg c55] at H
  exact absurd H (by simp)
 rw [if_neg c52] at H
 have c52b0 : (t216 == 3) = false := beq_eq_false_iff_ne.mpr c52
 have c52b1 : (t216 != 3) = true := bne_iff_ne.mpr c52
 by_cases c67 : t216 = 4
 rotate_left
 ·rw [if_neg c67] at H
  have c67b0 : (t216 == 4) = false := beq_eq_false_iff_ne.mpr c67
  have c67b1 : (t216 != 4) = true := bne_iff_ne.mpr c67
  by_cases c88 : t216 = 5
  ·rw [if_pos c88] at H
   have c88b0 : (t216 == 5) = true := beq_iff_eq.mpr c88
   have c88b1 : (t216 != 5) = false := bne_eq_false_iff_eq.mpr c88
   clear c88
   obtain ⟨y257, hy_⟩ : ∃ y_ : List Int, y_ = (([1, 3] : List Int)) := ⟨_, rfl⟩
   replace H : ((spec_l1Pick.f s0_0 t217 y257).bind fun bt260 => (if 0 ≤ t214 then (if t214 < (t210.length : Int) then (some ((t210.set (t214 : Int).toNat (⟨(rd_T36 t210 t214).f0, (rd_T36 t210 t214).f1, (rd_T36 t210 t214).f2, (rd_T36 t210 t214).f3, bt260.1, (rd_T36 t210 t214).f5, (rd_T36 t210 t214).f6⟩ : S36)), bt260.2)) else (none)) else (none))) = some (r1, r2) := yb_
   have Ny257 := Aside0.mk hy_
   clear hy_
   obtain ⟨⟨t260, t261⟩, A89, H⟩ := bnd_ H
   try dsimp only at H
   by_cases c90 : 0 ≤ t214
   rotate_left
   ·rw [if_neg c90] at H
    exact absurd H (by simp)
   rw [if_pos c90] at H
   have c90b0 := decide_eq_true c90
   clear c90
   by_cases c91 : t214 < (t210.length : Int)
   ·rw [if_pos c91] at H
    have c91b0 := decide_eq_true c91
    clear c91
    obtain ⟨y262, hy_⟩ : ∃ y_ : List (S36), y_ = (t210.set (t214 : Int).toNat (⟨(rd_T36 t210 t214).f0, (rd_T36 t210 t214).f1, (rd_T36 t210 t214).f2, (rd_T36 t210 t214).f3, t260, (rd_T36 t210 t214).f5, (rd_T36 t210 t214).f6⟩ : S36)) := ⟨_, rfl⟩
    replace H : (some (y262, t261)) = some (r1, r2) := yb_
    have Ny262 := Aside0.mk hy_
    clear hy_
    simp only [Option.some.injEq, Prod.mk.injEq] at H
    obtain ⟨rfl, rfl⟩ := H
    go_enter Tryz.func16, Tryz.ntmps16
    go_wp2_with (first | (refine gl_ 30 (some 6) Tryz.func30 #[.pointer (some ⟨g, 0, none⟩)] ?_; (with_reducible refine (spec_l3Draw.calls k g s0_0 s0_1 t210 t213 w0 _ ?side1 ?side2 A2.out).mono ?_); (case side1 => exact cI_ HI0.out); (case side2 => exact cB1_ (IsS57.ge HI0.out)); rintro e w93 ⟨v211, rfl, ho0, hi, hb, hk⟩; refine ⟨_, rfl, ?_⟩; have HO212 := Aside0.mk (Kd.N_lower (Kd.N_mono (ok' := fun k_ => (w.heap.size ≤ k_) ∧ k_ ≠ g) (Kd.S_N (Kd.S_bound ho0)) (fun k_ hk_ => ⟨(Nat.le_trans (keep_size (w := w) (g := g) (row := none) b8_0) hk_.2.1), (IsS57.fresh b8_3 k_ hk_.2.1)⟩)) (keep_size (w := w) (g := g) (row := none) b8_0)); replace HK := Aside0.mk (KeepBut.trans b8_0 hk (.inl rfl)); replace HB := Aside0.mk (hb); replace HI0 := Aside0.mk (hi); (try clear hb); (try clear hk); (try clear hi); (try clear ho0); obtain ⟨Ao94, co94, eo94⟩ := Kd.N_slice HO212.out; subst eo94) | (refine gl_ 31 (some 10) Tryz.func31 #[.pointer (some ⟨g, 0, none⟩), .int .i64 (t210.length : Int)] ?_; (with_reducible refine (spec_l1Next.calls g s0_0 t213 (t210.length : Int) t214 t215 w0 _ ?side1 ?side2 A3.out).mono ?_); (case side1 => exact cI_ HI0.out); (case side2 => exact cB1_ (IsS57.ge HI0.out)); rintro e w95 ⟨rfl, hi, hb, hk⟩; refine ⟨_, rfl, ?_⟩; replace HO212 := Aside0.mk (Kd.N_mono (Kd.N_keep (Kd.N_mono (ok := fun k_ => (((w.heap.size ≤ k_)) ∧ k_ ≠ g)) b8_2 (fun k_ hk_ => (⟨hk_, hk_.2⟩ : _ ∧ k_ ≠ g))) hk (fun _ h => h.2)) (fun _ h => h.1)); replace HK := Aside0.mk (KeepBut.trans b8_0 hk (.inl rfl)); replace HB := Aside0.mk (hb); replace HI0 := Aside0.mk (hi); (try clear hb); (try clear hk); (try clear hi)) | (refine gl_ 31 (some 12) Tryz.func31 #[.pointer (some ⟨g, 0, none⟩), .int .i64 24] ?_; (with_reducible refine (spec_l1Next.calls g s0_0 t215 24 t216 t217 w0 _ ?side1 ?side2 A4.out).mono ?_); (case side1 => exact cI_ HI0.out); (case side2 => exact cB1_ (IsS57.ge HI0.out)); rintro e w96 ⟨rfl, hi, hb, hk⟩; refine ⟨_, rfl, ?_⟩; replace HO212 := Aside0.mk (Kd.N_mono (Kd.N_keep (Kd.N_mono (ok := fun k_ => (((w.heap.size ≤ k_)) ∧ k_ ≠ g)) b8_2 (fun k_ hk_ => (⟨hk_, hk_.2⟩ : _ ∧ k_ ≠ g))) hk (fun _ h => h.2)) (fun _ h => h.1)); replace HK := Aside0.mk (KeepBut.trans b8_0 hk (.inl rfl)); replace HB := Aside0.mk (hb); replace HI0 := Aside0.mk (hi); (try clear hb); (try clear hk); (try clear hi)) | ((with_reducible refine gate_dst (N := 74) rfl ?_); refine Kd.R_lit (Kd.int .i64) _ 2 ?hg (N := 74) ?hd (xs := ([1, 3] : List Int)) (inner := [.int .i64 1, .int .i64 3]) (ok := fun _ => True) (okp := fun _ => True) ?hr ?hp (fun _ hk => hk) trivial (Below.refl _ _) (Nat.le_refl _) (by simp) ?_; (case hd => rfl); (case hg => rfl); (case hr => first | (go_simp; done) | (go_simp; rfl)); (case hp => exact (Reps.one (show Kd.M (Kd.int .i64) _ _ _ 1 [.int .i64 1] from rfl) (Reps.one (show Kd.M (Kd.int .i64) _ _ _ 3 [.int .i64 3] from rfl) (Reps.none _ _)))); intro v258 w97 ho98 hb hg_ hnew_; clear hg_ hnew_; (first | rw [← Ny257.out] at ho98 | (simp only [Int.reduceToNat] at ho98; rw [← Ny257.out] at ho98)); replace HO212 := Aside0.mk (Kd.N_elder' b8_2 (Kd.R_base ho98) hb); have HO259 := Aside0.mk (Kd.R_lower (Kd.R_newM (M := fun k_ => (w.heap.size ≤ k_)) ho98 (keep_size (w := w) (g := g) (row := none) b8_0) (fun k_ h_ => h_)) (keep_size (w := w) (g := g) (row := none) b8_0)); replace HK := Aside0.mk (KeepBut.trans b8_0 (KeepBut.of_below hb g none) (.inl rfl)); replace HB := Aside0.mk (below_step b8_5 hb); replace HI0 := Aside0.mk (IsS57.below b8_3 hb); clear hb ho98; obtain ⟨Ao99, co99, eo99⟩ := Kd.R_slice HO259.out; subst eo99) | (refine gl_ 32 (some 75) Tryz.func32 #[.pointer (some ⟨g, 0, none⟩), .slice Ao99 y257.length co99] ?_; (with_reducible refine (spec_l1Pick.calls g s0_0 t217 _ _ y257 t260 t261 w0 _ ?side1 ?side2 ?side3 ?side4 ?side5 A89.out).mono ?_); (case side1 => exact cI_ HI0.out); (case side2 => exact cB1_ (IsS57.ge HI0.out)); (case side3 => exact cC_ ((Kd.R_reads' HO259.out).2.2)); (case side4 => exact (Kd.R_reads' HO259.out).2.1); (case side5 => exact (by exact far_slice (IsS57.own_ne HI0.out HO259.out (by decide)))); rintro e w100 ⟨rfl, hi, hb, hk⟩; refine ⟨_, rfl, ?_⟩; replace HO212 := Aside0.mk (Kd.N_mono (Kd.N_keep (Kd.N_mono (ok := fun k_ => ((((w.heap.size ≤ k_)) ∧ k_ ≠ g) ∧ some k_ ≠ (.slice Ao99 y257.length co99 : Value).ownBlock)) b8_2 (fun k_ hk_ => (⟨hk_, hk_.1.2⟩ : _ ∧ k_ ≠ g))) hk (fun _ h => h.2)) (fun _ h => h.1)); replace HO259 := Aside0.mk (Kd.R_mono (Kd.R_keep (IsS57.apart (show IsS57 w0 _ g s0_0 t217 from c8I0_) (cR_ HO259.out) (by decide)) hk (fun _ h => h.2)) (fun _ h => h.1)); replace HK := Aside0.mk (KeepBut.trans b8_0 hk (.inl rfl)); replace HB := Aside0.mk (hb); replace HI0 := Aside0.mk (hi); (try clear hb); (try clear hk); (try clear hi); have p92 : 0 ≤ (t214 : Int) := cd_; have q92 : (t214 : Int) < ((t210.length : Int) : Int) := cd_; obtain ⟨go92, co92, eo92, gb92, gl92, cl92, HG92⟩ := Kd.N_form HO212.out (by omega); (first | cases eo92 | (injection eo92 with ea_ en_ ec_; (first | subst ea_ | (injection ea_ with ea_; subst ea_)); subst ec_; clear en_)); have GB92 := Aside0.mk gb92; have GG92 := Aside0.mk HG92; clear gb92 gl92 HG92; obtain ⟨ce92, hcl92, hM92, hcc92, hfr92⟩ := Kd.N_elem HO212.out z36 (t214 : Int) p92 q92; obtain ⟨ua92_6, uc92_6, rfl, ul92_6, ge92_6⟩ := k36_openF hM92; have hx92_0 : w100.cell? ⟨go92, (t214 : Int).toNat * 7, none⟩ = some (.int .i64 ((rd_T36 t210 t214).f0)) := hcc92 0 _ rfl; have hx92_1 : w100.cell? ⟨go92, (t214 : Int).toNat * 7 + 1, none⟩ = some (.int .i64 ((rd_T36 t210 t214).f1)) := hcc92 1 _ rfl; have hx92_2 : w100.cell? ⟨go92, (t214 : Int).toNat * 7 + 2, none⟩ = some (.int .i64 ((rd_T36 t210 t214).f2)) := hcc92 2 _ rfl; have hx92_3 : w100.cell? ⟨go92, (t214 : Int).toNat * 7 + 3, none⟩ = some (.int .i64 ((rd_T36 t210 t214).f3)) := hcc92 3 _ rfl; have hx92_4 : w100.cell? ⟨go92, (t214 : Int).toNat * 7 + 4, none⟩ = some (.int .i64 ((rd_T36 t210 t214).f4)) := hcc92 4 _ rfl; have hx92_5 : w100.cell? ⟨go92, (t214 : Int).toNat * 7 + 5, none⟩ = some (.int .i64 ((rd_T36 t210 t214).f5)) := hcc92 5 _ rfl; have hx92_6 : w100.cell? ⟨go92, (t214 : Int).toNat * 7 + 6, none⟩ = some (.slice ua92_6 ((rd_T36 t210 t214).f6).length uc92_6) := hcc92 6 _ rfl; have hf92_0 : w100.frozen? ⟨go92, (t214 : Int).toNat * 7, none⟩ = false := hfr92 0; have hf92_1 : w100.frozen? ⟨go92, (t214 : Int).toNat * 7 + 1, none⟩ = false := hfr92 1; have hf92_2 : w100.frozen? ⟨go92, (t214 : Int).toNat * 7 + 2, none⟩ = false := hfr92 2; have hf92_3 : w100.frozen? ⟨go92, (t214 : Int).toNat * 7 + 3, none⟩ = false := hfr92 3; have hf92_4 : w100.frozen? ⟨go92, (t214 : Int).toNat * 7 + 4, none⟩ = false := hfr92 4; have hf92_5 : w100.frozen? ⟨go92, (t214 : Int).toNat * 7 + 5, none⟩ = false := hfr92 5; have hf92_6 : w100.frozen? ⟨go92, (t214 : Int).toNat * 7 + 6, none⟩ = false := hfr92 6; (try clear hM92); clear hcl92 hcc92 hfr92; replace p92 := eq_true p92; replace q92 := eq_true q92; have n_ := Aside0.mk (Kd.N_mono (ok' := (fun k_ => (w.heap.size ≤ k_) ∧ some k_ ≠ (.slice Ao99 y257.length co99 : Value).ownBlock ∧ k_ ≠ g)) HO212.out (fun k_ hk => ⟨hk.1.1, ⟨hk.2, hk.1.2⟩⟩)); clear HO212; have HO212 := n_; clear n_; have HX101 := Aside0.mk (show Kd.N k36 36 w100 w.heap.size (fun k_ => (w.heap.size ≤ k_) ∧ some k_ ≠ (.slice Ao99 y257.length co99 : Value).ownBlock ∧ k_ ≠ g) (.slice (some ⟨go92, 0, none⟩) t210.length co94) t210 from b8_2); obtain ⟨ce101, hcl101, hM101, hcc101, hfr101⟩ := Kd.N_elem HX101.out z36 (t214 : Int) (of_decide_eq_true ca_) (by have h_ : (t214 : Int) < ((t210.length : Int) : Int) := cd_; first | exact h_ | (have e_ := (Kd.N_reads' HO212.out).1; omega) | simpa using h_); obtain ⟨ua101_6, uc101_6, rfl, ul101_6, ge101_6⟩ := k36_openF hM101; have HP101 := Kd.N_seg HX101.out (t214 : Int) (of_decide_eq_true ca_) (by have h_ : (t214 : Int) < ((t210.length : Int) : Int) := cd_; first | exact h_ | (have e_ := (Kd.N_reads' HO212.out).1; omega) | simpa using h_) (seg := [.int .i64 t260]) (j := 4) hcl101 hcc101 (show 5 ≤ 7 from by decide) (x' := (⟨(rd_T36 t210 t214).f0, (rd_T36 t210 t214).f1, (rd_T36 t210 t214).f2, (rd_T36 t210 t214).f3, t260, (rd_T36 t210 t214).f5, (rd_T36 t210 t214).f6⟩ : S36)) (k36_mkF _ _ (⟨(rd_T36 t210 t214).f0, (rd_T36 t210 t214).f1, (rd_T36 t210 t214).f2, (rd_T36 t210 t214).f3, t260, (rd_T36 t210 t214).f5, (rd_T36 t210 t214).f6⟩ : S36) ul101_6 ge101_6) (fun _ hk => hk); have hx101_4 := hcc101 4 _ rfl; (try simp only [show (k36).sz = 7 from rfl, Nat.mul_one, Nat.add_zero] at hx101_4); have hf101_4 := hfr101 4; (try simp only [show (k36).sz = 7 from rfl, Nat.mul_one, Nat.add_zero] at hf101_4); (try clear hM101); clear hcl101 hcc101 hfr101) | ((with_reducible refine gate_store (t := 2) (p := 77) rfl ?_); refine store_event (t := 2) (p := 77) (v := ?vo_w102) (w1 := (w100.setCell ⟨go92, (t214 : Int).toNat * 7 + 4, none⟩ (.int .i64 t260))) ?hg ?ho ?hn ?hr ?_; (case ho => rfl); (case hg => rfl); (case hn => rfl); (case hr => first | (go_simp; done) | (go_simp; rfl)); intro w102 hw; have hg : w100.grownBy w102 (some go92) := (by rw [hw]; exact HP101.2); have hp_ : Kd.N k36 36 w102 w.heap.size (fun k_ => (w.heap.size ≤ k_) ∧ some k_ ≠ (.slice Ao99 y257.length co99 : Value).ownBlock ∧ k_ ≠ g) (.slice (some ⟨go92, 0, none⟩) t210.length co94) y262 := (by rw [hw, Ny262.out]; exact HP101.1); clear HP101; replace HI0 := Aside0.mk (IsS57.grown b8_3 hg (IsS57.own_neN HI0.out HO212.out (by decide))); replace HO259 := Aside0.mk (Kd.R_over' (v := (.slice (some ⟨go92, 0, none⟩) t210.length co94)) (cR_ HO259.out) (Kd.N_typed HO212.out) (by decide) hg); replace HB := Aside0.mk ((by rw [hw]; exact below_set (HB.out) (Nat.le_trans HL.out GB92.out) : Below w0.heap.size w0 w102)); replace HK := Aside0.mk (KeepBut.trans b8_0 (KeepBut.of_grown hg g) (Kd.N_base2 HO212.out)); replace HO212 := Aside0.mk (hp_); clear hg hw hp_))
    go_ret
    exact ⟨_, ce_, by refine cN_ ?_; exact Kd.N_mono HO212.out (fun _ hk => hk.1), cI_ HI0.out, cB1_ (IsS57.ge HI0.out), cK_ HK.out⟩
   rw [if_neg c91] at H
   exact absurd H (by simp)
  rw [if_neg c88] at H
  have c88b0 : (t216 == 5) = false := beq_eq_false_iff_ne.mpr c88
  have c88b1 : (t216 != 5) = true := bne_iff_ne.mpr c88
  by_cases c103 : t216 = 6
  ·rw [if_pos c103] at H
   have c103b0 : (t216 == 6) = true := beq_iff_eq.mpr c103
   have c103b1 : (t216 != 6) = false := bne_eq_false_iff_eq.mpr c103
   clear c103
   obtain ⟨y263, hy_⟩ : ∃ y_ : List Int, y_ = (([1000000000, 1000000001, (-1)] : List Int)) := ⟨_, rfl⟩
   replace H : ((spec_l1Pick.f s0_0 t217 y263).bind fun bt266 => (if 0 ≤ t214 then (if t214 < (t210.length : Int) then (some ((t210.set (t214 : Int).toNat (⟨(rd_T36 t210 t214).f0, (rd_T36 t210 t214).f1, (rd_T36 t210 t214).f2, (rd_T36 t210 t214).f3, (rd_T36 t210 t214).f4, bt266.1, (rd_T36 t210 t214).f6⟩ : S36)), bt266.2)) else (none)) else (none))) = some (r1, r2) := yb_
   have Ny263 := Aside0.mk hy_
   clear hy_
   obtain ⟨⟨t266, t267⟩, A104, H⟩ := bnd_ H
   try dsimp only at H
   by_cases c105 : 0 ≤ t214
   rotate_left
   ·rw [if_neg c105] at H
    exact absurd H (by simp)
   rw [if_pos c105] at H
   have c105b0 := decide_eq_true c105
   clear c105
   by_cases c106 : t214 < (t210.length : Int)
   ·rw [if_pos c106] at H
    have c106b0 := decide_eq_true c106
    clear c106
    obtain ⟨y268, hy_⟩ : ∃ y_ : List (S36), y_ = (t210.set (t214 : Int).toNat (⟨(rd_T36 t210 t214).f0, (rd_T36 t210 t214).f1, (rd_T36 t210 t214).f2, (rd_T36 t210 t214).f3, (rd_T36 t210 t214).f4, t266, (rd_T36 t210 t214).f6⟩ : S36)) := ⟨_, rfl⟩
    replace H : (some (y268, t267)) = some (r1, r2) := yb_
    have Ny268 := Aside0.mk hy_
    clear hy_
    simp only [Option.some.injEq, Prod.mk.injEq] at H
    obtain ⟨rfl, rfl⟩ := H
    go_enter Tryz.func16, Tryz.ntmps16
    go_wp2_with (first | (refine gl_ 30 (some 6) Tryz.func30 #[.pointer (some ⟨g, 0, none⟩)] ?_; (with_reducible refine (spec_l3Draw.calls k g s0_0 s0_1 t210 t213 w0 _ ?side1 ?side2 A2.out).mono ?_); (case side1 => exact cI_ HI0.out); (case side2 => exact cB1_ (IsS57.ge HI0.out)); rintro e w108 ⟨v211, rfl, ho0, hi, hb, hk⟩; refine ⟨_, rfl, ?_⟩; have HO212 := Aside0.mk (Kd.N_lower (Kd.N_mono (ok' := fun k_ => (w.heap.size ≤ k_) ∧ k_ ≠ g) (Kd.S_N (Kd.S_bound ho0)) (fun k_ hk_ => ⟨(Nat.le_trans (keep_size (w := w) (g := g) (row := none) b8_0) hk_.2.1), (IsS57.fresh b8_3 k_ hk_.2.1)⟩)) (keep_size (w := w) (g := g) (row := none) b8_0)); replace HK := Aside0.mk (KeepBut.trans b8_0 hk (.inl rfl)); replace HB := Aside0.mk (hb); replace HI0 := Aside0.mk (hi); (try clear hb); (try clear hk); (try clear hi); (try clear ho0); obtain ⟨Ao109, co109, eo109⟩ := Kd.N_slice HO212.out; subst eo109) | (refine gl_ 31 (some 10) Tryz.func31 #[.pointer (some ⟨g, 0, none⟩), .int .i64 (t210.length : Int)] ?_; (with_reducible refine (spec_l1Next.calls g s0_0 t213 (t210.length : Int) t214 t215 w0 _ ?side1 ?side2 A3.out).mono ?_); (case side1 => exact cI_ HI0.out); (case side2 => exact cB1_ (IsS57.ge HI0.out)); rintro e w110 ⟨rfl, hi, hb, hk⟩; refine ⟨_, rfl, ?_⟩; replace HO212 := Aside0.mk (Kd.N_mono (Kd.N_keep (Kd.N_mono (ok := fun k_ => (((w.heap.size ≤ k_)) ∧ k_ ≠ g)) b8_2 (fun k_ hk_ => (⟨hk_, hk_.2⟩ : _ ∧ k_ ≠ g))) hk (fun _ h => h.2)) (fun _ h => h.1)); replace HK := Aside0.mk (KeepBut.trans b8_0 hk (.inl rfl)); replace HB := Aside0.mk (hb); replace HI0 := Aside0.mk (hi); (try clear hb); (try clear hk); (try clear hi)) | (refine gl_ 31 (some 12) Tryz.func31 #[.pointer (some ⟨g, 0, none⟩), .int .i64 24] ?_; (with_reducible refine (spec_l1Next.calls g s0_0 t215 24 t216 t217 w0 _ ?side1 ?side2 A4.out).mono ?_); (case side1 => exact cI_ HI0.out); (case side2 => exact cB1_ (IsS57.ge HI0.out)); rintro e w111 ⟨rfl, hi, hb, hk⟩; refine ⟨_, rfl, ?_⟩; replace HO212 := Aside0.mk (Kd.N_mono (Kd.N_keep (Kd.N_mono (ok := fun k_ => (((w.heap.size ≤ k_)) ∧ k_ ≠ g)) b8_2 (fun k_ hk_ => (⟨hk_, hk_.2⟩ : _ ∧ k_ ≠ g))) hk (fun _ h => h.2)) (fun _ h => h.1)); replace HK := Aside0.mk (KeepBut.trans b8_0 hk (.inl rfl)); replace HB := Aside0.mk (hb); replace HI0 := Aside0.mk (hi); (try clear hb); (try clear hk); (try clear hi)) | ((with_reducible refine gate_dst (N := 83) rfl ?_); refine Kd.R_lit (Kd.int .i64) _ 2 ?hg (N := 83) ?hd (xs := ([1000000000, 1000000001, (-1)] : List Int)) (inner := [.int .i64 1000000000, .int .i64 1000000001, .int .i64 (-1)]) (ok := fun _ => True) (okp := fun _ => True) ?hr ?hp (fun _ hk => hk) trivial (Below.refl _ _) (Nat.le_refl _) (by simp) ?_; (case hd => rfl); (case hg => rfl); (case hr => first | (go_simp; done) | (go_simp; rfl)); (case hp => exact (Reps.one (show Kd.M (Kd.int .i64) _ _ _ 1000000000 [.int .i64 1000000000] from rfl) (Reps.one (show Kd.M (Kd.int .i64) _ _ _ 1000000001 [.int .i64 1000000001] from rfl) (Reps.one (show Kd.M (Kd.int .i64) _ _ _ (-1) [.int .i64 (-1)] from rfl) (Reps.none _ _))))); intro v264 w112 ho113 hb hg_ hnew_; clear hg_ hnew_; (first | rw [← Ny263.out] at ho113 | (simp only [Int.reduceToNat] at ho113; rw [← Ny263.out] at ho113)); replace HO212 := Aside0.mk (Kd.N_elder' b8_2 (Kd.R_base ho113) hb); have HO265 := Aside0.mk (Kd.R_lower (Kd.R_newM (M := fun k_ => (w.heap.size ≤ k_)) ho113 (keep_size (w := w) (g := g) (row := none) b8_0) (fun k_ h_ => h_)) (keep_size (w := w) (g := g) (row := none) b8_0)); replace HK := Aside0.mk (KeepBut.trans b8_0 (KeepBut.of_below hb g none) (.inl rfl)); replace HB := Aside0.mk (below_step b8_5 hb); replace HI0 := Aside0.mk (IsS57.below b8_3 hb); clear hb ho113; obtain ⟨Ao114, co114, eo114⟩ := Kd.R_slice HO265.out; subst eo114) | (refine gl_ 32 (some 84) Tryz.func32 #[.pointer (some ⟨g, 0, none⟩), .slice Ao114 y263.length co114] ?_; (with_reducible refine (spec_l1Pick.calls g s0_0 t217 _ _ y263 t266 t267 w0 _ ?side1 ?side2 ?side3 ?side4 ?side5 A104.out).mono ?_); (case side1 => exact cI_ HI0.out); (case side2 => exact cB1_ (IsS57.ge HI0.out)); (case side3 => exact cC_ ((Kd.R_reads' HO265.out).2.2)); (case side4 => exact (Kd.R_reads' HO265.out).2.1); (case side5 => exact (by exact far_slice (IsS57.own_ne HI0.out HO265.out (by decide)))); rintro e w115 ⟨rfl, hi, hb, hk⟩; refine ⟨_, rfl, ?_⟩; replace HO212 := Aside0.mk (Kd.N_mono (Kd.N_keep (Kd.N_mono (ok := fun k_ => ((((w.heap.size ≤ k_)) ∧ k_ ≠ g) ∧ some k_ ≠ (.slice Ao114 y263.length co114 : Value).ownBlock)) b8_2 (fun k_ hk_ => (⟨hk_, hk_.1.2⟩ : _ ∧ k_ ≠ g))) hk (fun _ h => h.2)) (fun _ h => h.1)); replace HO265 := Aside0.mk (Kd.R_mono (Kd.R_keep (IsS57.apart (show IsS57 w0 _ g s0_0 t217 from c8I0_) (cR_ HO265.out) (by decide)) hk (fun _ h => h.2)) (fun _ h => h.1)); replace HK := Aside0.mk (KeepBut.trans b8_0 hk (.inl rfl)); replace HB := Aside0.mk (hb); replace HI0 := Aside0.mk (hi); (try clear hb); (try clear hk); (try clear hi); have p107 : 0 ≤ (t214 : Int) := cd_; have q107 : (t214 : Int) < ((t210.length : Int) : Int) := cd_; obtain ⟨go107, co107, eo107, gb107, gl107, cl107, HG107⟩ := Kd.N_form HO212.out (by omega); (first | cases eo107 | (injection eo107 with ea_ en_ ec_; (first | subst ea_ | (injection ea_ with ea_; subst ea_)); subst ec_; clear en_)); have GB107 := Aside0.mk gb107; have GG107 := Aside0.mk HG107; clear gb107 gl107 HG107; obtain ⟨ce107, hcl107, hM107, hcc107, hfr107⟩ := Kd.N_elem HO212.out z36 (t214 : Int) p107 q107; obtain ⟨ua107_6, uc107_6, rfl, ul107_6, ge107_6⟩ := k36_openF hM107; have hx107_0 : w115.cell? ⟨go107, (t214 : Int).toNat * 7, none⟩ = some (.int .i64 ((rd_T36 t210 t214).f0)) := hcc107 0 _ rfl; have hx107_1 : w115.cell? ⟨go107, (t214 : Int).toNat * 7 + 1, none⟩ = some (.int .i64 ((rd_T36 t210 t214).f1)) := hcc107 1 _ rfl; have hx107_2 : w115.cell? ⟨go107, (t214 : Int).toNat * 7 + 2, none⟩ = some (.int .i64 ((rd_T36 t210 t214).f2)) := hcc107 2 _ rfl; have hx107_3 : w115.cell? ⟨go107, (t214 : Int).toNat * 7 + 3, none⟩ = some (.int .i64 ((rd_T36 t210 t214).f3)) := hcc107 3 _ rfl; have hx107_4 : w115.cell? ⟨go107, (t214 : Int).toNat * 7 + 4, none⟩ = some (.int .i64 ((rd_T36 t210 t214).f4)) := hcc107 4 _ rfl; have hx107_5 : w115.cell? ⟨go107, (t214 : Int).toNat * 7 + 5, none⟩ = some (.int .i64 ((rd_T36 t210 t214).f5)) := hcc107 5 _ rfl; have hx107_6 : w115.cell? ⟨go107, (t214 : Int).toNat * 7 + 6, none⟩ = some (.slice ua107_6 ((rd_T36 t210 t214).f6).length uc107_6) := hcc107 6 _ rfl; have hf107_0 : w115.frozen? ⟨go107, (t214 : Int).toNat * 7, none⟩ = false := hfr107 0; have hf107_1 : w115.frozen? ⟨go107, (t214 : Int).toNat * 7 + 1, none⟩ = false := hfr107 1; have hf107_2 : w115.frozen? ⟨go107, (t214 : Int).toNat * 7 + 2, none⟩ = false := hfr107 2; have hf107_3 : w115.frozen? ⟨go107, (t214 : Int).toNat * 7 + 3, none⟩ = false := hfr107 3; have hf107_4 : w115.frozen? ⟨go107, (t214 : Int).toNat * 7 + 4, none⟩ = false := hfr107 4; have hf107_5 : w115.frozen? ⟨go107, (t214 : Int).toNat * 7 + 5, none⟩ = false := hfr107 5; have hf107_6 : w115.frozen? ⟨go107, (t214 : Int).toNat * 7 + 6, none⟩ = false := hfr107 6; (try clear hM107); clear hcl107 hcc107 hfr107; replace p107 := eq_true p107; replace q107 := eq_true q107; have n_ := Aside0.mk (Kd.N_mono (ok' := (fun k_ => (w.heap.size ≤ k_) ∧ some k_ ≠ (.slice Ao114 y263.length co114 : Value).ownBlock ∧ k_ ≠ g)) HO212.out (fun k_ hk => ⟨hk.1.1, ⟨hk.2, hk.1.2⟩⟩)); clear HO212; have HO212 := n_; clear n_; have HX116 := Aside0.mk (show Kd.N k36 36 w115 w.heap.size (fun k_ => (w.heap.size ≤ k_) ∧ some k_ ≠ (.slice Ao114 y263.length co114 : Value).ownBlock ∧ k_ ≠ g) (.slice (some ⟨go107, 0, none⟩) t210.length co109) t210 from b8_2); obtain ⟨ce116, hcl116, hM116, hcc116, hfr116⟩ := Kd.N_elem HX116.out z36 (t214 : Int) (of_decide_eq_true ca_) (by have h_ : (t214 : Int) < ((t210.length : Int) : Int) := cd_; first | exact h_ | (have e_ := (Kd.N_reads' HO212.out).1; omega) | simpa using h_); obtain ⟨ua116_6, uc116_6, rfl, ul116_6, ge116_6⟩ := k36_openF hM116; have HP116 := Kd.N_seg HX116.out (t214 : Int) (of_decide_eq_true ca_) (by have h_ : (t214 : Int) < ((t210.length : Int) : Int) := cd_; first | exact h_ | (have e_ := (Kd.N_reads' HO212.out).1; omega) | simpa using h_) (seg := [.int .i64 t266]) (j := 5) hcl116 hcc116 (show 6 ≤ 7 from by decide) (x' := (⟨(rd_T36 t210 t214).f0, (rd_T36 t210 t214).f1, (rd_T36 t210 t214).f2, (rd_T36 t210 t214).f3, (rd_T36 t210 t214).f4, t266, (rd_T36 t210 t214).f6⟩ : S36)) (k36_mkF _ _ (⟨(rd_T36 t210 t214).f0, (rd_T36 t210 t214).f1, (rd_T36 t210 t214).f2, (rd_T36 t210 t214).f3, (rd_T36 t210 t214).f4, t266, (rd_T36 t210 t214).f6⟩ : S36) ul116_6 ge116_6) (fun _ hk => hk); have hx116_5 := hcc116 5 _ rfl; (try simp only [show (k36).sz = 7 from rfl, Nat.mul_one, Nat.add_zero] at hx116_5); have hf116_5 := hfr116 5; (try simp only [show (k36).sz = 7 from rfl, Nat.mul_one, Nat.add_zero] at hf116_5); (try clear hM116); clear hcl116 hcc116 hfr116) | ((with_reducible refine gate_store (t := 2) (p := 86) rfl ?_); refine store_event (t := 2) (p := 86) (v := ?vo_w117) (w1 := (w115.setCell ⟨go107, (t214 : Int).toNat * 7 + 5, none⟩ (.int .i64 t266))) ?hg ?ho ?hn ?hr ?_; (case ho => rfl); (case hg => rfl); (case hn => rfl); (case hr => first | (go_simp; done) | (go_simp; rfl)); intro w117 hw; have hg : w115.grownBy w117 (some go107) := (by rw [hw]; exact HP116.2); have hp_ : Kd.N k36 36 w117 w.heap.size (fun k_ => (w.heap.size ≤ k_) ∧ some k_ ≠ (.slice Ao114 y263.length co114 : Value).ownBlock ∧ k_ ≠ g) (.slice (some ⟨go107, 0, none⟩) t210.length co109) y268 := (by rw [hw, Ny268.out]; exact HP116.1); clear HP116; replace HI0 := Aside0.mk (IsS57.grown b8_3 hg (IsS57.own_neN HI0.out HO212.out (by decide))); replace HO265 := Aside0.mk (Kd.R_over' (v := (.slice (some ⟨go107, 0, none⟩) t210.length co109)) (cR_ HO265.out) (Kd.N_typed HO212.out) (by decide) hg); replace HB := Aside0.mk ((by rw [hw]; exact below_set (HB.out) (Nat.le_trans HL.out GB107.out) : Below w0.heap.size w0 w117)); replace HK := Aside0.mk (KeepBut.trans b8_0 (KeepBut.of_grown hg g) (Kd.N_base2 HO212.out)); replace HO212 := Aside0.mk (hp_); clear hg hw hp_))
    go_ret
    exact ⟨_, ce_, by refine cN_ ?_; exact Kd.N_mono HO212.out (fun _ hk => hk.1), cI_ HI0.out, cB1_ (IsS57.ge HI0.out), cK_ HK.out⟩
   rw [if_neg c106] at H
   exact absurd H (by simp)
  rw [if_neg c103] at H
  have c103b0 : (t216 == 6) = false := beq_eq_false_iff_ne.mpr c103
  have c103b1 : (t216 != 6) = true := bne_iff_ne.mpr c103
  by_cases c118 : t216 = 7
  ·rw [if_pos c118] at H
   have c118b0 : (t216 == 7) = true := beq_iff_eq.mpr c118
   have c118b1 : (t216 != 7) = false := bne_eq_false_iff_eq.mpr c118
   clear c118
   by_cases c119 : t210.length < 1954687338268
   ·rw [if_pos c119] at H
    have LMc119 := Aside0.mk c119
    clear c119
    obtain ⟨y269, hy_⟩ : ∃ y_ : List (S36), y_ = (t210 ++ [(⟨5, wrap64 ((t210.length : Int) - 1), 0, 0, 0, 0, ([] : List Int)⟩ : S36)]) := ⟨_, rfl⟩
    replace H : (some (y269, t217)) = some (r1, r2) := yb_
    have Ny269 := Aside0.mk hy_
    clear hy_
    simp only [Option.some.injEq, Prod.mk.injEq] at H
    obtain ⟨rfl, rfl⟩ := H
    go_enter Tryz.func16, Tryz.ntmps16
    go_wp2_with (first | (refine gl_ 30 (some 6) Tryz.func30 #[.pointer (some ⟨g, 0, none⟩)] ?_; (with_reducible refine (spec_l3Draw.calls k g s0_0 s0_1 t210 t213 w0 _ ?side1 ?side2 A2.out).mono ?_); (case side1 => exact cI_ HI0.out); (case side2 => exact cB1_ (IsS57.ge HI0.out)); rintro e w120 ⟨v211, rfl, ho0, hi, hb, hk⟩; refine ⟨_, rfl, ?_⟩; have HO212 := Aside0.mk (Kd.N_lower (Kd.N_mono (ok' := fun k_ => (w.heap.size ≤ k_) ∧ k_ ≠ g) (Kd.S_N (Kd.S_bound ho0)) (fun k_ hk_ => ⟨(Nat.le_trans (keep_size (w := w) (g := g) (row := none) b8_0) hk_.2.1), (IsS57.fresh b8_3 k_ hk_.2.1)⟩)) (keep_size (w := w) (g := g) (row := none) b8_0)); replace HK := Aside0.mk (KeepBut.trans b8_0 hk (.inl rfl)); replace HB := Aside0.mk (hb); replace HI0 := Aside0.mk (hi); (try clear hb); (try clear hk); (try clear hi); (try clear ho0); obtain ⟨Ao121, co121, eo121⟩ := Kd.N_slice HO212.out; subst eo121) | (refine gl_ 31 (some 10) Tryz.func31 #[.pointer (some ⟨g, 0, none⟩), .int .i64 (t210.length : Int)] ?_; (with_reducible refine (spec_l1Next.calls g s0_0 t213 (t210.length : Int) t214 t215 w0 _ ?side1 ?side2 A3.out).mono ?_); (case side1 => exact cI_ HI0.out); (case side2 => exact cB1_ (IsS57.ge HI0.out)); rintro e w122 ⟨rfl, hi, hb, hk⟩; refine ⟨_, rfl, ?_⟩; replace HO212 := Aside0.mk (Kd.N_mono (Kd.N_keep (Kd.N_mono (ok := fun k_ => (((w.heap.size ≤ k_)) ∧ k_ ≠ g)) b8_2 (fun k_ hk_ => (⟨hk_, hk_.2⟩ : _ ∧ k_ ≠ g))) hk (fun _ h => h.2)) (fun _ h => h.1)); replace HK := Aside0.mk (KeepBut.trans b8_0 hk (.inl rfl)); replace HB := Aside0.mk (hb); replace HI0 := Aside0.mk (hi); (try clear hb); (try clear hk); (try clear hi)) | (refine gl_ 31 (some 12) Tryz.func31 #[.pointer (some ⟨g, 0, none⟩), .int .i64 24] ?_; (with_reducible refine (spec_l1Next.calls g s0_0 t215 24 t216 t217 w0 _ ?side1 ?side2 A4.out).mono ?_); (case side1 => exact cI_ HI0.out); (case side2 => exact cB1_ (IsS57.ge HI0.out)); rintro e w123 ⟨rfl, hi, hb, hk⟩; refine ⟨_, rfl, ?_⟩; replace HO212 := Aside0.mk (Kd.N_mono (Kd.N_keep (Kd.N_mono (ok := fun k_ => (((w.heap.size ≤ k_)) ∧ k_ ≠ g)) b8_2 (fun k_ hk_ => (⟨hk_, hk_.2⟩ : _ ∧ k_ ≠ g))) hk (fun _ h => h.2)) (fun _ h => h.1)); replace HK := Aside0.mk (KeepBut.trans b8_0 hk (.inl rfl)); replace HB := Aside0.mk (hb); replace HI0 := Aside0.mk (hi); (try clear hb); (try clear hk); (try clear hi)) | ((with_reducible refine gate_builtin (b := .append) (xs := #[.tmp 89, .tmp 94]) rfl ?_); at_builtin; refine Kd.N_append k36 w.heap.size rfl (.tmp 89) (.tmp 94) 24 36 (.agg #[(.int .i64 0), (.int .i64 0), (.int .i64 0), (.int .i64 0), (.int .i64 0), (.int .i64 0), (.slice none 0 0)]) 72 rfl Tryz.underlying24 info36 rfl (by decide) (by omega) (.slice Ao121 t210.length co121) t210 (⟨5, wrap64 ((t210.length : Int) - 1), 0, 0, 0, 0, ([] : List Int)⟩ : S36) [.int .i64 5, .int .i64 (wrap64 ((t210.length : Int) - 1)), .int .i64 0, .int .i64 0, .int .i64 0, .int .i64 0, .slice none 0 0] (fun k_ => (w.heap.size ≤ k_) ∧ k_ ≠ g) (fun k_ => ((fun k_ => (w.heap.size ≤ k_) ∧ k_ ≠ g)) k_ ∧ some k_ ≠ (.slice Ao121 t210.length co121 : Value).ownBlock) rfl rfl ?aP (fun _ hk => hk) ?aF ?aO (Below.refl _ _) ?aS ?aL ?_; (case aP => exact (k36_mkF _ _ (⟨5, wrap64 ((t210.length : Int) - 1), 0, 0, 0, 0, ([] : List Int)⟩ : S36) (Nat.le_refl _) (Kd.F_nil _ _ _))); (case aF => exact (by exact (fun k_ hk => ⟨(Nat.le_trans (keep_size (w := w) (g := g) (row := none) b8_0) hk), IsS57.fresh b8_3 k_ hk⟩))); (case aO => exact b8_2); (case aS => exact (by exact (keep_size (w := w) (g := g) (row := none) b8_0))); (case aL => exact co_ LMc119.out); intro v270 w124 ho hb hg hat; rw [← Ny269.out] at ho; replace HB := Aside0.mk (below_weaken b8_5 HL.out hb); replace HI0 := Aside0.mk (IsS57.grown b8_3 hg (IsS57.own_neN HI0.out HO212.out (by decide))); replace HK := Aside0.mk (KeepBut.trans b8_0 (KeepBut.of_grown hg g) (Kd.N_base2 HO212.out)); have HO271 := Aside0.mk (ho); clear HO212; clear ho hb hg hat))
    go_ret
    exact ⟨_, ce_, by refine cN_ ?_; exact Kd.N_mono HO271.out (fun _ hk => hk.1), cI_ HI0.out, cB1_ (IsS57.ge HI0.out), cK_ HK.out⟩
   rw [if_neg c119] at H
   exact absurd H (by simp)
  rw [if_neg c118] at H
  have c118b0 : (t216 == 7) = false := beq_eq_false_iff_ne.mpr c118
  have c118b1 : (t216 != 7) = true := bne_iff_ne.mpr c118
  by_cases c125 : t216 = 8
  rotate_left
  ·rw [if_neg c125] at H
   have c125b0 : (t216 == 8) = false := beq_eq_false_iff_ne.mpr c125
   have c125b1 : (t216 != 8) = true := bne_iff_ne.mpr c125
   simp only [Option.some.injEq, Prod.mk.injEq] at H
   obtain ⟨rfl, rfl⟩ := H
   go_enter Tryz.func16, Tryz.ntmps16
   go_wp2_with (first | (refine gl_ 30 (some 6) Tryz.func30 #[.pointer (some ⟨g, 0, none⟩)] ?_; (with_reducible refine (spec_l3Draw.calls k g s0_0 s0_1 t210 t213 w0 _ ?side1 ?side2 A2.out).mono ?_); (case side1 => exact cI_ HI0.out); (case side2 => exact cB1_ (IsS57.ge HI0.out)); rintro e w139 ⟨v211, rfl, ho0, hi, hb, hk⟩; refine ⟨_, rfl, ?_⟩; have HO212 := Aside0.mk (Kd.N_lower (Kd.N_mono (ok' := fun k_ => (w.heap.size ≤ k_) ∧ k_ ≠ g) (Kd.S_N (Kd.S_bound ho0)) (fun k_ hk_ => ⟨(Nat.le_trans (keep_size (w := w) (g := g) (row := none) b8_0) hk_.2.1), (IsS57.fresh b8_3 k_ hk_.2.1)⟩)) (keep_size (w := w) (g := g) (row := none) b8_0)); replace HK := Aside0.mk (KeepBut.trans b8_0 hk (.inl rfl)); replace HB := Aside0.mk (hb); replace HI0 := Aside0.mk (hi); (try clear hb); (try clear hk); (try clear hi); (try clear ho0); obtain ⟨Ao140, co140, eo140⟩ := Kd.N_slice HO212.out; subst eo140) | (refine gl_ 31 (some 10) Tryz.func31 #[.pointer (some ⟨g, 0, none⟩), .int .i64 (t210.length : Int)] ?_; (with_reducible refine (spec_l1Next.calls g s0_0 t213 (t210.length : Int) t214 t215 w0 _ ?side1 ?side2 A3.out).mono ?_); (case side1 => exact cI_ HI0.out); (case side2 => exact cB1_ (IsS57.ge HI0.out)); rintro e w141 ⟨rfl, hi, hb, hk⟩; refine ⟨_, rfl, ?_⟩; replace HO212 := Aside0.mk (Kd.N_mono (Kd.N_keep (Kd.N_mono (ok := fun k_ => (((w.heap.size ≤ k_)) ∧ k_ ≠ g)) b8_2 (fun k_ hk_ => (⟨hk_, hk_.2⟩ : _ ∧ k_ ≠ g))) hk (fun _ h => h.2)) (fun _ h => h.1)); replace HK := Aside0.mk (KeepBut.trans b8_0 hk (.inl rfl)); replace HB := Aside0.mk (hb); replace HI0 := Aside0.mk (hi); (try clear hb); (try clear hk); (try clear hi)) | (refine gl_ 31 (some 12) Tryz.func31 #[.pointer (some ⟨g, 0, none⟩), .int .i64 24] ?_; (with_reducible refine (spec_l1Next.calls g s0_0 t215 24 t216 t217 w0 _ ?side1 ?side2 A4.out).mono ?_); (case side1 => exact cI_ HI0.out); (case side2 => exact cB1_ (IsS57.ge HI0.out)); rintro e w142 ⟨rfl, hi, hb, hk⟩; refine ⟨_, rfl, ?_⟩; replace HO212 := Aside0.mk (Kd.N_mono (Kd.N_keep (Kd.N_mono (ok := fun k_ => (((w.heap.size ≤ k_)) ∧ k_ ≠ g)) b8_2 (fun k_ hk_ => (⟨hk_, hk_.2⟩ : _ ∧ k_ ≠ g))) hk (fun _ h => h.2)) (fun _ h => h.1)); replace HK := Aside0.mk (KeepBut.trans b8_0 hk (.inl rfl)); replace HB := Aside0.mk (hb); replace HI0 := Aside0.mk (hi); (try clear hb); (try clear hk); (try clear hi)))
   go_ret
   exact ⟨_, ce_, by refine cN_ ?_; exact Kd.N_mono HO212.out (fun _ hk => hk.1), cI_ HI0.out, cB1_ (IsS57.ge HI0.out), cK_ HK.out⟩
  rw [if_pos c125] at H
  have c125b0 : (t216 == 8) = true := beq_iff_eq.mpr c125
  have c125b1 : (t216 != 8) = false := bne_eq_false_iff_eq.mpr c125
  clear c125
  obtain ⟨y272, hy_⟩ : ∃ y_ : List Int, y_ = (([0, 9] : List Int)) := ⟨_, rfl⟩
  replace H : ((spec_l1Pick.f s0_0 t217 y272).bind fun bt275 => (if 0 ≤ bt275.1 then (if (bt275.1 : Int).toNat ≤ 3909374676536 then (some ((List.replicate (bt275.1 : Int).toNat z36), bt275.2)) else (none)) else (none))) = some (r1, r2) := yb_
  have Ny272 := Aside0.mk hy_
  clear hy_
  obtain ⟨⟨t275, t276⟩, A126, H⟩ := bnd_ H
  try dsimp only at H
  by_cases c127 : 0 ≤ t275
  rotate_left
  ·rw [if_neg c127] at H
   exact absurd H (by simp)
  rw [if_pos c127] at H
  have c127b0 := eq_true c127
  have c127b1 : decide (0 ≤ t275) = true := decide_eq_true c127
  clear c127
  by_cases c128 : (t275 : Int).toNat ≤ 3909374676536
  ·rw [if_pos c128] at H
   have c128b0 := eq_true c128
   have c128b1 : decide ((t275 : Int).toNat ≤ 3909374676536) = true := decide_eq_true c128
   clear c128
   obtain ⟨y277, hy_⟩ : ∃ y_ : List (S36), y_ = (List.replicate (t275 : Int).toNat z36) := ⟨_, rfl⟩
   replace H : (some (y277, t276)) = some (r1, r2) := yb_
   have Ny277 := Aside0.mk hy_
   clear hy_
   simp only [Option.some.injEq, Prod.mk.injEq] at H
   obtain ⟨rfl, rfl⟩ := H
   go_enter Tryz.func16, Tryz.ntmps16
   go_wp2_with (first | (refine gl_ 30 (some 6) Tryz.func30 #[.pointer (some ⟨g, 0, none⟩)] ?_; (with_reducible refine (spec_l3Draw.calls k g s0_0 s0_1 t210 t213 w0 _ ?side1 ?side2 A2.out).mono ?_); (case side1 => exact cI_ HI0.out); (case side2 => exact cB1_ (IsS57.ge HI0.out)); rintro e w129 ⟨v211, rfl, ho0, hi, hb, hk⟩; refine ⟨_, rfl, ?_⟩; have HO212 := Aside0.mk (Kd.N_lower (Kd.N_mono (ok' := fun k_ => (w.heap.size ≤ k_) ∧ k_ ≠ g) (Kd.S_N (Kd.S_bound ho0)) (fun k_ hk_ => ⟨(Nat.le_trans (keep_size (w := w) (g := g) (row := none) b8_0) hk_.2.1), (IsS57.fresh b8_3 k_ hk_.2.1)⟩)) (keep_size (w := w) (g := g) (row := none) b8_0)); replace HK := Aside0.mk (KeepBut.trans b8_0 hk (.inl rfl)); replace HB := Aside0.mk (hb); replace HI0 := Aside0.mk (hi); (try clear hb); (try clear hk); (try clear hi); (try clear ho0); obtain ⟨Ao130, co130, eo130⟩ := Kd.N_slice HO212.out; subst eo130) | (refine gl_ 31 (some 10) Tryz.func31 #[.pointer (some ⟨g, 0, none⟩), .int .i64 (t210.length : Int)] ?_; (with_reducible refine (spec_l1Next.calls g s0_0 t213 (t210.length : Int) t214 t215 w0 _ ?side1 ?side2 A3.out).mono ?_); (case side1 => exact cI_ HI0.out); (case side2 => exact cB1_ (IsS57.ge HI0.out)); rintro e w131 ⟨rfl, hi, hb, hk⟩; refine ⟨_, rfl, ?_⟩; replace HO212 := Aside0.mk (Kd.N_mono (Kd.N_keep (Kd.N_mono (ok := fun k_ => (((w.heap.size ≤ k_)) ∧ k_ ≠ g)) b8_2 (fun k_ hk_ => (⟨hk_, hk_.2⟩ : _ ∧ k_ ≠ g))) hk (fun _ h => h.2)) (fun _ h => h.1)); replace HK := Aside0.mk (KeepBut.trans b8_0 hk (.inl rfl)); replace HB := Aside0.mk (hb); replace HI0 := Aside0.mk (hi); (try clear hb); (try clear hk); (try clear hi)) | (refine gl_ 31 (some 12) Tryz.func31 #[.pointer (some ⟨g, 0, none⟩), .int .i64 24] ?_; (with_reducible refine (spec_l1Next.calls g s0_0 t215 24 t216 t217 w0 _ ?side1 ?side2 A4.out).mono ?_); (case side1 => exact cI_ HI0.out); (case side2 => exact cB1_ (IsS57.ge HI0.out)); rintro e w132 ⟨rfl, hi, hb, hk⟩; refine ⟨_, rfl, ?_⟩; replace HO212 := Aside0.mk (Kd.N_mono (Kd.N_keep (Kd.N_mono (ok := fun k_ => (((w.heap.size ≤ k_)) ∧ k_ ≠ g)) b8_2 (fun k_ hk_ => (⟨hk_, hk_.2⟩ : _ ∧ k_ ≠ g))) hk (fun _ h => h.2)) (fun _ h => h.1)); replace HK := Aside0.mk (KeepBut.trans b8_0 hk (.inl rfl)); replace HB := Aside0.mk (hb); replace HI0 := Aside0.mk (hi); (try clear hb); (try clear hk); (try clear hi)) | ((with_reducible refine gate_dst (N := 99) rfl ?_); refine Kd.R_lit (Kd.int .i64) _ 2 ?hg (N := 99) ?hd (xs := ([0, 9] : List Int)) (inner := [.int .i64 0, .int .i64 9]) (ok := fun _ => True) (okp := fun _ => True) ?hr ?hp (fun _ hk => hk) trivial (Below.refl _ _) (Nat.le_refl _) (by simp) ?_; (case hd => rfl); (case hg => rfl); (case hr => first | (go_simp; done) | (go_simp; rfl)); (case hp => exact (Reps.one (show Kd.M (Kd.int .i64) _ _ _ 0 [.int .i64 0] from rfl) (Reps.one (show Kd.M (Kd.int .i64) _ _ _ 9 [.int .i64 9] from rfl) (Reps.none _ _)))); intro v273 w133 ho134 hb hg_ hnew_; clear hg_ hnew_; (first | rw [← Ny272.out] at ho134 | (simp only [Int.reduceToNat] at ho134; rw [← Ny272.out] at ho134)); replace HO212 := Aside0.mk (Kd.N_elder' b8_2 (Kd.R_base ho134) hb); have HO274 := Aside0.mk (Kd.R_lower (Kd.R_newM (M := fun k_ => (w.heap.size ≤ k_)) ho134 (keep_size (w := w) (g := g) (row := none) b8_0) (fun k_ h_ => h_)) (keep_size (w := w) (g := g) (row := none) b8_0)); replace HK := Aside0.mk (KeepBut.trans b8_0 (KeepBut.of_below hb g none) (.inl rfl)); replace HB := Aside0.mk (below_step b8_5 hb); replace HI0 := Aside0.mk (IsS57.below b8_3 hb); clear hb ho134; obtain ⟨Ao135, co135, eo135⟩ := Kd.R_slice HO274.out; subst eo135) | (refine gl_ 32 (some 100) Tryz.func32 #[.pointer (some ⟨g, 0, none⟩), .slice Ao135 y272.length co135] ?_; (with_reducible refine (spec_l1Pick.calls g s0_0 t217 _ _ y272 t275 t276 w0 _ ?side1 ?side2 ?side3 ?side4 ?side5 A126.out).mono ?_); (case side1 => exact cI_ HI0.out); (case side2 => exact cB1_ (IsS57.ge HI0.out)); (case side3 => exact cC_ ((Kd.R_reads' HO274.out).2.2)); (case side4 => exact (Kd.R_reads' HO274.out).2.1); (case side5 => exact (by exact far_slice (IsS57.own_ne HI0.out HO274.out (by decide)))); rintro e w136 ⟨rfl, hi, hb, hk⟩; refine ⟨_, rfl, ?_⟩; replace HO212 := Aside0.mk (Kd.N_mono (Kd.N_keep (Kd.N_mono (ok := fun k_ => ((((w.heap.size ≤ k_)) ∧ k_ ≠ g) ∧ some k_ ≠ (.slice Ao135 y272.length co135 : Value).ownBlock)) b8_2 (fun k_ hk_ => (⟨hk_, hk_.1.2⟩ : _ ∧ k_ ≠ g))) hk (fun _ h => h.2)) (fun _ h => h.1)); replace HO274 := Aside0.mk (Kd.R_mono (Kd.R_keep (IsS57.apart (show IsS57 w0 _ g s0_0 t217 from c8I0_) (cR_ HO274.out) (by decide)) hk (fun _ h => h.2)) (fun _ h => h.1)); replace HK := Aside0.mk (KeepBut.trans b8_0 hk (.inl rfl)); replace HB := Aside0.mk (hb); replace HI0 := Aside0.mk (hi); (try clear hb); (try clear hk); (try clear hi)) | ((with_reducible refine gate_dst (N := 101) rfl ?_); refine Kd.N_make k36 _ 36 rfl (N' := 101) rfl 24 _ _ rfl t275 rfl rfl Tryz.underlying24 (.agg #[(.int .i64 0), (.int .i64 0), (.int .i64 0), (.int .i64 0), (.int .i64 0), (.int .i64 0), (.slice none 0 0)]) 72 info36 rfl (by decide) (by omega) z36 (ok := fun k_ => w136.heap.size ≤ k_) (okp := fun _ => False) (k36_mkF _ _ z36 (Nat.le_refl _) (Kd.F_nil _ _ _)) (fun _ hk => hk.elim) (Nat.le_refl _) (of_decide_eq_true ca_) (Nat.le_trans (Nat.mul_le_mul_right _ (of_decide_eq_true ca_ : t275.toNat ≤ 3909374676536)) (by omega)) (Below.refl _ _) (Nat.le_refl _) ?_; intro v278 w137 ho138 hb hg_ hnew_; clear hg_ hnew_; (first | rw [← Ny277.out] at ho138 | (simp only [Int.reduceToNat] at ho138; rw [← Ny277.out] at ho138)); have HO279 := Aside0.mk (Kd.N_lower (Kd.N_mono (ok' := fun k_ => (w.heap.size ≤ k_) ∧ some k_ ≠ (.slice Ao130 t210.length co130 : Value).ownBlock ∧ some k_ ≠ (.slice Ao135 y272.length co135 : Value).ownBlock ∧ k_ ≠ g) ho138 (fun k_ hk_ => ⟨(Nat.le_trans (keep_size (w := w) (g := g) (row := none) b8_0) hk_), (Kd.fresh' (Kd.N_lt b8_2) k_ hk_), (Kd.fresh' (Kd.R_lt (cR_ HO274.out)) k_ hk_), (IsS57.fresh b8_3 k_ hk_)⟩)) (keep_size (w := w) (g := g) (row := none) b8_0)); replace HO212 := Aside0.mk (Kd.N_elder' b8_2 (Kd.N_base ho138) hb); replace HO274 := Aside0.mk (Kd.R_below (cR_ HO274.out) hb); replace HK := Aside0.mk (KeepBut.trans b8_0 (KeepBut.of_below hb g none) (.inl rfl)); replace HB := Aside0.mk (below_step b8_5 hb); replace HI0 := Aside0.mk (IsS57.below b8_3 hb); clear hb ho138))
   go_ret
   exact ⟨_, ce_, by refine cN_ ?_; exact Kd.N_mono HO279.out (fun _ hk => hk.1), cI_ HI0.out, cB1_ (IsS57.ge HI0.out), cK_ HK.out⟩
  rw [if_neg c128] at H
  exact absurd H (by simp)
 rw [if_pos c67] at H
 have c67b0 : (t216 == 4) = true := beq_iff_eq.mpr c67
 have c67b1 : (t216 != 4) = false := bne_eq_false_iff_eq.mpr c67
 clear c67
 by_cases c68 : 0 ≤ t214
 rotate_left
 ·rw [if_neg c68] at H
  exact absurd H (by simp)
 rw [if_pos c68] at H
 have c68b0 := decide_eq_true c68
 clear c68
 by_cases c69 : t214 < (t210.length : Int)
 rotate_left
 ·rw [if_neg c69] at H
  exact absurd H (by simp)
 rw [if_pos c69] at H
 have c69b0 := decide_eq_true c69
 clear c69
 obtain ⟨y245, hy_⟩ : ∃ y_ : List Int, y_ = (([0, (-1), 4] : List Int)) := ⟨_, rfl⟩
 replace H : ((spec_l1Pick.f s0_0 t217 y245).bind fun bt248 => ((list_app.f ((rd_T36 t210 t214).f6) (([bt248.1] : List Int))).bind fun t253 => (some ((t210.set (t214 : Int).toNat (⟨(rd_T36 t210 t214).f0, (rd_T36 t210 t214).f1, (rd_T36 t210 t214).f2, (rd_T36 t210 t214).f3, (rd_T36 t210 t214).f4, (rd_T36 t210 t214).f5, t253⟩ : S36)), bt248.2)))) = some (r1, r2) := yb_
 have Ny245 := Aside0.mk hy_
 clear hy_
 obtain ⟨⟨t248, t249⟩, A70, H⟩ := bnd_ H
 try dsimp only at H
 obtain ⟨y250, hy_⟩ : ∃ y_ : List Int, y_ = (([t248] : List Int)) := ⟨_, rfl⟩
 replace H : ((list_app.f ((rd_T36 t210 t214).f6) y250).bind fun t253 => (some ((t210.set (t214 : Int).toNat (⟨(rd_T36 t210 t214).f0, (rd_T36 t210 t214).f1, (rd_T36 t210 t214).f2, (rd_T36 t210 t214).f3, (rd_T36 t210 t214).f4, (rd_T36 t210 t214).f5, t253⟩ : S36)), t249))) = some (r1, r2) := yb_
 have Ny250 := Aside0.mk hy_
 clear hy_
 obtain ⟨t253, A71, H⟩ := bnd_ H
 try dsimp only at H
 obtain ⟨y256, hy_⟩ : ∃ y_ : List (S36), y_ = (t210.set (t214 : Int).toNat (⟨(rd_T36 t210 t214).f0, (rd_T36 t210 t214).f1, (rd_T36 t210 t214).f2, (rd_T36 t210 t214).f3, (rd_T36 t210 t214).f4, (rd_T36 t210 t214).f5, t253⟩ : S36)) := ⟨_, rfl⟩
 replace H : (some (y256, t249)) = some (r1, r2) := yb_
 have Ny256 := Aside0.mk hy_
 clear hy_
 simp only [Option.some.injEq, Prod.mk.injEq] at H
 obtain ⟨rfl, rfl⟩ := H
 go_enter Tryz.func16, Tryz.ntmps16
 try go_wp2_with (first | (refine gl_ 30 (some 6) Tryz.func30 #[.pointer (some ⟨g, 0, none⟩)] ?_; (with_reducible refine (spec_l3Draw.calls k g s0_0 s0_1 t210 t213 w0 _ ?side1 ?side2 A2.out).mono ?_); (case side1 => exact cI_ HI0.out); (case side2 => exact cB1_ (IsS57.ge HI0.out)); rintro e w73 ⟨v211, rfl, ho0, hi, hb, hk⟩; refine ⟨_, rfl, ?_⟩; have n0_ := Aside0.mk (Kd.N_lower (Kd.N_mono (ok' := fun k_ => (w.heap.size ≤ k_) ∧ k_ ≠ g) (Kd.S_N (Kd.S_bound ho0)) (fun k_ hk_ => ⟨(Nat.le_trans (keep_size (w := w) (g := g) (row := none) b8_0) hk_.2.1), (IsS57.fresh b8_3 k_ hk_.2.1)⟩)) (keep_size (w := w) (g := g) (row := none) b8_0)); have n1_ := Aside0.mk (KeepBut.trans b8_0 hk (.inl rfl)); have n2_ := Aside0.mk (hb); have n3_ := Aside0.mk (hi); have HSG := Aside0.mk (Kd.S_lower (Kd.S_mono (ok' := fun k_ => (w.heap.size ≤ k_) ∧ k_ ≠ g) (Kd.S_bound ho0) (fun k_ hk_ => ⟨(Nat.le_trans (keep_size (w := w) (g := g) (row := none) b8_0) hk_.2.1), (IsS57.fresh b8_3 k_ hk_.2.1)⟩)) (keep_size (w := w) (g := g) (row := none) b8_0)); clear HK; clear HB; clear HI0; have HO212 := n0_; have HK := n1_; have HB := n2_; have HI0 := n3_; clear n0_ n1_ n2_ n3_; (try clear hb); (try clear hk); (try clear hi); (try clear ho0); obtain ⟨Ao74, co74, eo74⟩ := Kd.N_slice HO212.out; subst eo74) | (refine gl_ 31 (some 10) Tryz.func31 #[.pointer (some ⟨g, 0, none⟩), .int .i64 (t210.length : Int)] ?_; (with_reducible refine (spec_l1Next.calls g s0_0 t213 (t210.length : Int) t214 t215 w0 _ ?side1 ?side2 A3.out).mono ?_); (case side1 => exact cI_ HI0.out); (case side2 => exact cB1_ (IsS57.ge HI0.out)); rintro e w75 ⟨rfl, hi, hb, hk⟩; refine ⟨_, rfl, ?_⟩; have n0_ := Aside0.mk (Kd.N_mono (Kd.N_keep (Kd.N_mono (ok := fun k_ => (((w.heap.size ≤ k_)) ∧ k_ ≠ g)) b8_2 (fun k_ hk_ => (⟨hk_, hk_.2⟩ : _ ∧ k_ ≠ g))) hk (fun _ h => h.2)) (fun _ h => h.1)); have n1_ := Aside0.mk (KeepBut.trans b8_0 hk (.inl rfl)); have n2_ := Aside0.mk (hb); have n3_ := Aside0.mk (hi); replace HSG := Aside0.mk (Kd.S_keep HSG.out hk (fun _ h => h.2)); clear HO212; clear HK; clear HB; clear HI0; have HO212 := n0_; have HK := n1_; have HB := n2_; have HI0 := n3_; clear n0_ n1_ n2_ n3_; (try clear hb); (try clear hk); (try clear hi)) | (refine gl_ 31 (some 12) Tryz.func31 #[.pointer (some ⟨g, 0, none⟩), .int .i64 24] ?_; (with_reducible refine (spec_l1Next.calls g s0_0 t215 24 t216 t217 w0 _ ?side1 ?side2 A4.out).mono ?_); (case side1 => exact cI_ HI0.out); (case side2 => exact cB1_ (IsS57.ge HI0.out)); rintro e w76 ⟨rfl, hi, hb, hk⟩; refine ⟨_, rfl, ?_⟩; have n0_ := Aside0.mk (Kd.N_mono (Kd.N_keep (Kd.N_mono (ok := fun k_ => (((w.heap.size ≤ k_)) ∧ k_ ≠ g)) b8_2 (fun k_ hk_ => (⟨hk_, hk_.2⟩ : _ ∧ k_ ≠ g))) hk (fun _ h => h.2)) (fun _ h => h.1)); have n1_ := Aside0.mk (KeepBut.trans b8_0 hk (.inl rfl)); have n2_ := Aside0.mk (hb); have n3_ := Aside0.mk (hi); replace HSG := Aside0.mk (Kd.S_keep HSG.out hk (fun _ h => h.2)); clear HO212; clear HK; clear HB; clear HI0; have HO212 := n0_; have HK := n1_; have HB := n2_; have HI0 := n3_; clear n0_ n1_ n2_ n3_; (try clear hb); (try clear hk); (try clear hi)))
 replace HSG := Aside0.mk (Kd.S_drew HSG.out)
 replace HO212 := Aside0.mk (Kd.N_drew HO212.out)
 replace HI0 := Aside0.mk (IsS57.drew HI0.out)
 replace HK := Aside0.mk (keep_drew HK.out)
 replace HB := Aside0.mk (below_drew1 HB.out)
 have p244 : 0 ≤ (t214 : Int) := cd_
 have q244 : t214 < (t210.length : Int) := cd_
 obtain ⟨ad244, A244_6, c244_6, e244, hx244_0, hx244_1, hx244_2, hx244_3, hx244_4, hx244_5, hx244_6, hl244_6, hi244_6⟩ := at_T36 (Kd.N_reads' HO212.out).2.2 t214 p244 q244
 cases e244
 obtain ⟨ce244, hce244, hMe244, hcc244⟩ := Kd.N_get HO212.out z36 t214 p244 (by first | exact q244 | exact of_decide_eq_true ca_ | (have e_ := (Kd.N_reads' HO212.out).1; omega))
 obtain ⟨ua244_6, uc244_6, rfl, ul244_6, ge244_6⟩ := k36_openF hMe244
 have hv244_6 := hcc244 6 _ rfl
 rw [add_field _ _ 6 (by omega)] at hv244_6
 replace hv244_6 := Option.some.inj (hv244_6.symm.trans hx244_6)
 injection hv244_6 with hva_ hvn_ hvc_
 rw [hva_] at ge244_6
 rw [hvc_] at ul244_6
 have HL244_6 := Aside0.mk (show Kd.V (Kd.int .i64) 2 _ w.heap.size _ _ ((rd_T36 t210 t214).f6) from Kd.V_mk ul244_6 ge244_6)
 clear hva_ hvn_ hvc_ ge244_6 ul244_6
 clear hcc244 hce244
 have HR244_6 := Aside0.mk hi244_6
 have HC244_6 := Aside0.mk hl244_6
 clear hi244_6 hl244_6
 replace p244 := eq_true p244
 replace q244 := eq_true q244
 refine start_ (n := 15) (S := fun w' => w'.cell? (ad244.add ((t214).toNat * 7)) = some (.int .i64 ((rd_T36 t210 t214).f0)) ∧ w'.cell? ⟨(ad244.add ((t214).toNat * 7)).block, (ad244.add ((t214).toNat * 7)).off + 1, none⟩ = some (.int .i64 ((rd_T36 t210 t214).f1)) ∧ w'.cell? ⟨(ad244.add ((t214).toNat * 7)).block, (ad244.add ((t214).toNat * 7)).off + 2, none⟩ = some (.int .i64 ((rd_T36 t210 t214).f2)) ∧ w'.cell? ⟨(ad244.add ((t214).toNat * 7)).block, (ad244.add ((t214).toNat * 7)).off + 3, none⟩ = some (.int .i64 ((rd_T36 t210 t214).f3)) ∧ w'.cell? ⟨(ad244.add ((t214).toNat * 7)).block, (ad244.add ((t214).toNat * 7)).off + 4, none⟩ = some (.int .i64 ((rd_T36 t210 t214).f4)) ∧ w'.cell? ⟨(ad244.add ((t214).toNat * 7)).block, (ad244.add ((t214).toNat * 7)).off + 5, none⟩ = some (.int .i64 ((rd_T36 t210 t214).f5)) ∧ w'.cell? ⟨(ad244.add ((t214).toNat * 7)).block, (ad244.add ((t214).toNat * 7)).off + 6, none⟩ = some (.slice A244_6 ((rd_T36 t210 t214).f6).length c244_6)) (ds := [14]) (bl 15 0) (by kernel_rfl) rfl rfl ⟨hx244_0, hx244_1, hx244_2, hx244_3, hx244_4, hx244_5, hx244_6⟩ (fun hHeld => ?_); refine with_tabW spec_l3Bent.tab13 spec_l3Bent.bits13 (fun HT_ HW_ => ?_)
 generalize w76.drew = w77 at HSG HO212 HI0 HK HB HL244_6 HR244_6 hx244_0 hx244_1 hx244_2 hx244_3 hx244_4 hx244_5 hx244_6 hHeld ⊢
 refine pv_ 0 55 (bl 15 1) ?_
 refine pv_ 1 56 (bl 15 3) ?_
 refine pv_ 2 57 (bl 15 7) ?_
 refine pv_ 3 58 (bl 15 15) ?_
 refine pv_ 4 59 (bl 15 31) ?_
 refine pv_ 5 60 (bl 15 63) ?_
 refine pv_ 7 62 (bl 15 191) ?_
 refine tv_ 6 61 (bl 15 255) rfl hHeld (fun w' s_ => by obtain ⟨s0, s1, s2, s3, s4, s5, s6⟩ := s_; go_simp; with_reducible rfl) ?_
 refine ov_ 8 63 (bl 15 511) (fun K hK => ?_)
 refine Kd.R_lit_step (Kd.int .i64) _ 2 ?hg (N := 63) ?hd (xs := ([0, (-1), 4] : List Int)) (inner := [.int .i64 0, .int .i64 (-1), .int .i64 4]) (ok := fun _ => True) (okp := fun _ => True) ?hr ?hp (fun _ hk => hk) trivial (Below.refl _ _) (Nat.le_refl _) (by simp) ?_; (case hd => rfl); (case hg => rfl); (case hr => first | (go_simp; done) | (go_simp; rfl)); (case hp => exact (Reps.one (show Kd.M (Kd.int .i64) _ _ _ 0 [.int .i64 0] from rfl) (Reps.one (show Kd.M (Kd.int .i64) _ _ _ (-1) [.int .i64 (-1)] from rfl) (Reps.one (show Kd.M (Kd.int .i64) _ _ _ 4 [.int .i64 4] from rfl) (Reps.none _ _)))))
 intro v246 w78 ho79 hb hg_ hnew_
 have HS0_ := (hb.cell (World.block_lt_of_cell? _ _ (hHeld.1))).trans (hHeld.1)
 have HS1_ := (hb.cell (World.block_lt_of_cell? _ _ (hHeld.2.1))).trans (hHeld.2.1)
 have HS2_ := (hb.cell (World.block_lt_of_cell? _ _ (hHeld.2.2.1))).trans (hHeld.2.2.1)
 have HS3_ := (hb.cell (World.block_lt_of_cell? _ _ (hHeld.2.2.2.1))).trans (hHeld.2.2.2.1)
 have HS4_ := (hb.cell (World.block_lt_of_cell? _ _ (hHeld.2.2.2.2.1))).trans (hHeld.2.2.2.2.1)
 have HS5_ := (hb.cell (World.block_lt_of_cell? _ _ (hHeld.2.2.2.2.2.1))).trans (hHeld.2.2.2.2.2.1)
 have HS6_ := (hb.cell (World.block_lt_of_cell? _ _ (hHeld.2.2.2.2.2.2))).trans (hHeld.2.2.2.2.2.2)
 clear hg_ hnew_
 (first | rw [← Ny245.out] at ho79 | (simp only [Int.reduceToNat] at ho79; rw [← Ny245.out] at ho79))
 replace HO212 := Aside0.mk (Kd.N_elder' b8_2 (Kd.R_base ho79) hb)
 replace HL244_6 := Aside0.mk (Kd.V_elder' (cV_ HL244_6.out) (Kd.R_base ho79) hb)
 have HO247 := Aside0.mk (Kd.R_lower (Kd.R_newM (M := fun k_ => (w.heap.size ≤ k_)) ho79 (keep_size (w := w) (g := g) (row := none) b8_0) (fun k_ h_ => h_)) (keep_size (w := w) (g := g) (row := none) b8_0))
 replace HR244_6 := Aside0.mk (Kd.C_below (by repeat (first | (with_reducible exact HR244_6.out) | (with_reducible refine Kd.C_alloc ?_ _) | (with_reducible refine Kd.C_drewN ?_ _) | (with_reducible refine Kd.C_drew ?_) | exact HR244_6.out)) hb)
 replace HK := Aside0.mk (KeepBut.trans b8_0 (KeepBut.of_below hb g none) (.inl rfl))
 replace HB := Aside0.mk (below_step b8_5 hb)
 replace HI0 := Aside0.mk (IsS57.below b8_3 hb)
 replace HSG := Aside0.mk (Kd.S_below HSG.out hb)
 clear hb ho79
 obtain ⟨Ao80, co80, eo80⟩ := Kd.R_slice HO247.out
 (first | subst eo80 | (injection eo80 with f1_ f2_ f3_; have f4_ := f1_.symm; have f5_ := f3_.symm; clear f1_ f2_ f3_; subst f4_; subst f5_))
 refine hK.out _ _ ⟨HS0_, HS1_, HS2_, HS3_, HS4_, HS5_, HS6_⟩ (fun hHeld => ?_)
 clear hK K
 refine nm_ (some 63) ?_
 refine ov_ 9 64 (bl 15 1023) (fun K hK => ?_)
 refine goes_ Tryz.func32 (by kernel_rfl) rfl #[.pointer (some ⟨g, 0, none⟩), .slice Ao80 y245.length co80] (by rfl) rfl rfl cx_ ?_
 with_reducible refine (spec_l1Pick.calls g s0_0 t217 _ _ y245 t248 t249 w0 _ ?side1 ?side2 ?side3 ?side4 ?side5 A70.out).mono ?_
 (case side1 => exact cI_ HI0.out)
 (case side2 => exact cB1_ (IsS57.ge HI0.out))
 (case side3 => exact cC_ ((Kd.R_reads' HO247.out).2.2))
 (case side4 => exact (Kd.R_reads' HO247.out).2.1)
 (case side5 => exact (by exact far_slice (IsS57.own_ne HI0.out HO247.out (by decide))))
 rintro e w81 ⟨rfl, hi, hb, hk⟩
 have HS0_ := keep_cell hk (hHeld.1) b8_6
 have HS1_ := keep_cell hk (hHeld.2.1) b8_6
 have HS2_ := keep_cell hk (hHeld.2.2.1) b8_6
 have HS3_ := keep_cell hk (hHeld.2.2.2.1) b8_6
 have HS4_ := keep_cell hk (hHeld.2.2.2.2.1) b8_6
 have HS5_ := keep_cell hk (hHeld.2.2.2.2.2.1) b8_6
 have HS6_ := keep_cell hk (hHeld.2.2.2.2.2.2) b8_6
 refine ⟨_, rfl, ?_⟩
 replace HO212 := Aside0.mk (Kd.N_mono (Kd.N_keep (Kd.N_mono (ok := fun k_ => ((((w.heap.size ≤ k_)) ∧ k_ ≠ g) ∧ some k_ ≠ (.slice Ao80 y245.length co80 : Value).ownBlock)) b8_2 (fun k_ hk_ => (⟨hk_, hk_.1.2⟩ : _ ∧ k_ ≠ g))) hk (fun _ h => h.2)) (fun _ h => h.1))
 replace HL244_6 := Aside0.mk (Kd.V_mono (Kd.V_keep (Kd.V_mono (ok := fun k_ => (((((w.heap.size ≤ k_)) ∧ k_ ≠ g) ∧ some k_ ≠ (.slice (some ad244) t210.length co74 : Value).ownBlock) ∧ some k_ ≠ (.slice Ao80 y245.length co80 : Value).ownBlock)) (cV_ HL244_6.out) (fun k_ hk_ => (⟨hk_, hk_.1.1.2⟩ : _ ∧ k_ ≠ g))) hk (fun _ h => h.2)) (fun _ h => h.1))
 replace HO247 := Aside0.mk (Kd.R_mono (Kd.R_keep (IsS57.apart (show IsS57 w0 _ g s0_0 t217 from c8I0_) (cR_ HO247.out) (by decide)) hk (fun _ h => h.2)) (fun _ h => h.1))
 replace HK := Aside0.mk (KeepBut.trans b8_0 hk (.inl rfl))
 replace HB := Aside0.mk (hb)
 replace HI0 := Aside0.mk (hi)
 replace HSG := Aside0.mk (Kd.S_keep HSG.out hk (fun _ h => h.2))
 (try clear hb)
 (try clear hk)
 (try clear hi)
 refine hK.out _ _ ⟨HS0_, HS1_, HS2_, HS3_, HS4_, HS5_, HS6_⟩ (fun hHeld => ?_)
 clear hK K
 refine nm_ (some 64) ?_
 refine ov_ 10 65 (bl 15 2047) (fun K hK => ?_)
 refine Kd.R_lit_step (Kd.int .i64) _ 2 ?hg (N := 65) ?hd (xs := ([t248] : List Int)) (inner := [.int .i64 t248]) (ok := fun _ => True) (okp := fun _ => True) ?hr ?hp (fun _ hk => hk) trivial (Below.refl _ _) (Nat.le_refl _) (by simp) ?_; (case hd => rfl); (case hg => rfl); (case hr => first | (go_simp; done) | (go_simp; rfl)); (case hp => exact (Reps.one (show Kd.M (Kd.int .i64) _ _ _ t248 [.int .i64 t248] from rfl) (Reps.none _ _)))
 intro v251 w82 ho83 hb hg_ hnew_
 have HS0_ := (hb.cell (World.block_lt_of_cell? _ _ (hHeld.1))).trans (hHeld.1)
 have HS1_ := (hb.cell (World.block_lt_of_cell? _ _ (hHeld.2.1))).trans (hHeld.2.1)
 have HS2_ := (hb.cell (World.block_lt_of_cell? _ _ (hHeld.2.2.1))).trans (hHeld.2.2.1)
 have HS3_ := (hb.cell (World.block_lt_of_cell? _ _ (hHeld.2.2.2.1))).trans (hHeld.2.2.2.1)
 have HS4_ := (hb.cell (World.block_lt_of_cell? _ _ (hHeld.2.2.2.2.1))).trans (hHeld.2.2.2.2.1)
 have HS5_ := (hb.cell (World.block_lt_of_cell? _ _ (hHeld.2.2.2.2.2.1))).trans (hHeld.2.2.2.2.2.1)
 have HS6_ := (hb.cell (World.block_lt_of_cell? _ _ (hHeld.2.2.2.2.2.2))).trans (hHeld.2.2.2.2.2.2)
 clear hg_ hnew_
 (first | rw [← Ny250.out] at ho83 | (simp only [Int.reduceToNat] at ho83; rw [← Ny250.out] at ho83))
 replace HO212 := Aside0.mk (Kd.N_elder' b8_2 (Kd.R_base ho83) hb)
 replace HL244_6 := Aside0.mk (Kd.V_elder' (cV_ HL244_6.out) (Kd.R_base ho83) hb)
 have HO252 := Aside0.mk (Kd.R_lower (Kd.R_new' (Kd.R_newM (M := fun k_ => (w.heap.size ≤ k_)) ho83 (keep_size (w := w) (g := g) (row := none) b8_0) (fun k_ h_ => h_)) (Kd.R_lt (cR_ HO247.out))) (keep_size (w := w) (g := g) (row := none) b8_0))
 replace HO247 := Aside0.mk (Kd.R_elder' (cR_ HO247.out) (Kd.R_base ho83) hb)
 replace HK := Aside0.mk (KeepBut.trans b8_0 (KeepBut.of_below hb g none) (.inl rfl))
 replace HB := Aside0.mk (below_step b8_5 hb)
 replace HI0 := Aside0.mk (IsS57.below b8_3 hb)
 replace HSG := Aside0.mk (Kd.S_below HSG.out hb)
 clear hb ho83
 obtain ⟨Ao84, co84, eo84⟩ := Kd.R_slice HO252.out
 (first | subst eo84 | (injection eo84 with f1_ f2_ f3_; have f4_ := f1_.symm; have f5_ := f3_.symm; clear f1_ f2_ f3_; subst f4_; subst f5_))
 refine hK.out _ _ ⟨HS0_, HS1_, HS2_, HS3_, HS4_, HS5_, HS6_⟩ (fun hHeld => ?_)
 clear hK K
 refine nm_ (some 65) ?_
 refine ov_ 11 66 (bl 15 4095) (fun K hK => ?_)
 have p72 : 0 ≤ (t214 : Int) := cd_
 have q72 : (t214 : Int) < ((t210.length : Int) : Int) := cd_
 obtain ⟨go72, co72, eo72, gb72, gl72, cl72, HG72⟩ := Kd.S_form HSG.out (by omega)
 (first | cases eo72 | (injection eo72 with ea_ en_ ec_; (first | subst ea_ | (injection ea_ with ea_; subst ea_)); subst ec_; clear en_))
 have GB72 := Aside0.mk gb72
 clear gb72 gl72 HG72
 obtain ⟨vr_, oki_, hcell_, hoki_, hglt_, hokg_, hR_, hfr_, hput_⟩ := bent_open_ HSG.out t214 p72 q72
 have hsl_ := hHeld.2.2.2.2.2.2
 simp only [add_plain] at hsl_
 cases Option.some.inj (hcell_.symm.trans hsl_)
 have et_ := A71.out
 simp only [list_app.f, Option.ite_none_right_eq_some, Option.some.injEq] at et_
 obtain ⟨lt_, et_⟩ := et_
 have hne_ : some go72 ≠ (.slice A244_6 ((rd_T36 t210 t214).f6).length c244_6 : Value).ownBlock := fun e_ => (hoki_ _ (hR_.1 _ e_.symm)).2 rfl
 have hng_ : some g ≠ (.slice A244_6 ((rd_T36 t210 t214).f6).length c244_6 : Value).ownBlock := fun e_ => (hoki_ _ (hR_.1 _ e_.symm)).1.2 rfl
 have hneA_ : some ((⟨go72, 0, none⟩ : Addr).add ((t214).toNat * 7)).block ≠ (.slice A244_6 ((rd_T36 t210 t214).f6).length c244_6 : Value).ownBlock := by rw [add_block]; exact hne_
 refine Kd.R_append_rows_step (Kd.int .i64) (w0 := w82) w.heap.size (by rfl) (.tmp 61) (.tmp 65) 34 2 (.int .i64 0) 8 rfl Tryz.underlying34 info2 rfl (by decide) (by omega) (.slice A244_6 ((rd_T36 t210 t214).f6).length c244_6 : Value) ((rd_T36 t210 t214).f6) y250 _ _ _ (fun k_ => oki_ k_ ∨ ((w.heap.size ≤ k_ ∧ k_ ≠ g) ∧ k_ ≠ go72) ∧ w82.heap.size ≤ k_) (fun _ => False) rfl rfl ?aO ?aR (fun _ _ h => h) (fun _ h => h.elim) ?aF ?aB ?aS ?aL ?_
 (case aR => exact (Kd.R_reads' HO252.out).2.2)
 (case aB => exact (Below.refl _ _))
 (case aF => exact (fun k_ hk => .inr ⟨⟨⟨Nat.le_trans (keep_size (w := w) (g := g) (row := none) HK.out) hk, IsS57.fresh HI0.out k_ hk⟩, Nat.ne_of_gt (Nat.lt_of_lt_of_le hglt_ hk)⟩, hk⟩))
 (case aO => exact (Kd.R_mono hR_ (fun _ h => .inl h)))
 (case aS => exact (keep_size (w := w) (g := g) (row := none) HK.out))
 (case aL => omega)
 intro v254 w85 ho hb hg hat
 rw [et_] at ho
 have HS0_ := World.grownBy.cell hg (hHeld.1) hneA_
 have HS1_ := World.grownBy.cell hg (hHeld.2.1) hneA_
 have HS2_ := World.grownBy.cell hg (hHeld.2.2.1) hneA_
 have HS3_ := World.grownBy.cell hg (hHeld.2.2.2.1) hneA_
 have HS4_ := World.grownBy.cell hg (hHeld.2.2.2.2.1) hneA_
 have HS5_ := World.grownBy.cell hg (hHeld.2.2.2.2.2.1) hneA_
 have HS6_ := World.grownBy.cell hg (hHeld.2.2.2.2.2.2) hneA_
 have n0_ := Aside0.mk (IsS57.grown HI0.out hg hng_)
 have n1_ := Aside0.mk (KeepBut.trans HK.out (KeepBut.of_grown hg g) (Kd.R_base2 hR_))
 have n2_ := Aside0.mk (below_weaken HB.out HL.out hb)
 have hx72_6 := World.grownBy.cell hg hcell_ hne_
 have hf72_6 : World.frozen? _ ⟨go72, (t214 : Int).toNat * 7 + 6, none⟩ = false := (World.frozen?_of_block (a := ⟨go72, (t214 : Int).toNat * 7 + 6, none⟩) (hg.block go72 hglt_ hne_)).trans (hfr_ 6)
 obtain ⟨Ao86, co86, eo86⟩ := Kd.R_slice ho
 subst eo86
 have HP87 := Kd.S_N (hput_ _ _ _ hg ho)
 rw [← Ny256.out] at HP87
 have HQ87 := Aside0.mk HP87
 have HN0_go72 := Aside0.mk (Ne.symm hokg_.2)
 clear HB
 clear HI0
 clear HK
 clear HL244_6
 clear HO212
 clear HO247
 clear HO252
 have HI0 := n0_
 have HK := n1_
 have HB := n2_
 clear n0_ n1_ n2_ hput_ hfr_ hoki_ hcell_ hsl_ hat hg ho hb et_ lt_ HP87 hokg_ hR_ hng_
 replace p72 := eq_true p72
 replace q72 := eq_true q72
 refine hK.out _ _ ⟨HS0_, HS1_, HS2_, HS3_, HS4_, HS5_, HS6_⟩ (fun hHeld => ?_)
 clear hK K
 refine nm_ (some 66) ?_
 refine pv_ 12 67 (bl 15 8191) ?_
 refine pv_ 13 68 (bl 15 16383) ?_
 refine last_ (i := 14) (N := none) (bl 15 32767) rfl rfl (one_of HT_.out (by kernel_rfl)) (by decide) (fun K hK => ?_)
 refine skip_ (w1 := ?_) (by rfl) rfl ?_ ?_
 rotate_left
 ·go_simp
  rfl
 refine hK.out _ _ ?_
 clear hK K
 refine done_ (done_of HT_.out (by kernel_rfl)) ?_
 try go_wp2
 go_ret
 exact ⟨_, ce_, by refine cN_ ?_; exact Kd.N_mono HQ87.out (fun _ hk => hk.1), c8I1_ HN0_go72.out, cB2_ (Nat.le_trans HL.out GB72.out) (IsS57.ge HI0.out), by repeat (first | (with_reducible first | exact HK.out | apply KeepBut.set_ | apply keep_drewN | apply keep_drew | apply keep_alloc | refine keep_far ?_ GB72.out _) | exact HK.out)⟩

/-! ### spec_l1Source: function 17 -/
def spec_l1Source.f (l0 : List Int) : Option (List Int × Int) := some (l0, 0)
theorem spec_l1Source.calls (A0 : Option Addr) (c0 : Nat) (l0 : List Int) (r1 : List Int) (r2 : Int) (w0 w : World) (hB : Below w0.heap.size w0 w) (hr0 : Kd.C (Kd.int .u8) w0 A0 l0.length l0) (hc0 : l0.length ≤ c0) (h : spec_l1Source.f l0 = some (r1, r2)) :
  Calls Tryz.prog 17 #[.slice A0 l0.length c0] w fun e w' => ∃ g_ : Nat, e = .returned (.pointer (some ⟨g_, 0, none⟩)) ∧ IsS57 w0 w' g_ r1 r2 ∧ Below w0.heap.size w0 w' ∧ Below w.heap.size w w' := by
 have hu57 := Tryz.underlying57
 have HR0 := Aside0.mk hr0
 have HC0 := Aside0.mk hc0
 clear hr0 hc0
 have HBW := Aside0.mk (Below.refl w.heap.size w)
 have HW0 := Aside0.mk hB.size
 have HB := Aside0.mk hB
 clear hB
 have H : (some (l0, 0)) = some (r1, r2) := h
 clear h
 simp only [Option.some.injEq, Prod.mk.injEq] at H
 obtain ⟨rfl, rfl⟩ := H
 go_enter Tryz.func17, Tryz.ntmps17
 go_wp2_with (first | (refine bx_ 5 #[.slice A0 l0.length c0, .int .i64 0] 57 ?_; intro gb280 hg w2 hbox hb; replace HB := Aside0.mk (below_step cB0_ hb); have BK280 := Aside0.mk (hbox); have GW280 := Aside0.mk ((by rw [hg]; exact (below_size (by repeat (first | (with_reducible first | exact HBW.out | apply below_alloc | apply pw_below_drewN | apply below_drew1) | exact HBW.out))) : w.heap.size ≤ gb280)); have GE280 := Aside0.mk ((Nat.le_trans HW0.out (by rw [hg]; exact (below_size (by repeat (first | (with_reducible first | exact HBW.out | apply below_alloc | apply pw_below_drewN | apply below_drew1) | exact HBW.out))) : w.heap.size ≤ gb280) : w0.heap.size ≤ gb280)); replace HBW := Aside0.mk (below_step HBW.out hb); clear hb hbox hg))
 go_ret
 exact ⟨_, rfl, (show IsS57 w0 _ gb280 l0 0 from ⟨_, _, cO_ BK280.out, GE280.out, HR0.out⟩), cB1_ GE280.out, by repeat (first | (with_reducible first | exact HBW.out | apply below_alloc | apply pw_below_drewN | apply below_drew1 | refine below_set ?_ GW280.out) | exact HBW.out)⟩

/-! ### spec_DrawFormatPlan: function 6 -/
def spec_DrawFormatPlan.f (k : Nat) (l0 : List Int) : Option ((List (S36))) := (spec_l1Source.f l0).bind fun bt281 => ((spec_l3Bent.f k bt281.1 bt281.2).bind fun bt284 => (some bt284.1))
theorem spec_DrawFormatPlan.mono : ∀ a0 k, LeO (spec_DrawFormatPlan.f k a0) (spec_DrawFormatPlan.f (k + 1) a0) := by
 intro a0 k
 unfold spec_DrawFormatPlan.f
 repeat' first
   | (with_reducible exact spec_l3Bent.mono _ _ _)
   | (with_reducible exact LeO.refl _)
   | (with_reducible exact LeO.none _)
   | (with_reducible refine LeO.ite ?_ ?_)
   | (with_reducible refine LeO.bind ?_ (fun _ => ?_))
   | refine LeO.ite ?_ ?_
   | refine LeO.bind ?_ (fun _ => ?_)
theorem spec_DrawFormatPlan.calls (k : Nat) (A0 : Option Addr) (c0 : Nat) (l0 : List Int) (r : List (S36)) (w : World) (hr0 : Kd.C (Kd.int .u8) w A0 l0.length l0) (hc0 : l0.length ≤ c0) (h : spec_DrawFormatPlan.f k l0 = some r) :
  Calls Tryz.prog 6 #[.slice A0 l0.length c0] w fun e w' => ∃ v0_ : Value, e = .returned (v0_) ∧ Kd.N k36 36 w' w.heap.size (fun k_ => (w.heap.size ≤ k_)) v0_ r ∧ Below w.heap.size w w' := by
 have HR0 := Aside0.mk hr0
 have HC0 := Aside0.mk hc0
 clear hr0 hc0
 have HB := Aside0.mk (Below.refl w.heap.size w)
 have H : ((spec_l1Source.f l0).bind fun bt281 => ((spec_l3Bent.f k bt281.1 bt281.2).bind fun bt284 => (some bt284.1))) = some r := h
 clear h
 obtain ⟨⟨t281, t282⟩, A2, H⟩ := bnd_ H
 try dsimp only at H
 obtain ⟨⟨t284, t287⟩, A3, H⟩ := bnd_ H
 try dsimp only at H
 obtain rfl := Option.some.inj H
 go_enter Tryz.func6, Tryz.ntmps6
 go_wp2_with (first | (refine gl_ 17 (some 4) Tryz.func17 #[.slice A0 l0.length c0] ?_; (with_reducible refine (spec_l1Source.calls _ _ l0 t281 t282 w _ ?side1 ?side2 ?side3 A2.out).mono ?_); (case side1 => exact cB0_); (case side2 => exact HR0.out); (case side3 => exact HC0.out); rintro e w4 ⟨g283, rfl, hi, hb, hb2⟩; refine ⟨_, rfl, ?_⟩; replace HB := Aside0.mk (hb); have HI283 := Aside0.mk (hi); (try clear hb); (try clear hb2); (try clear hi)) | (refine gl_ 16 (some 5) Tryz.func16 #[.pointer (some ⟨g283, 0, none⟩)] ?_; (with_reducible refine (spec_l3Bent.calls k g283 t281 t282 t284 t287 w _ ?side1 ?side2 A3.out).mono ?_); (case side1 => exact cI_ HI283.out); (case side2 => exact cB1_ (IsS57.ge HI283.out)); rintro e w5 ⟨v285, rfl, ho0, hi, hb, hk⟩; refine ⟨_, rfl, ?_⟩; have HO286 := Aside0.mk (Kd.N_lower (Kd.N_mono (ok' := fun k_ => (w.heap.size ≤ k_) ∧ k_ ≠ g283) ho0 (fun k_ hk_ => ⟨(Nat.le_trans (below_size (cB1_ (IsS57.ge HI283.out))) hk_), (IsS57.fresh (cI_ HI283.out) k_ hk_)⟩)) (below_size (cB1_ (IsS57.ge HI283.out)))); replace HB := Aside0.mk (hb); replace HI283 := Aside0.mk (hi); (try clear hb); (try clear hk); (try clear hi); (try clear ho0)))
 go_ret
 exact ⟨_, ce_, by refine cN_ ?_; exact Kd.N_mono HO286.out (fun _ hk => hk.1), cB1_ (IsS57.ge HI283.out)⟩

/-! ### impl_in: function 40 -/
def impl_in.f (a0 : Int) (a1 : Int) (a2 : Int) : Option (Bool) := if a0 ≥ a1 then (some (decide (a0 ≤ a2))) else (some false)
theorem impl_in.calls (a0 : Int) (a1 : Int) (a2 : Int) (r : Bool) (w : World) (h : impl_in.f a0 a1 a2 = some r) :
  Calls Tryz.prog 40 #[.int .i64 a0, .int .i64 a1, .int .i64 a2] w fun e w' => e = .returned (.bool r) ∧ Drawn0 w w' := by
 have H : (if a0 ≥ a1 then (some (decide (a0 ≤ a2))) else (some false)) = some r := h
 clear h
 by_cases c4 : a0 ≥ a1
 ·rw [if_pos c4] at H
  have c4b0 : decide (a1 ≤ a0) = true := decide_eq_true c4
  clear c4
  obtain rfl := Option.some.inj H
  go_enter Tryz.func40, Tryz.ntmps40
  go_wp2
  go_ret
  exact ⟨cs_, cD_⟩
 rw [if_neg c4] at H
 have c4b0 : decide (a1 ≤ a0) = false := decide_eq_false c4
 clear c4
 obtain rfl := Option.some.inj H
 go_enter Tryz.func40, Tryz.ntmps40
 go_wp2
 go_ret
 exact ⟨cs_, cD_⟩

/-! ### impl_Node: function 41 -/
def impl_Node.f (l0 : List (S36)) : Option (Int) := some (l0.length : Int)
theorem impl_Node.calls (A0 : Option Addr) (c0 : Nat) (l0 : List (S36)) (r : Int) (w : World) (hr0 : Kd.C k36 w A0 l0.length l0) (hc0 : l0.length ≤ c0) (h : impl_Node.f l0 = some r) :
  Calls Tryz.prog 41 #[.slice A0 l0.length c0] w fun e w' => e = .returned (.int .i64 r) ∧ Drawn0 w w' := by
 have HR0 := Aside0.mk hr0
 have HC0 := Aside0.mk hc0
 clear hr0 hc0
 have H : (some (l0.length : Int)) = some r := h
 clear h
 obtain rfl := Option.some.inj H
 go_enter Tryz.func41, Tryz.ntmps41
 go_wp2
 go_ret
 exact ⟨cs_, cD_⟩

end Go.Proofs.YteibdjkfkcckkaaGreatDoor.PFnPlans
