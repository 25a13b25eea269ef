-- Written by fprint, a program of this session, out of Lean's own print of the translation. Lean checks it.
import Derived.Test.YthgmicingbjemaaDense
import Derived.Test.YthgmicingbjemaaShort
import Derived.Test.YthgmicingbjemaaPFnJoinsx0
import Derived.Test.YthgmicingbjemaaPFnJoinsx6
import Derived.Test.YthgmicingbjemaaPFnJoinsx8
namespace Go.Proofs.Ythgmicingbjemaa.PFnJoins
open Go.RowKit Go.Proofs.YthgmicingbjemaaW.PrintWords Go.Proofs.YthgmicingbjemaaW.PrintLast Go.Proofs.YthgmicingbjemaaW.PrintMore
attribute [local go_sem] max2_int min2_int max_two min_two max_three min_three max_four min_four
set_option linter.unusedVariables false
set_option maxHeartbeats 8000000
set_option maxRecDepth 100000
set_option linter.unusedSimpArgs false

theorem b9_2 {p : Prop} (h : p := by (try simp only [List.map_toArray, List.map_cons, List.map_nil]); first | done | (rw [show (((rd_T42 l0 x9_1).f0).take (a2 : Int).toNat).length = a2.toNat from (by rw [List.length_take]; have h_ : (a2 : Int) ≤ (((rd_T42 l0 x9_1).f0).length : Int) := cd_; omega)] <;> rfl) | (rw [show (((rd_T42 l1 x10_2).f0).take (a2 : Int).toNat).length = a2.toNat from (by rw [List.length_take]; have h_ : (a2 : Int) ≤ (((rd_T42 l1 x10_2).f0).length : Int) := cd_; omega)] <;> rfl) | (rw [show (((rd_T42 l0 x9_1).f0).take (a2 : Int).toNat).length = a2.toNat from (by rw [List.length_take]; have h_ : (a2 : Int) ≤ (((rd_T42 l0 x9_1).f0).length : Int) := cd_; omega), show (((rd_T42 l1 x10_2).f0).take (a2 : Int).toNat).length = a2.toNat from (by rw [List.length_take]; have h_ : (a2 : Int) ≤ (((rd_T42 l1 x10_2).f0).length : Int) := cd_; omega)] <;> rfl) | rfl | (simp only [List.length_drop, List.length_take]; rfl)) : p := h
theorem b9_3 {p : Prop} (h : p := by exact cN_ HO_8.out) : p := h
theorem q9_0 {p : Prop} (h : p := by first | exact Kd.S_nil _ _ _ _ _ | exact Kd.N_nil _ _ _ _ _ | exact Kd.V_nil _ _ _ _ _ | exact Kd.Q_nil _ _ _ _ _ | exact Kd.R_nil _ _ _ _ _) : p := h
/-! ### spec_l4Join: function 84 -/
mutual
def spec_l4Join.l0 : Nat → List (S42) → List (S42) → Int → List (S42) → Int → Option ((List (S42)) × Int)
 | 0, _, _, _, _, _ => none
 | k + 1, x0, x1, x2, x8, x9 => if x9 < (x0.length : Int) then (spec_l4Join.l1 k x0 x1 x2 x8 x9 0) else (if (x8.length : Int) > 800 then (some (([] : List (S42)), 2)) else ((spec_l2Set.f k x8).bind fun bt204 => (some (bt204.1, bt204.2))))
def spec_l4Join.l1 : Nat → List (S42) → List (S42) → Int → List (S42) → Int → Int → Option ((List (S42)) × Int)
 | 0, _, _, _, _, _, _ => none
 | k + 1, x0, x1, x2, x8, x9, x10 => if x10 < (x1.length : Int) then (if 0 ≤ x9 then (if x9 < (x0.length : Int) then (if 0 ≤ x2 then (if x2 ≤ (((rd_T42 x0 x9).f0).length : Int) then (if 0 ≤ x10 then (if x2 ≤ (((rd_T42 x1 x10).f0).length : Int) then ((spec_CompareRows.f k (((rd_T42 x0 x9).f0).take (x2 : Int).toNat) (((rd_T42 x1 x10).f0).take (x2 : Int).toNat)).bind fun t212 => (if t212 = 0 then ((spec_l1Mul.f k ((rd_T42 x0 x9).f1) ((rd_T42 x1 x10).f1)).bind fun bt215 => (if bt215.2 = true then ((spec_l2Row.f ((rd_T42 x0 x9).f0)).bind fun t218 => (if t218.length + (((rd_T42 x1 x10).f0).drop (x2 : Int).toNat).length < 17592186044416 then (if x8.length < 4398046511104 then (spec_l4Join.l1 k x0 x1 x2 (x8 ++ [(⟨(t218 ++ (((rd_T42 x1 x10).f0).drop (x2 : Int).toNat)), bt215.1⟩ : S42)]) x9 (wrap64 (x10 + 1))) else (none)) else (none))) else (some (([] : List (S42)), 8)))) else (spec_l4Join.l1 k x0 x1 x2 x8 x9 (wrap64 (x10 + 1))))) else (none)) else (none)) else (none)) else (none)) else (none)) else (none)) else (spec_l4Join.l0 k x0 x1 x2 x8 (wrap64 (x9 + 1)))
end
def spec_l4Join.f (k : Nat) (l0 : List (S42)) (l1 : List (S42)) (a2 : Int) : Option ((List (S42)) × Int) := spec_l4Join.l0 k l0 l1 a2 (([] : List (S42))) 0
theorem spec_l4Join.mono_l : ∀ k, (∀ y0 y1 y2 y3 y4, LeO (spec_l4Join.l0 k y0 y1 y2 y3 y4) (spec_l4Join.l0 (k + 1) y0 y1 y2 y3 y4)) ∧ (∀ y0 y1 y2 y3 y4 y5, LeO (spec_l4Join.l1 k y0 y1 y2 y3 y4 y5) (spec_l4Join.l1 (k + 1) y0 y1 y2 y3 y4 y5))
 | 0 => ⟨fun _ _ _ _ _ r h => by simp [spec_l4Join.l0] at h, fun _ _ _ _ _ _ r h => by simp [spec_l4Join.l1] at h⟩
 | k + 1 => by
  obtain ⟨ih0, ih1⟩ := spec_l4Join.mono_l k
  refine ⟨?_, ?_⟩
  ·intro y0 y1 y2 y3 y4
   unfold spec_l4Join.l0
   repeat' first
   | (with_reducible exact ih0 _ _ _ _ _)
   | (with_reducible exact ih1 _ _ _ _ _ _)
   | (with_reducible exact spec_CompareRows.mono _ _ _)
   | (with_reducible exact spec_l1Mul.mono _ _ _)
   | (with_reducible exact spec_l2Set.mono _ _)
   | (with_reducible exact LeO.refl _)
   | (with_reducible exact LeO.none _)
   | (with_reducible refine LeO.ite ?_ ?_)
   | (with_reducible refine LeO.bind ?_ (fun _ => ?_))
   | refine LeO.ite ?_ ?_
   | refine LeO.bind ?_ (fun _ => ?_)
  ·intro y0 y1 y2 y3 y4 y5
   unfold spec_l4Join.l1
   repeat' first
   | (with_reducible exact ih0 _ _ _ _ _)
   | (with_reducible exact ih1 _ _ _ _ _ _)
   | (with_reducible exact spec_CompareRows.mono _ _ _)
   | (with_reducible exact spec_l1Mul.mono _ _ _)
   | (with_reducible exact spec_l2Set.mono _ _)
   | (with_reducible exact LeO.refl _)
   | (with_reducible exact LeO.none _)
   | (with_reducible refine LeO.ite ?_ ?_)
   | (with_reducible refine LeO.bind ?_ (fun _ => ?_))
   | refine LeO.ite ?_ ?_
   | refine LeO.bind ?_ (fun _ => ?_)
theorem spec_l4Join.mono : ∀ a0 a1 a2 k, LeO (spec_l4Join.f k a0 a1 a2) (spec_l4Join.f (k + 1) a0 a1 a2) := by
 intro a0 a1 a2 k
 obtain ⟨ih0, ih1⟩ := spec_l4Join.mono_l k
 unfold spec_l4Join.f
 repeat' first
   | (with_reducible exact ih0 _ _ _ _ _)
   | (with_reducible exact ih1 _ _ _ _ _ _)
   | (with_reducible exact spec_CompareRows.mono _ _ _)
   | (with_reducible exact spec_l1Mul.mono _ _ _)
   | (with_reducible exact spec_l2Set.mono _ _)
   | (with_reducible exact LeO.refl _)
   | (with_reducible exact LeO.none _)
   | (with_reducible refine LeO.ite ?_ ?_)
   | (with_reducible refine LeO.bind ?_ (fun _ => ?_))
   | refine LeO.ite ?_ ?_
   | refine LeO.bind ?_ (fun _ => ?_)
def spec_l4Join.T8 : Bool × List (List Nat × List Nat) := (true, [([], []), ([], []), ([0, 1], [0, 1]), ([2], [2]), ([3], [3]), ([], []), ([4, 5], [4, 5]), ([], []), ([], []), ([7, 8], [7, 8]), ([9], [9]), ([10], [10]), ([], []), ([11, 12], [11, 12]), ([6, 13], [6, 13]), ([14], [14])])
def spec_l4Join.B8 : List Nat := [0, 0, 3, 7, 15, 0, 63, 0, 0, 384, 896, 1920, 0, 8064, 16383, 32767]
theorem spec_l4Join.tab8 : rtab .any (opsOf Try.f84 8) = spec_l4Join.T8 := by kernel_rfl
theorem spec_l4Join.bits8 : waitsOk spec_l4Join.T8.2 spec_l4Join.B8 = true := by kernel_rfl
def spec_l4Join.T9 : Bool × List (List Nat × List Nat) := (true, [([], []), ([], []), ([0, 1], [0, 1]), ([2], [2]), ([3], [3]), ([], []), ([], []), ([5, 6], [5, 6]), ([7], [7]), ([8], [8]), ([4, 9], [4, 9]), ([10], [10]), ([11], [11]), ([11], [11]), ([12, 10, 0, 1, 2, 3, 4, 5, 6, 7, 8, 9, 10, 11, 12], [12]), ([13, 14, 0, 1, 2, 3, 4, 5, 6, 7, 8, 9, 10, 11, 12, 13, 14], [13])])
def spec_l4Join.B9 : List Nat := [0, 0, 3, 7, 15, 0, 0, 96, 224, 480, 1023, 2047, 4095, 4095, 8191, 32767]
theorem spec_l4Join.tab9 : rtab .any (opsOf Try.f84 9) = spec_l4Join.T9 := by kernel_rfl
theorem spec_l4Join.bits9 : waitsOk spec_l4Join.T9.2 spec_l4Join.B9 = true := by kernel_rfl
def spec_l4Join.T12 : Bool × List (List Nat × List Nat) := (true, [([], []), ([], []), ([], []), ([1, 2], [1, 2]), ([3], [3]), ([4], [4]), ([5], [5]), ([], []), ([], []), ([7, 8], [7, 8]), ([9], [9]), ([10], [10]), ([], []), ([11, 12], [11, 12]), ([6, 13, 6], [6, 13]), ([], []), ([14, 15], [14, 15]), ([16], [16]), ([0, 17, 14], [0, 17]), ([18, 18, 0, 1, 2, 3, 4, 5, 6, 7, 8, 9, 10, 11, 12, 13, 14, 15, 16, 17, 18], [0, 18])])
def spec_l4Join.B12 : List Nat := [0, 0, 0, 6, 14, 30, 62, 0, 0, 384, 896, 1920, 0, 8064, 16382, 0, 65534, 131070, 262143, 524287]
theorem spec_l4Join.tab12 : rtab .any (opsOf Try.f84 12) = spec_l4Join.T12 := by kernel_rfl
theorem spec_l4Join.bits12 : waitsOk spec_l4Join.T12.2 spec_l4Join.B12 = true := by kernel_rfl
theorem spec_l4Join.calls (k : Nat) (A0 : Option Addr) (c0 : Nat) (l0 : List (S42)) (A1 : Option Addr) (c1 : Nat) (l1 : List (S42)) (a2 : Int) (r1 : List (S42)) (r2 : Int) (w : World) (hr0 : Kd.C k42 w A0 l0.length l0) (hc0 : l0.length ≤ c0) (hr1 : Kd.C k42 w A1 l1.length l1) (hc1 : l1.length ≤ c1) (h : spec_l4Join.f k l0 l1 a2 = some (r1, r2)) :
  Calls Try.prog 84 #[.slice A0 l0.length c0, .slice A1 l1.length c1, .int .i64 a2] w fun e w' => ∃ v0_ : Value, e = .returned (.tuple #[v0_, .int .i64 r2]) ∧ Kd.N k42 42 w' w.heap.size (fun k_ => (w.heap.size ≤ k_)) v0_ r1 ∧ Below w.heap.size w w' := by
 have hu42 := Try.underlying42
 have HR0 := Aside0.mk hr0
 have HC0 := Aside0.mk hc0
 clear hr0 hc0
 have HR1 := Aside0.mk hr1
 have HC1 := Aside0.mk hc1
 clear hr1 hc1
 have HB := Aside0.mk (Below.refl w.heap.size w)
 have H : (spec_l4Join.l0 k l0 l1 a2 (([] : List (S42))) 0) = some (r1, r2) := h
 clear h
 obtain ⟨y201, hy_⟩ : ∃ y_ : List (S42), y_ = (([] : List (S42))) := ⟨_, rfl⟩
 replace H : (spec_l4Join.l0 k l0 l1 a2 y201 0) = some (r1, r2) := yb_
 have Ny201 := Aside0.mk hy_
 clear hy_
 have H' := Aside0.mk H
 clear H
 go_enter Try.func84, Try.ntmps84
 go_wp2_with (first | ((with_reducible refine gate_dst (N := 13) rfl ?_); refine Kd.N_lit k42 _ 42 ?hg (N' := 13) ?hd (xs := ([] : List (S42))) (inner := []) (ok := (fun k_ => (w.heap.size ≤ k_))) (okp := (fun k_ => (w.heap.size ≤ k_))) ?hr ?hp (fun _ hk => hk) ((show ∀ k_, w.heap.size ≤ k_ → (fun k_ => (w.heap.size ≤ k_)) k_ from fun k_ hk => (Nat.le_trans (below_size cB0_) hk)) _ (Nat.le_refl _)) (Below.refl _ _) (Nat.le_refl _) (by simp) ?_; (case hd => rfl); (case hg => rfl); (case hr => first | (go_simp; done) | (go_simp; rfl)); (case hp => exact (Reps.none _ _)); intro v202 w4 ho5 hb hg_ hnew_; clear hg_ hnew_; (first | rw [← Ny201.out] at ho5 | (simp only [Int.reduceToNat] at ho5; rw [← Ny201.out] at ho5)); have HO203 := Aside0.mk (Kd.N_lower ho5 (below_size cB0_)); replace HB := Aside0.mk (below_step cB0_ hb); clear hb ho5))
 go_loopg [8, 9] k (fun kq v8 v9 w' => ∃ (x8_1 : List (S42)) (x9_1 : Int), v9 = .int .i64 x9_1 ∧ Aside0 (spec_l4Join.l0 kq l0 l1 a2 x8_1 x9_1 = some (r1, r2)) ∧ Aside0 (kq ≤ k) ∧ Aside0 (Kd.N k42 42 w' w.heap.size (fun k_ => (w.heap.size ≤ k_)) v8 x8_1) ∧ Aside0 (Below w.heap.size w w'))
 case atStart => exact ⟨(y201), (0), cs_, H', ⟨Nat.le_refl _⟩, ⟨cN_ HO203.out⟩, ⟨cB0_⟩⟩
 case round =>
  clear H'
  try clear c1
  try clear p2
  obtain ⟨x8_1, x9_1, rfl, HA, HK1, HO_8, HB⟩ := hrel
  cases gk with
  | zero => exact absurd HA.out (by simp [spec_l4Join.l0])
  | succ k1 =>
   have H := HA.out
   clear HA
   simp only [spec_l4Join.l0] at H
   by_cases c6 : x9_1 < (l0.length : Int)
   rotate_left
   ·rw [if_neg c6] at H
    have c6b0 := decide_eq_false c6
    clear c6
    by_cases c41 : (x8_1.length : Int) > 800
    ·rw [if_pos c41] at H
     have c41b0 : decide (800 < (x8_1.length : Int)) = true := decide_eq_true c41
     have c41b1 : decide (800 < x8_1.length) = true := decide_eq_true (by omega)
     clear c41
     simp only [Option.some.injEq, Prod.mk.injEq] at H
     obtain ⟨rfl, rfl⟩ := H
     obtain ⟨Ao42, co42, eo42⟩ := Kd.N_slice HO_8.out
     subst eo42
     go_wp2
     go_ret2
     exact ⟨_, ce_, q9_0, cB0_⟩
    rw [if_neg c41] at H
    have c41b0 : decide (800 < (x8_1.length : Int)) = false := decide_eq_false c41
    have c41b1 : decide (800 < x8_1.length) = false := decide_eq_false (by omega)
    clear c41
    obtain ⟨⟨t204, t207⟩, A43, H⟩ := bnd_ H
    try dsimp only at H
    simp only [Option.some.injEq, Prod.mk.injEq] at H
    obtain ⟨rfl, rfl⟩ := H
    obtain ⟨Ao44, co44, eo44⟩ := Kd.N_slice HO_8.out
    subst eo44
    go_wp2_with (first | (refine gl_ 46 (some 81) Try.func46 #[.slice Ao44 x8_1.length co44] ?_; (with_reducible refine (spec_l2Set.calls k1 _ _ x8_1 t204 t207 _ ?side1 ?side2 A43.out).mono ?_); (case side1 => exact cC_ ((Kd.N_reads' HO_8.out).2.2)); (case side2 => exact (Kd.N_reads' HO_8.out).2.1); rintro e w45 ⟨v205, rfl, ho0, hb⟩; refine ⟨_, rfl, ?_⟩; have HO206 := Aside0.mk (Kd.N_lower (Kd.N_mono (ok' := fun k_ => (w.heap.size ≤ k_) ∧ some k_ ≠ (.slice Ao44 x8_1.length co44 : Value).ownBlock) ho0 (fun k_ hk_ => ⟨(Nat.le_trans (below_size cB0_) hk_), (Kd.fresh' (Kd.N_lt b9_3) k_ hk_)⟩)) (below_size cB0_)); replace HO_8 := Aside0.mk (Kd.N_elder' b9_3 (Kd.N_base ho0) hb); replace HB := Aside0.mk (below_step cB0_ hb); (try clear hb); (try clear hb2); (try clear hk); (try clear hi); (try clear ho0)))
    go_ret2
    exact ⟨_, ce_, by refine cN_ ?_; exact Kd.N_mono HO206.out (fun _ hk => hk.1), cB0_⟩
   rw [if_pos c6] at H
   have c6b0 := decide_eq_true c6
   clear c6
   have H' := Aside0.mk H
   clear H
   go_wp2
   go_loopg [8, 10] k1 (fun kq v8 v10 w' => ∃ (x8_2 : List (S42)) (x10_2 : Int), v10 = .int .i64 x10_2 ∧ Aside0 (spec_l4Join.l1 kq l0 l1 a2 x8_2 x9_1 x10_2 = some (r1, r2)) ∧ Aside0 (kq ≤ k1) ∧ Aside0 (Kd.N k42 42 w' w.heap.size (fun k_ => (w.heap.size ≤ k_)) v8 x8_2) ∧ Aside0 (Below w.heap.size w w'))
   case atStart => exact ⟨(x8_1), (0), cs_, H', ⟨Nat.le_refl _⟩, ⟨cN_ HO_8.out⟩, ⟨cB0_⟩⟩
   case round =>
    clear H'
    try clear c1
    try clear p2
    try clear c6
    try clear c6b0
    try clear p2
    obtain ⟨x8_2, x10_2, rfl, HA, HK2, HO_8, HB⟩ := hrel
    cases gk with
    | zero => exact absurd HA.out (by simp [spec_l4Join.l1])
    | succ k2 =>
     have H := HA.out
     clear HA
     simp only [spec_l4Join.l1] at H
     by_cases c7 : x10_2 < (l1.length : Int)
     rotate_left
     ·rw [if_neg c7] at H
      have c7b0 := decide_eq_false c7
      clear c7
      have H' := Aside0.mk H
      clear H
      go_wp2
      go_roundg k2
      case measure => have := HK1.out; have := HK2.out; omega
      case rel => exact ⟨(x8_2), (wrap64 (x9_1 + 1)), cs_, H', ⟨by have := HK1.out; have := HK2.out; omega⟩, ⟨cN_ HO_8.out⟩, ⟨cB0_⟩⟩
     rw [if_pos c7] at H
     have c7b0 := decide_eq_true c7
     clear c7
     by_cases c8 : 0 ≤ x9_1
     rotate_left
     ·rw [if_neg c8] at H
      exact absurd H (by simp)
     rw [if_pos c8] at H
     have c8b0 := decide_eq_true c8
     clear c8
     by_cases c9 : x9_1 < (l0.length : Int)
     rotate_left
     ·rw [if_neg c9] at H
      exact absurd H (by simp)
     rw [if_pos c9] at H
     have c9b0 := decide_eq_true c9
     clear c9
     by_cases c10 : 0 ≤ a2
     rotate_left
     ·rw [if_neg c10] at H
      exact absurd H (by simp)
     rw [if_pos c10] at H
     have c10b0 := eq_true c10
     have c10b1 : decide (0 ≤ a2) = true := decide_eq_true c10
     clear c10
     by_cases c11 : a2 ≤ (((rd_T42 l0 x9_1).f0).length : Int)
     rotate_left
     ·rw [if_neg c11] at H
      exact absurd H (by simp)
     rw [if_pos c11] at H
     have c11b0 := eq_true c11
     have c11b1 : decide (a2 ≤ (((rd_T42 l0 x9_1).f0).length : Int)) = true := decide_eq_true c11
     clear c11
     by_cases c12 : 0 ≤ x10_2
     rotate_left
     ·rw [if_neg c12] at H
      exact absurd H (by simp)
     rw [if_pos c12] at H
     have c12b0 := decide_eq_true c12
     clear c12
     have c13b0 := eq_true (of_decide_eq_true ca_ : 0 ≤ a2)
     by_cases c14 : a2 ≤ (((rd_T42 l1 x10_2).f0).length : Int)
     rotate_left
     ·rw [if_neg c14] at H
      exact absurd H (by simp)
     rw [if_pos c14] at H
     have c14b0 := eq_true c14
     have c14b1 : decide (a2 ≤ (((rd_T42 l1 x10_2).f0).length : Int)) = true := decide_eq_true c14
     clear c14
     obtain ⟨t212, A15, H⟩ := bnd_ H
     try dsimp only at H
     by_cases c16 : t212 = 0
     rotate_left
     ·rw [if_neg c16] at H
      have c16b0 : (t212 == 0) = false := beq_eq_false_iff_ne.mpr c16
      have c16b1 : (t212 != 0) = true := bne_iff_ne.mpr c16
      have H' := Aside0.mk H
      clear H
      try go_wp2
      replace HO_8 := Aside0.mk (Kd.N_drew HO_8.out)
      replace HB := Aside0.mk (below_drew1 HB.out)
      have p208 : 0 ≤ (x9_1 : Int) := cd_
      have q208 : x9_1 < (l0.length : Int) := cd_
      obtain ⟨ad208, A208_0, c208_0, e208, hx208_0, hx208_1, hl208_0, hi208_0⟩ := at_T42 HR0.out x9_1 p208 q208
      have hw208_1 := hx208_1
      have hw208_0 := hx208_0
      cases e208
      replace hx208_0 := pw_cell_below HB.out hx208_0
      replace hx208_1 := pw_cell_below HB.out hx208_1
      have HR208_0 := Aside0.mk hi208_0
      have HC208_0 := Aside0.mk hl208_0
      clear hi208_0 hl208_0
      replace p208 := eq_true p208
      replace q208 := eq_true q208
      obtain ⟨i039, hi039, _, hsz39, _⟩ := info_parts info2
      obtain ⟨hcut39, hA39, hC39⟩ := print_take_of (P := Try.prog) (Value.int .i64) 0 40 2 .i64 Try.underlying40 hi039 hsz39 A208_0 c208_0 ((rd_T42 l0 x9_1).f0) a2 (of_decide_eq_true ca_) (of_decide_eq_true ca_) HC208_0.out
      have HTL39 := Aside0.mk (show (((rd_T42 l0 x9_1).f0).take (a2 : Int).toNat).length = (a2 : Int).toNat from by have h1_ : a2 ≤ (((rd_T42 l0 x9_1).f0).length : Int) := (of_decide_eq_true ca_); rw [List.length_take]; omega)
      have HR209 := Aside0.mk (Kd.C_of_reads (h1 := fun _ => rfl) (hA39 _ (Kd.reads_of_C HR208_0.out)))
      have HC209 := Aside0.mk hC39
      clear hA39 hC39 hi039 hsz39
      have p210 : 0 ≤ (x10_2 : Int) := cd_
      have q210 : x10_2 < (l1.length : Int) := cd_
      obtain ⟨ad210, A210_0, c210_0, e210, hx210_0, hx210_1, hl210_0, hi210_0⟩ := at_T42 HR1.out x10_2 p210 q210
      have hw210_1 := hx210_1
      have hw210_0 := hx210_0
      cases e210
      replace hx210_0 := pw_cell_below HB.out hx210_0
      replace hx210_1 := pw_cell_below HB.out hx210_1
      have HR210_0 := Aside0.mk hi210_0
      have HC210_0 := Aside0.mk hl210_0
      clear hi210_0 hl210_0
      replace p210 := eq_true p210
      replace q210 := eq_true q210
      obtain ⟨i040, hi040, _, hsz40, _⟩ := info_parts info2
      obtain ⟨hcut40, hA40, hC40⟩ := print_take_of (P := Try.prog) (Value.int .i64) 0 40 2 .i64 Try.underlying40 hi040 hsz40 A210_0 c210_0 ((rd_T42 l1 x10_2).f0) a2 (of_decide_eq_true ca_) (of_decide_eq_true ca_) HC210_0.out
      have HTL40 := Aside0.mk (show (((rd_T42 l1 x10_2).f0).take (a2 : Int).toNat).length = (a2 : Int).toNat from by have h1_ : a2 ≤ (((rd_T42 l1 x10_2).f0).length : Int) := (of_decide_eq_true ca_); rw [List.length_take]; omega)
      have HR211 := Aside0.mk (Kd.C_of_reads (h1 := fun _ => rfl) (hA40 _ (Kd.reads_of_C HR210_0.out)))
      have HC211 := Aside0.mk hC40
      clear hA40 hC40 hi040 hsz40
      refine start_ (n := 16) (S := fun w' => w'.cell? (ad208.add ((x9_1).toNat * 2)) = some (.slice A208_0 ((rd_T42 l0 x9_1).f0).length c208_0) ∧ w'.cell? ⟨(ad208.add ((x9_1).toNat * 2)).block, (ad208.add ((x9_1).toNat * 2)).off + 1, none⟩ = some (.int .i64 ((rd_T42 l0 x9_1).f1)) ∧ w'.cell? (ad210.add ((x10_2).toNat * 2)) = some (.slice A210_0 ((rd_T42 l1 x10_2).f0).length c210_0) ∧ w'.cell? ⟨(ad210.add ((x10_2).toNat * 2)).block, (ad210.add ((x10_2).toNat * 2)).off + 1, none⟩ = some (.int .i64 ((rd_T42 l1 x10_2).f1))) (ds := []) (bl 16 0) (by kernel_rfl) rfl rfl ⟨(pw_cell_below HB.out hw208_0), (pw_cell_below HB.out hw208_1), (pw_cell_below HB.out hw210_0), (pw_cell_below HB.out hw210_1)⟩ (fun hHeld => ?_); refine with_tabW spec_l4Join.tab8 spec_l4Join.bits8 (fun HT_ HW_ => ?_)
      generalize wr.drew = w38 at HO_8 HB HR208_0 HR209 HR210_0 HR211 hx208_0 hx208_1 hx210_0 hx210_1 hHeld ⊢
      refine pv_ 0 26 (bl 16 1) ?_
      refine pv_ 1 27 (bl 16 3) ?_
      refine pv_ 2 28 (bl 16 7) ?_
      refine pv_ 3 29 (bl 16 15) ?_
      refine pv_ 5 31 (bl 16 47) ?_
      refine pv_ 7 33 (bl 16 175) ?_
      refine pv_ 8 34 (bl 16 431) ?_
      refine pv_ 9 35 (bl 16 943) ?_
      refine pv_ 10 36 (bl 16 1967) ?_
      refine pv_ 12 38 (bl 16 6063) ?_
      refine tv_ 4 30 (bl 16 6079) rfl hHeld (fun w' s_ => by obtain ⟨s0, s1, s2, s3⟩ := s_; go_simp; with_reducible rfl) ?_
      refine pv_ 6 32 (bl 16 6143) ?_
      refine tv_ 11 37 (bl 16 8191) rfl hHeld (fun w' s_ => by obtain ⟨s0, s1, s2, s3⟩ := s_; go_simp; with_reducible rfl) ?_
      refine pv_ 13 39 (bl 16 16383) ?_
      refine ov_ 14 40 (bl 16 32767) (fun K hK => ?_)
      refine goes_ Try.func99 (by kernel_rfl) rfl #[.slice A208_0 (((rd_T42 l0 x9_1).f0).take (a2 : Int).toNat).length c208_0, .slice A210_0 (((rd_T42 l1 x10_2).f0).take (a2 : Int).toNat).length c210_0] (by rfl) rfl rfl b9_2 ?_
      with_reducible refine (spec_CompareRows.calls k2 _ _ (((rd_T42 l0 x9_1).f0).take (a2 : Int).toNat) _ _ (((rd_T42 l1 x10_2).f0).take (a2 : Int).toNat) t212 _ ?side1 ?side2 ?side3 ?side4 A15.out).mono ?_
      (case side1 => exact cC_ (Kd.C_below HR209.out HB.out))
      (case side2 => exact HC209.out)
      (case side3 => exact cC_ (Kd.C_below HR211.out HB.out))
      (case side4 => exact HC211.out)
      rintro e w' ⟨rfl, ⟨nd, rfl⟩⟩
      refine ⟨_, rfl, ?_⟩
      refine hK.out _ _ ⟨(pw_cell_below HB.out hw208_0), (pw_cell_below HB.out hw208_1), (pw_cell_below HB.out hw210_0), (pw_cell_below HB.out hw210_1)⟩ (fun hHeld => ?_)
      clear hK K
      refine nm_ (some 40) ?_
      refine pv_ 15 41 (bl 16 65535) ?_
      refine done_ (done_of HT_.out (by kernel_rfl)) ?_
      try go_wp2
      go_roundg k2
      case measure => have := HK1.out; have := HK2.out; omega
      case rel => exact ⟨(x8_2), (wrap64 (x10_2 + 1)), cs_, H', ⟨by have := HK1.out; have := HK2.out; omega⟩, ⟨cN_ HO_8.out⟩, ⟨cB0_⟩⟩
     rw [if_pos c16] at H
     have c16b0 : (t212 == 0) = true := beq_iff_eq.mpr c16
     have c16b1 : (t212 != 0) = false := bne_eq_false_iff_eq.mpr c16
     clear c16
     obtain ⟨⟨t215, t216⟩, A17, H⟩ := bnd_ H
     try dsimp only at H
     by_cases c18 : t216 = true
     rotate_left
     ·replace c18 := Bool.eq_false_iff.mpr c18
      subst c18
      rw [if_neg (show ¬ (false = true) by decide)] at H
      simp only [Option.some.injEq, Prod.mk.injEq] at H
      obtain ⟨rfl, rfl⟩ := H
      try go_wp2
      replace HO_8 := Aside0.mk (Kd.N_drew HO_8.out)
      replace HB := Aside0.mk (below_drew1 HB.out)
      have p208 : 0 ≤ (x9_1 : Int) := cd_
      have q208 : x9_1 < (l0.length : Int) := cd_
      obtain ⟨ad208, A208_0, c208_0, e208, hx208_0, hx208_1, hl208_0, hi208_0⟩ := at_T42 HR0.out x9_1 p208 q208
      have hw208_1 := hx208_1
      have hw208_0 := hx208_0
      cases e208
      replace hx208_0 := pw_cell_below HB.out hx208_0
      replace hx208_1 := pw_cell_below HB.out hx208_1
      have HR208_0 := Aside0.mk hi208_0
      have HC208_0 := Aside0.mk hl208_0
      clear hi208_0 hl208_0
      replace p208 := eq_true p208
      replace q208 := eq_true q208
      obtain ⟨i035, hi035, _, hsz35, _⟩ := info_parts info2
      obtain ⟨hcut35, hA35, hC35⟩ := print_take_of (P := Try.prog) (Value.int .i64) 0 40 2 .i64 Try.underlying40 hi035 hsz35 A208_0 c208_0 ((rd_T42 l0 x9_1).f0) a2 (of_decide_eq_true ca_) (of_decide_eq_true ca_) HC208_0.out
      have HTL35 := Aside0.mk (show (((rd_T42 l0 x9_1).f0).take (a2 : Int).toNat).length = (a2 : Int).toNat from by have h1_ : a2 ≤ (((rd_T42 l0 x9_1).f0).length : Int) := (of_decide_eq_true ca_); rw [List.length_take]; omega)
      have HR209 := Aside0.mk (Kd.C_of_reads (h1 := fun _ => rfl) (hA35 _ (Kd.reads_of_C HR208_0.out)))
      have HC209 := Aside0.mk hC35
      clear hA35 hC35 hi035 hsz35
      have p210 : 0 ≤ (x10_2 : Int) := cd_
      have q210 : x10_2 < (l1.length : Int) := cd_
      obtain ⟨ad210, A210_0, c210_0, e210, hx210_0, hx210_1, hl210_0, hi210_0⟩ := at_T42 HR1.out x10_2 p210 q210
      have hw210_1 := hx210_1
      have hw210_0 := hx210_0
      cases e210
      replace hx210_0 := pw_cell_below HB.out hx210_0
      replace hx210_1 := pw_cell_below HB.out hx210_1
      have HR210_0 := Aside0.mk hi210_0
      have HC210_0 := Aside0.mk hl210_0
      clear hi210_0 hl210_0
      replace p210 := eq_true p210
      replace q210 := eq_true q210
      obtain ⟨i036, hi036, _, hsz36, _⟩ := info_parts info2
      obtain ⟨hcut36, hA36, hC36⟩ := print_take_of (P := Try.prog) (Value.int .i64) 0 40 2 .i64 Try.underlying40 hi036 hsz36 A210_0 c210_0 ((rd_T42 l1 x10_2).f0) a2 (of_decide_eq_true ca_) (of_decide_eq_true ca_) HC210_0.out
      have HTL36 := Aside0.mk (show (((rd_T42 l1 x10_2).f0).take (a2 : Int).toNat).length = (a2 : Int).toNat from by have h1_ : a2 ≤ (((rd_T42 l1 x10_2).f0).length : Int) := (of_decide_eq_true ca_); rw [List.length_take]; omega)
      have HR211 := Aside0.mk (Kd.C_of_reads (h1 := fun _ => rfl) (hA36 _ (Kd.reads_of_C HR210_0.out)))
      have HC211 := Aside0.mk hC36
      clear hA36 hC36 hi036 hsz36
      refine start_ (n := 16) (S := fun w' => w'.cell? (ad208.add ((x9_1).toNat * 2)) = some (.slice A208_0 ((rd_T42 l0 x9_1).f0).length c208_0) ∧ w'.cell? ⟨(ad208.add ((x9_1).toNat * 2)).block, (ad208.add ((x9_1).toNat * 2)).off + 1, none⟩ = some (.int .i64 ((rd_T42 l0 x9_1).f1)) ∧ w'.cell? (ad210.add ((x10_2).toNat * 2)) = some (.slice A210_0 ((rd_T42 l1 x10_2).f0).length c210_0) ∧ w'.cell? ⟨(ad210.add ((x10_2).toNat * 2)).block, (ad210.add ((x10_2).toNat * 2)).off + 1, none⟩ = some (.int .i64 ((rd_T42 l1 x10_2).f1))) (ds := []) (bl 16 0) (by kernel_rfl) rfl rfl ⟨(pw_cell_below HB.out hw208_0), (pw_cell_below HB.out hw208_1), (pw_cell_below HB.out hw210_0), (pw_cell_below HB.out hw210_1)⟩ (fun hHeld => ?_); refine with_tabW spec_l4Join.tab8 spec_l4Join.bits8 (fun HT_ HW_ => ?_)
      generalize wr.drew = w34 at HO_8 HB HR208_0 HR209 HR210_0 HR211 hx208_0 hx208_1 hx210_0 hx210_1 hHeld ⊢
      refine pv_ 0 26 (bl 16 1) ?_
      refine pv_ 1 27 (bl 16 3) ?_
      refine pv_ 2 28 (bl 16 7) ?_
      refine pv_ 3 29 (bl 16 15) ?_
      refine pv_ 5 31 (bl 16 47) ?_
      refine pv_ 7 33 (bl 16 175) ?_
      refine pv_ 8 34 (bl 16 431) ?_
      refine pv_ 9 35 (bl 16 943) ?_
      refine pv_ 10 36 (bl 16 1967) ?_
      refine pv_ 12 38 (bl 16 6063) ?_
      refine tv_ 4 30 (bl 16 6079) rfl hHeld (fun w' s_ => by obtain ⟨s0, s1, s2, s3⟩ := s_; go_simp; with_reducible rfl) ?_
      refine pv_ 6 32 (bl 16 6143) ?_
      refine tv_ 11 37 (bl 16 8191) rfl hHeld (fun w' s_ => by obtain ⟨s0, s1, s2, s3⟩ := s_; go_simp; with_reducible rfl) ?_
      refine pv_ 13 39 (bl 16 16383) ?_
      refine ov_ 14 40 (bl 16 32767) (fun K hK => ?_)
      refine goes_ Try.func99 (by kernel_rfl) rfl #[.slice A208_0 (((rd_T42 l0 x9_1).f0).take (a2 : Int).toNat).length c208_0, .slice A210_0 (((rd_T42 l1 x10_2).f0).take (a2 : Int).toNat).length c210_0] (by rfl) rfl rfl b9_2 ?_
      with_reducible refine (spec_CompareRows.calls k2 _ _ (((rd_T42 l0 x9_1).f0).take (a2 : Int).toNat) _ _ (((rd_T42 l1 x10_2).f0).take (a2 : Int).toNat) t212 _ ?side1 ?side2 ?side3 ?side4 A15.out).mono ?_
      (case side1 => exact cC_ (Kd.C_below HR209.out HB.out))
      (case side2 => exact HC209.out)
      (case side3 => exact cC_ (Kd.C_below HR211.out HB.out))
      (case side4 => exact HC211.out)
      rintro e w' ⟨rfl, ⟨nd, rfl⟩⟩
      refine ⟨_, rfl, ?_⟩
      refine hK.out _ _ ⟨(pw_cell_below HB.out hw208_0), (pw_cell_below HB.out hw208_1), (pw_cell_below HB.out hw210_0), (pw_cell_below HB.out hw210_1)⟩ (fun hHeld => ?_)
      clear hK K
      refine nm_ (some 40) ?_
      refine pv_ 15 41 (bl 16 65535) ?_
      refine done_ (done_of HT_.out (by kernel_rfl)) ?_
      try go_wp2
      (try simp only [World.drewN_drewN]); (try (rw [drewN_self w34]; generalize hq_ : World.drewN w34 _ = w34; have n0_ : Aside0 (Kd.N k42 42 w34 w.heap.size (fun k_ => (w.heap.size ≤ k_)) u8 x8_2) := ⟨by rw [← hq_]; exact b9_3⟩; have n1_ : Aside0 (Below w.heap.size w w34) := ⟨by rw [← hq_]; exact cB0_⟩; clear HO_8 HB hq_; have HO_8 := n0_; have HB := n1_; clear n0_ n1_))
      replace HO_8 := Aside0.mk (Kd.N_drew HO_8.out)
      replace HB := Aside0.mk (below_drew1 HB.out)
      have p213 : 0 ≤ (x9_1 : Int) := cd_
      have q213 : x9_1 < (l0.length : Int) := cd_
      obtain ⟨ad213, A213_0, c213_0, e213, hx213_0, hx213_1, hl213_0, hi213_0⟩ := at_T42 HR0.out x9_1 p213 q213
      have hw213_1 := hx213_1
      have hw213_0 := hx213_0
      obtain rfl : ad208 = ad213 := (by injection e213)
      replace hx213_0 := pw_cell_below HB.out hx213_0
      replace hx213_1 := pw_cell_below HB.out hx213_1
      have HR213_0 := Aside0.mk hi213_0
      have HC213_0 := Aside0.mk hl213_0
      clear hi213_0 hl213_0
      replace p213 := eq_true p213
      replace q213 := eq_true q213
      have p214 : 0 ≤ (x10_2 : Int) := cd_
      have q214 : x10_2 < (l1.length : Int) := cd_
      obtain ⟨ad214, A214_0, c214_0, e214, hx214_0, hx214_1, hl214_0, hi214_0⟩ := at_T42 HR1.out x10_2 p214 q214
      have hw214_1 := hx214_1
      have hw214_0 := hx214_0
      obtain rfl : ad210 = ad214 := (by injection e214)
      replace hx214_0 := pw_cell_below HB.out hx214_0
      replace hx214_1 := pw_cell_below HB.out hx214_1
      have HR214_0 := Aside0.mk hi214_0
      have HC214_0 := Aside0.mk hl214_0
      clear hi214_0 hl214_0
      replace p214 := eq_true p214
      replace q214 := eq_true q214
      refine start_ (n := 16) (S := fun w' => w'.cell? (ad208.add ((x9_1).toNat * 2)) = some (.slice A213_0 ((rd_T42 l0 x9_1).f0).length c213_0) ∧ w'.cell? ⟨(ad208.add ((x9_1).toNat * 2)).block, (ad208.add ((x9_1).toNat * 2)).off + 1, none⟩ = some (.int .i64 ((rd_T42 l0 x9_1).f1)) ∧ w'.cell? (ad210.add ((x10_2).toNat * 2)) = some (.slice A214_0 ((rd_T42 l1 x10_2).f0).length c214_0) ∧ w'.cell? ⟨(ad210.add ((x10_2).toNat * 2)).block, (ad210.add ((x10_2).toNat * 2)).off + 1, none⟩ = some (.int .i64 ((rd_T42 l1 x10_2).f1))) (ds := []) (bl 16 0) (by kernel_rfl) rfl rfl ⟨(pw_cell_below HB.out hw213_0), (pw_cell_below HB.out hw213_1), (pw_cell_below HB.out hw214_0), (pw_cell_below HB.out hw214_1)⟩ (fun hHeld => ?_); refine with_tabW spec_l4Join.tab9 spec_l4Join.bits9 (fun HT_ HW_ => ?_)
      generalize w34.drew = w37 at HO_8 HB HR213_0 HR214_0 hx213_0 hx213_1 hx214_0 hx214_1 hHeld ⊢
      refine pv_ 0 43 (bl 16 1) ?_
      refine pv_ 1 44 (bl 16 3) ?_
      refine pv_ 2 45 (bl 16 7) ?_
      refine pv_ 3 46 (bl 16 15) ?_
      refine pv_ 5 48 (bl 16 47) ?_
      refine pv_ 6 49 (bl 16 111) ?_
      refine pv_ 7 50 (bl 16 239) ?_
      refine pv_ 8 51 (bl 16 495) ?_
      refine tv_ 4 47 (bl 16 511) rfl hHeld (fun w' s_ => by obtain ⟨s0, s1, s2, s3⟩ := s_; go_simp; with_reducible rfl) ?_
      refine tv_ 9 52 (bl 16 1023) rfl hHeld (fun w' s_ => by obtain ⟨s0, s1, s2, s3⟩ := s_; go_simp; with_reducible rfl) ?_
      refine ov_ 10 53 (bl 16 2047) (fun K hK => ?_)
      refine goes_ Try.func115 (by kernel_rfl) rfl #[.int .i64 ((rd_T42 l0 x9_1).f1), .int .i64 ((rd_T42 l1 x10_2).f1)] (by rfl) rfl rfl cx_ ?_
      with_reducible refine (spec_l1Mul.calls k2 ((rd_T42 l0 x9_1).f1) ((rd_T42 l1 x10_2).f1) t215 false _ A17.out).mono ?_
      rintro e w' ⟨rfl, ⟨nd, rfl⟩⟩
      refine ⟨_, rfl, ?_⟩
      refine hK.out _ _ ⟨(pw_cell_below HB.out hw213_0), (pw_cell_below HB.out hw213_1), (pw_cell_below HB.out hw214_0), (pw_cell_below HB.out hw214_1)⟩ (fun hHeld => ?_)
      clear hK K
      refine nm_ (some 53) ?_
      refine pv_ 11 42 (bl 16 4095) ?_
      refine pv_ 12 54 (bl 16 8191) ?_
      refine pv_ 13 55 (bl 16 16383) ?_
      refine pv_ 14 11 (bl 16 32767) ?_
      refine pv_ 15 12 (bl 16 65535) ?_
      refine done_ (done_of HT_.out (by kernel_rfl)) ?_
      try go_wp2
      go_ret2
      exact ⟨_, ce_, q9_0, cB0_⟩
     subst c18
     rw [if_pos rfl] at H
     obtain ⟨t218, A19, H⟩ := bnd_ H
     try dsimp only at H
     have c20b0 := eq_true (of_decide_eq_true ca_ : 0 ≤ a2)
     have c21b0 := eq_true (of_decide_eq_true ca_ : a2 ≤ (((rd_T42 l1 x10_2).f0).length : Int))
     by_cases c22 : t218.length + (((rd_T42 l1 x10_2).f0).drop (a2 : Int).toNat).length < 17592186044416
     rotate_left
     ·rw [if_neg c22] at H
      exact absurd H (by simp)
     rw [if_pos c22] at H
     have LMc22 := Aside0.mk c22
     clear c22
     obtain ⟨y223, hy_⟩ : ∃ y_ : List Int, y_ = (t218 ++ (((rd_T42 l1 x10_2).f0).drop (a2 : Int).toNat)) := ⟨_, rfl⟩
     replace H : (if x8_2.length < 4398046511104 then (spec_l4Join.l1 k2 l0 l1 a2 (x8_2 ++ [(⟨y223, t215⟩ : S42)]) x9_1 (wrap64 (x10_2 + 1))) else (none)) = some (r1, r2) := yb_
     have Ny223 := Aside0.mk hy_
     clear hy_
     by_cases c23 : x8_2.length < 4398046511104
     rotate_left
     ·rw [if_neg c23] at H
      exact absurd H (by simp)
     rw [if_pos c23] at H
     have LMc23 := Aside0.mk c23
     clear c23
     obtain ⟨y226, hy_⟩ : ∃ y_ : List (S42), y_ = (x8_2 ++ [(⟨y223, t215⟩ : S42)]) := ⟨_, rfl⟩
     replace H : (spec_l4Join.l1 k2 l0 l1 a2 y226 x9_1 (wrap64 (x10_2 + 1))) = some (r1, r2) := yb_
     have Ny226 := Aside0.mk hy_
     clear hy_
     have H' := Aside0.mk H
     clear H
     try go_wp2
     replace HO_8 := Aside0.mk (Kd.N_drew HO_8.out)
     replace HB := Aside0.mk (below_drew1 HB.out)
     have p208 : 0 ≤ (x9_1 : Int) := cd_
     have q208 : x9_1 < (l0.length : Int) := cd_
     obtain ⟨ad208, A208_0, c208_0, e208, hx208_0, hx208_1, hl208_0, hi208_0⟩ := at_T42 HR0.out x9_1 p208 q208
     have hw208_1 := hx208_1
     have hw208_0 := hx208_0
     cases e208
     replace hx208_0 := pw_cell_below HB.out hx208_0
     replace hx208_1 := pw_cell_below HB.out hx208_1
     have HR208_0 := Aside0.mk hi208_0
     have HC208_0 := Aside0.mk hl208_0
     clear hi208_0 hl208_0
     replace p208 := eq_true p208
     replace q208 := eq_true q208
     obtain ⟨i025, hi025, _, hsz25, _⟩ := info_parts info2
     obtain ⟨hcut25, hA25, hC25⟩ := print_take_of (P := Try.prog) (Value.int .i64) 0 40 2 .i64 Try.underlying40 hi025 hsz25 A208_0 c208_0 ((rd_T42 l0 x9_1).f0) a2 (of_decide_eq_true ca_) (of_decide_eq_true ca_) HC208_0.out
     have HTL25 := Aside0.mk (show (((rd_T42 l0 x9_1).f0).take (a2 : Int).toNat).length = (a2 : Int).toNat from by have h1_ : a2 ≤ (((rd_T42 l0 x9_1).f0).length : Int) := (of_decide_eq_true ca_); rw [List.length_take]; omega)
     have HR209 := Aside0.mk (Kd.C_of_reads (h1 := fun _ => rfl) (hA25 _ (Kd.reads_of_C HR208_0.out)))
     have HC209 := Aside0.mk hC25
     clear hA25 hC25 hi025 hsz25
     have p210 : 0 ≤ (x10_2 : Int) := cd_
     have q210 : x10_2 < (l1.length : Int) := cd_
     obtain ⟨ad210, A210_0, c210_0, e210, hx210_0, hx210_1, hl210_0, hi210_0⟩ := at_T42 HR1.out x10_2 p210 q210
     have hw210_1 := hx210_1
     have hw210_0 := hx210_0
     cases e210
     replace hx210_0 := pw_cell_below HB.out hx210_0
     replace hx210_1 := pw_cell_below HB.out hx210_1
     have HR210_0 := Aside0.mk hi210_0
     have HC210_0 := Aside0.mk hl210_0
     clear hi210_0 hl210_0
     replace p210 := eq_true p210
     replace q210 := eq_true q210
     obtain ⟨i026, hi026, _, hsz26, _⟩ := info_parts info2
     obtain ⟨hcut26, hA26, hC26⟩ := print_take_of (P := Try.prog) (Value.int .i64) 0 40 2 .i64 Try.underlying40 hi026 hsz26 A210_0 c210_0 ((rd_T42 l1 x10_2).f0) a2 (of_decide_eq_true ca_) (of_decide_eq_true ca_) HC210_0.out
     have HTL26 := Aside0.mk (show (((rd_T42 l1 x10_2).f0).take (a2 : Int).toNat).length = (a2 : Int).toNat from by have h1_ : a2 ≤ (((rd_T42 l1 x10_2).f0).length : Int) := (of_decide_eq_true ca_); rw [List.length_take]; omega)
     have HR211 := Aside0.mk (Kd.C_of_reads (h1 := fun _ => rfl) (hA26 _ (Kd.reads_of_C HR210_0.out)))
     have HC211 := Aside0.mk hC26
     clear hA26 hC26 hi026 hsz26
     refine start_ (n := 16) (S := fun w' => w'.cell? (ad208.add ((x9_1).toNat * 2)) = some (.slice A208_0 ((rd_T42 l0 x9_1).f0).length c208_0) ∧ w'.cell? ⟨(ad208.add ((x9_1).toNat * 2)).block, (ad208.add ((x9_1).toNat * 2)).off + 1, none⟩ = some (.int .i64 ((rd_T42 l0 x9_1).f1)) ∧ w'.cell? (ad210.add ((x10_2).toNat * 2)) = some (.slice A210_0 ((rd_T42 l1 x10_2).f0).length c210_0) ∧ w'.cell? ⟨(ad210.add ((x10_2).toNat * 2)).block, (ad210.add ((x10_2).toNat * 2)).off + 1, none⟩ = some (.int .i64 ((rd_T42 l1 x10_2).f1))) (ds := []) (bl 16 0) (by kernel_rfl) rfl rfl ⟨(pw_cell_below HB.out hw208_0), (pw_cell_below HB.out hw208_1), (pw_cell_below HB.out hw210_0), (pw_cell_below HB.out hw210_1)⟩ (fun hHeld => ?_); refine with_tabW spec_l4Join.tab8 spec_l4Join.bits8 (fun HT_ HW_ => ?_)
     generalize wr.drew = w24 at HO_8 HB HR208_0 HR209 HR210_0 HR211 hx208_0 hx208_1 hx210_0 hx210_1 hHeld ⊢
     refine pv_ 0 26 (bl 16 1) ?_
     refine pv_ 1 27 (bl 16 3) ?_
     refine pv_ 2 28 (bl 16 7) ?_
     refine pv_ 3 29 (bl 16 15) ?_
     refine pv_ 5 31 (bl 16 47) ?_
     refine pv_ 7 33 (bl 16 175) ?_
     refine pv_ 8 34 (bl 16 431) ?_
     refine pv_ 9 35 (bl 16 943) ?_
     refine pv_ 10 36 (bl 16 1967) ?_
     refine pv_ 12 38 (bl 16 6063) ?_
     refine tv_ 4 30 (bl 16 6079) rfl hHeld (fun w' s_ => by obtain ⟨s0, s1, s2, s3⟩ := s_; go_simp; with_reducible rfl) ?_
     refine pv_ 6 32 (bl 16 6143) ?_
     refine tv_ 11 37 (bl 16 8191) rfl hHeld (fun w' s_ => by obtain ⟨s0, s1, s2, s3⟩ := s_; go_simp; with_reducible rfl) ?_
     refine pv_ 13 39 (bl 16 16383) ?_
     refine ov_ 14 40 (bl 16 32767) (fun K hK => ?_)
     refine goes_ Try.func99 (by kernel_rfl) rfl #[.slice A208_0 (((rd_T42 l0 x9_1).f0).take (a2 : Int).toNat).length c208_0, .slice A210_0 (((rd_T42 l1 x10_2).f0).take (a2 : Int).toNat).length c210_0] (by rfl) rfl rfl b9_2 ?_
     with_reducible refine (spec_CompareRows.calls k2 _ _ (((rd_T42 l0 x9_1).f0).take (a2 : Int).toNat) _ _ (((rd_T42 l1 x10_2).f0).take (a2 : Int).toNat) t212 _ ?side1 ?side2 ?side3 ?side4 A15.out).mono ?_
     (case side1 => exact cC_ (Kd.C_below HR209.out HB.out))
     (case side2 => exact HC209.out)
     (case side3 => exact cC_ (Kd.C_below HR211.out HB.out))
     (case side4 => exact HC211.out)
     rintro e w' ⟨rfl, ⟨nd, rfl⟩⟩
     refine ⟨_, rfl, ?_⟩
     refine hK.out _ _ ⟨(pw_cell_below HB.out hw208_0), (pw_cell_below HB.out hw208_1), (pw_cell_below HB.out hw210_0), (pw_cell_below HB.out hw210_1)⟩ (fun hHeld => ?_)
     clear hK K
     refine nm_ (some 40) ?_
     refine pv_ 15 41 (bl 16 65535) ?_
     refine done_ (done_of HT_.out (by kernel_rfl)) ?_
     try go_wp2
     (try simp only [World.drewN_drewN]); (try (rw [drewN_self w24]; generalize hq_ : World.drewN w24 _ = w24; have n0_ : Aside0 (Kd.N k42 42 w24 w.heap.size (fun k_ => (w.heap.size ≤ k_)) u8 x8_2) := ⟨by rw [← hq_]; exact b9_3⟩; have n1_ : Aside0 (Below w.heap.size w w24) := ⟨by rw [← hq_]; exact cB0_⟩; clear HO_8 HB hq_; have HO_8 := n0_; have HB := n1_; clear n0_ n1_))
     replace HO_8 := Aside0.mk (Kd.N_drew HO_8.out)
     replace HB := Aside0.mk (below_drew1 HB.out)
     have p213 : 0 ≤ (x9_1 : Int) := cd_
     have q213 : x9_1 < (l0.length : Int) := cd_
     obtain ⟨ad213, A213_0, c213_0, e213, hx213_0, hx213_1, hl213_0, hi213_0⟩ := at_T42 HR0.out x9_1 p213 q213
     have hw213_1 := hx213_1
     have hw213_0 := hx213_0
     obtain rfl : ad208 = ad213 := (by injection e213)
     replace hx213_0 := pw_cell_below HB.out hx213_0
     replace hx213_1 := pw_cell_below HB.out hx213_1
     have HR213_0 := Aside0.mk hi213_0
     have HC213_0 := Aside0.mk hl213_0
     clear hi213_0 hl213_0
     replace p213 := eq_true p213
     replace q213 := eq_true q213
     have p214 : 0 ≤ (x10_2 : Int) := cd_
     have q214 : x10_2 < (l1.length : Int) := cd_
     obtain ⟨ad214, A214_0, c214_0, e214, hx214_0, hx214_1, hl214_0, hi214_0⟩ := at_T42 HR1.out x10_2 p214 q214
     have hw214_1 := hx214_1
     have hw214_0 := hx214_0
     obtain rfl : ad210 = ad214 := (by injection e214)
     replace hx214_0 := pw_cell_below HB.out hx214_0
     replace hx214_1 := pw_cell_below HB.out hx214_1
     have HR214_0 := Aside0.mk hi214_0
     have HC214_0 := Aside0.mk hl214_0
     clear hi214_0 hl214_0
     replace p214 := eq_true p214
     replace q214 := eq_true q214
     refine start_ (n := 16) (S := fun w' => w'.cell? (ad208.add ((x9_1).toNat * 2)) = some (.slice A213_0 ((rd_T42 l0 x9_1).f0).length c213_0) ∧ w'.cell? ⟨(ad208.add ((x9_1).toNat * 2)).block, (ad208.add ((x9_1).toNat * 2)).off + 1, none⟩ = some (.int .i64 ((rd_T42 l0 x9_1).f1)) ∧ w'.cell? (ad210.add ((x10_2).toNat * 2)) = some (.slice A214_0 ((rd_T42 l1 x10_2).f0).length c214_0) ∧ w'.cell? ⟨(ad210.add ((x10_2).toNat * 2)).block, (ad210.add ((x10_2).toNat * 2)).off + 1, none⟩ = some (.int .i64 ((rd_T42 l1 x10_2).f1))) (ds := []) (bl 16 0) (by kernel_rfl) rfl rfl ⟨(pw_cell_below HB.out hw213_0), (pw_cell_below HB.out hw213_1), (pw_cell_below HB.out hw214_0), (pw_cell_below HB.out hw214_1)⟩ (fun hHeld => ?_); refine with_tabW spec_l4Join.tab9 spec_l4Join.bits9 (fun HT_ HW_ => ?_)
     generalize w24.drew = w27 at HO_8 HB HR213_0 HR214_0 hx213_0 hx213_1 hx214_0 hx214_1 hHeld ⊢
     refine pv_ 0 43 (bl 16 1) ?_
     refine pv_ 1 44 (bl 16 3) ?_
     refine pv_ 2 45 (bl 16 7) ?_
     refine pv_ 3 46 (bl 16 15) ?_
     refine pv_ 5 48 (bl 16 47) ?_
     refine pv_ 6 49 (bl 16 111) ?_
     refine pv_ 7 50 (bl 16 239) ?_
     refine pv_ 8 51 (bl 16 495) ?_
     refine tv_ 4 47 (bl 16 511) rfl hHeld (fun w' s_ => by obtain ⟨s0, s1, s2, s3⟩ := s_; go_simp; with_reducible rfl) ?_
     refine tv_ 9 52 (bl 16 1023) rfl hHeld (fun w' s_ => by obtain ⟨s0, s1, s2, s3⟩ := s_; go_simp; with_reducible rfl) ?_
     refine ov_ 10 53 (bl 16 2047) (fun K hK => ?_)
     refine goes_ Try.func115 (by kernel_rfl) rfl #[.int .i64 ((rd_T42 l0 x9_1).f1), .int .i64 ((rd_T42 l1 x10_2).f1)] (by rfl) rfl rfl cx_ ?_
     with_reducible refine (spec_l1Mul.calls k2 ((rd_T42 l0 x9_1).f1) ((rd_T42 l1 x10_2).f1) t215 true _ A17.out).mono ?_
     rintro e w' ⟨rfl, ⟨nd, rfl⟩⟩
     refine ⟨_, rfl, ?_⟩
     refine hK.out _ _ ⟨(pw_cell_below HB.out hw213_0), (pw_cell_below HB.out hw213_1), (pw_cell_below HB.out hw214_0), (pw_cell_below HB.out hw214_1)⟩ (fun hHeld => ?_)
     clear hK K
     refine nm_ (some 53) ?_
     refine pv_ 11 42 (bl 16 4095) ?_
     refine pv_ 12 54 (bl 16 8191) ?_
     refine pv_ 13 55 (bl 16 16383) ?_
     refine pv_ 14 11 (bl 16 32767) ?_
     refine pv_ 15 12 (bl 16 65535) ?_
     refine done_ (done_of HT_.out (by kernel_rfl)) ?_
     try go_wp2
     (try simp only [World.drewN_drewN]); (try (rw [drewN_self w27]; generalize hq_ : World.drewN w27 _ = w27; have n0_ : Aside0 (Kd.N k42 42 w27 w.heap.size (fun k_ => (w.heap.size ≤ k_)) u8 x8_2) := ⟨by rw [← hq_]; exact b9_3⟩; have n1_ : Aside0 (Below w.heap.size w w27) := ⟨by rw [← hq_]; exact cB0_⟩; clear HO_8 HB hq_; have HO_8 := n0_; have HB := n1_; clear n0_ n1_))
     replace HO_8 := Aside0.mk (Kd.N_drew HO_8.out)
     replace HB := Aside0.mk (below_drew1 HB.out)
     have p217 : 0 ≤ (x9_1 : Int) := cd_
     have q217 : x9_1 < (l0.length : Int) := cd_
     obtain ⟨ad217, A217_0, c217_0, e217, hx217_0, hx217_1, hl217_0, hi217_0⟩ := at_T42 HR0.out x9_1 p217 q217
     have hw217_1 := hx217_1
     have hw217_0 := hx217_0
     obtain rfl : ad208 = ad217 := (by injection e217)
     replace hx217_0 := pw_cell_below HB.out hx217_0
     replace hx217_1 := pw_cell_below HB.out hx217_1
     have HR217_0 := Aside0.mk hi217_0
     have HC217_0 := Aside0.mk hl217_0
     clear hi217_0 hl217_0
     replace p217 := eq_true p217
     replace q217 := eq_true q217
     have p221 : 0 ≤ (x10_2 : Int) := cd_
     have q221 : x10_2 < (l1.length : Int) := cd_
     obtain ⟨ad221, A221_0, c221_0, e221, hx221_0, hx221_1, hl221_0, hi221_0⟩ := at_T42 HR1.out x10_2 p221 q221
     have hw221_1 := hx221_1
     have hw221_0 := hx221_0
     obtain rfl : ad210 = ad221 := (by injection e221)
     replace hx221_0 := pw_cell_below HB.out hx221_0
     replace hx221_1 := pw_cell_below HB.out hx221_1
     have HR221_0 := Aside0.mk hi221_0
     have HC221_0 := Aside0.mk hl221_0
     clear hi221_0 hl221_0
     replace p221 := eq_true p221
     replace q221 := eq_true q221
     obtain ⟨i029, hi029, _, hsz29, _⟩ := info_parts info2
     obtain ⟨A29, hcut29, hA29, hC29⟩ := print_drop_of (P := Try.prog) (Value.int .i64) 0 40 2 .i64 Try.underlying40 hi029 hsz29 A221_0 c221_0 ((rd_T42 l1 x10_2).f0) a2 (of_decide_eq_true ca_) (of_decide_eq_true ca_) HC221_0.out
     have HR222 := Aside0.mk (Kd.C_of_reads (h1 := fun _ => rfl) (hA29 _ (Kd.reads_of_C HR221_0.out)))
     have HC222 := Aside0.mk hC29
     clear hA29 hC29 hi029 hsz29
     refine start_ (n := 20) (S := fun w' => w'.cell? (ad208.add ((x9_1).toNat * 2)) = some (.slice A217_0 ((rd_T42 l0 x9_1).f0).length c217_0) ∧ w'.cell? ⟨(ad208.add ((x9_1).toNat * 2)).block, (ad208.add ((x9_1).toNat * 2)).off + 1, none⟩ = some (.int .i64 ((rd_T42 l0 x9_1).f1)) ∧ w'.cell? (ad210.add ((x10_2).toNat * 2)) = some (.slice A221_0 ((rd_T42 l1 x10_2).f0).length c221_0) ∧ w'.cell? ⟨(ad210.add ((x10_2).toNat * 2)).block, (ad210.add ((x10_2).toNat * 2)).off + 1, none⟩ = some (.int .i64 ((rd_T42 l1 x10_2).f1))) (ds := []) (bl 20 0) (by kernel_rfl) rfl rfl ⟨(pw_cell_below HB.out hw217_0), (pw_cell_below HB.out hw217_1), (pw_cell_below HB.out hw221_0), (pw_cell_below HB.out hw221_1)⟩ (fun hHeld => ?_); refine with_tabW spec_l4Join.tab12 spec_l4Join.bits12 (fun HT_ HW_ => ?_)
     generalize w27.drew = w28 at HO_8 HB HR217_0 HR221_0 HR222 hx217_0 hx217_1 hx221_0 hx221_1 hHeld ⊢
     refine pv_ 0 58 (bl 20 1) ?_
     refine pv_ 1 59 (bl 20 3) ?_
     refine pv_ 2 60 (bl 20 7) ?_
     refine pv_ 3 61 (bl 20 15) ?_
     refine pv_ 4 62 (bl 20 31) ?_
     refine pv_ 7 65 (bl 20 159) ?_
     refine pv_ 8 66 (bl 20 415) ?_
     refine pv_ 9 67 (bl 20 927) ?_
     refine pv_ 10 68 (bl 20 1951) ?_
     refine pv_ 12 70 (bl 20 6047) ?_
     refine pv_ 15 73 (bl 20 38815) ?_
     refine tv_ 5 63 (bl 20 38847) rfl hHeld (fun w' s_ => by obtain ⟨s0, s1, s2, s3⟩ := s_; go_simp; with_reducible rfl) ?_
     refine tv_ 11 69 (bl 20 40895) rfl hHeld (fun w' s_ => by obtain ⟨s0, s1, s2, s3⟩ := s_; go_simp; with_reducible rfl) ?_
     refine pv_ 13 71 (bl 20 49087) ?_
     refine ov_ 6 64 (bl 20 49151) (fun K hK => ?_)
     refine goes_ Try.func101 (by kernel_rfl) rfl #[.slice A217_0 ((rd_T42 l0 x9_1).f0).length c217_0] (by rfl) rfl rfl cx_ ?_
     with_reducible refine (spec_l2Row.calls _ _ ((rd_T42 l0 x9_1).f0) t218 _ ?side1 ?side2 A19.out).mono ?_
     (case side1 => exact cC_ (Kd.C_below HR217_0.out HB.out))
     (case side2 => exact HC217_0.out)
     rintro e w30 ⟨v219, rfl, ho0, hb⟩
     refine ⟨_, rfl, ?_⟩
     replace HO_8 := Aside0.mk (Kd.N_elder' b9_3 (Kd.R_base ho0) hb)
     have HO220 := Aside0.mk (Kd.R_lower (Kd.R_newM (M := fun k_ => (w.heap.size ≤ k_)) ho0 (below_size cB0_) (fun k_ h_ => h_)) (below_size cB0_))
     replace HB := Aside0.mk (below_step cB0_ hb)
     (try clear hb)
     (try clear hb2)
     (try clear hk)
     (try clear hi)
     (try clear ho0)
     refine hK.out _ _ ⟨(pw_cell_below HB.out hw217_0), (pw_cell_below HB.out hw217_1), (pw_cell_below HB.out hw221_0), (pw_cell_below HB.out hw221_1)⟩ (fun hHeld => ?_)
     clear hK K
     refine nm_ (some 64) ?_
     refine ov_ 14 72 (bl 20 65535) (fun K hK => ?_)
     refine Kd.R_append_rows_step (Kd.int .i64) (w0 := w) w.heap.size (by rfl) (.tmp 64) (.tmp 71) 40 2 (.int .i64 0) 8 rfl Try.underlying40 info2 rfl (by decide) (by omega) v219 t218 (((rd_T42 l1 x10_2).f0).drop (a2 : Int).toNat) _ _ _ (fun k_ => (w.heap.size ≤ k_)) (fun _ => False) rfl rfl ?aO ?aR (fun _ _ h => h) (fun _ h => h.elim) ?aF ?aB ?aS ?aL ?_
     (case aR => first | (rw [← show (((rd_T42 l1 x10_2).f0).drop (a2 : Int).toNat).length = (((rd_T42 l1 x10_2).f0).length - a2.toNat) from List.length_drop]; repeat (first | exact (Kd.C_below HR222.out HB.out) | (with_reducible refine Kd.C_alloc ?_ _) | (with_reducible refine Kd.C_drewN ?_ _) | (with_reducible refine Kd.C_drew ?_))) | (repeat (first | exact (Kd.C_below HR222.out HB.out) | (with_reducible refine Kd.C_alloc ?_ _) | (with_reducible refine Kd.C_drewN ?_ _) | (with_reducible refine Kd.C_drew ?_))))
     (case aB => exact cB0_)
     (case aF => exact (by exact (fun k_ hk => (Nat.le_trans (below_size cB0_) hk))))
     (case aO => exact (by exact (by refine cR_ ?_; exact Kd.R_mono HO220.out (fun _ hk => hk.1))))
     (case aS => exact (by exact (below_size cB0_)))
     (case aL => have := LMc22.out; have hlx_ := (show (((rd_T42 l1 x10_2).f0).drop (a2 : Int).toNat).length = (((rd_T42 l1 x10_2).f0).length - a2.toNat) from List.length_drop); omega)
     intro v224 w31 ho hb hg hat
     rw [← Ny223.out] at ho
     replace HO_8 := Aside0.mk (Kd.N_afterv (ok := (fun k_ => (w.heap.size ≤ k_))) b9_3 hg hat)
     replace HB := Aside0.mk (hb)
     have HO225 := Aside0.mk (ho)
     clear HO220
     clear ho hb hg hat
     obtain ⟨Ao32, co32, eo32⟩ := Kd.R_slice HO225.out
     (first | subst eo32 | (injection eo32 with f1_ f2_ f3_; have f4_ := f1_.symm; have f5_ := f3_.symm; clear f1_ f2_ f3_; subst f4_; subst f5_))
     refine hK.out _ _ ⟨(pw_cell_below HB.out hw217_0), (pw_cell_below HB.out hw217_1), (pw_cell_below HB.out hw221_0), (pw_cell_below HB.out hw221_1)⟩ (fun hHeld => ?_)
     clear hK K
     refine nm_ (some 72) ?_
     refine pv_ 16 74 (bl 20 131071) ?_
     refine ov_ 17 75 (bl 20 262143) (fun K hK => ?_)
     refine value_ (w1 := ?_) (v := ?_) (by rfl) rfl ?_ ?_
     rotate_left 2
     ·go_simp
      constructor
      ·rfl
      ·rfl
     refine hK.out _ _ ⟨(World.cell?_alloc_lt _ _ _ (World.block_lt_of_cell? _ _ ((pw_cell_below HB.out hw217_0)))).trans ((pw_cell_below HB.out hw217_0)), (World.cell?_alloc_lt _ _ _ (World.block_lt_of_cell? _ _ ((pw_cell_below HB.out hw217_1)))).trans ((pw_cell_below HB.out hw217_1)), (World.cell?_alloc_lt _ _ _ (World.block_lt_of_cell? _ _ ((pw_cell_below HB.out hw221_0)))).trans ((pw_cell_below HB.out hw221_0)), (World.cell?_alloc_lt _ _ _ (World.block_lt_of_cell? _ _ ((pw_cell_below HB.out hw221_1)))).trans ((pw_cell_below HB.out hw221_1))⟩ (fun hHeld => ?_)
     clear hK K
     refine nm_ (some 75) ?_
     refine ov_ 18 76 (bl 20 524287) (fun K hK => ?_)
     refine Kd.N_append_step k42 (w0 := w) w.heap.size (by rfl) (.tmp 58) (.tmp 75) 24 42 (.agg #[(.slice none 0 0), (.int .i64 0)]) 32 rfl Try.underlying24 info42 rfl (by decide) (by omega) u8 x8_2 (⟨y223, t215⟩ : S42) [.slice Ao32 y223.length co32, .int .i64 t215] (fun k_ => (w.heap.size ≤ k_)) (fun k_ => ((fun k_ => (w.heap.size ≤ k_))) k_ ∧ some k_ ≠ (u8 : Value).ownBlock) rfl rfl ?aP (fun _ hk => hk) ?aF ?aO ?aB ?aS ?aL ?_
     (case aP => exact (by exact (k42_mkF _ _ (⟨y223, t215⟩ : S42) (Kd.R_reads' (Kd.R_mono (ok' := (fun k_ => ((fun k_ => (w.heap.size ≤ k_))) k_ ∧ some k_ ≠ (u8 : Value).ownBlock)) (Kd.R_apart' (HO225.out) (Kd.N_typed HO_8.out) (by decide)) (fun k_ hk => ⟨hk.1, hk.2⟩))).2.1 (Kd.R_F (Kd.R_mono (ok' := (fun k_ => ((fun k_ => (w.heap.size ≤ k_))) k_ ∧ some k_ ≠ (u8 : Value).ownBlock)) (Kd.R_apart' (HO225.out) (Kd.N_typed HO_8.out) (by decide)) (fun k_ hk => ⟨hk.1, hk.2⟩))))))
     (case aB => exact cB0_)
     (case aF => exact (by exact (fun k_ hk => (Nat.le_trans (below_size cB0_) hk))))
     (case aO => exact (by exact (by refine cN_ ?_; exact Kd.N_mono HO_8.out (fun _ hk => hk.1))))
     (case aS => exact (by exact (below_size cB0_)))
     (case aL => exact co_ LMc23.out)
     intro v227 w33 ho hb hg hat
     rw [← Ny226.out] at ho
     replace HB := Aside0.mk (hb)
     have HO228 := Aside0.mk (ho)
     clear HO_8
     clear HO225
     clear ho hb hg hat
     refine hK.out _ _ ⟨(pw_cell_below HB.out hw217_0), (pw_cell_below HB.out hw217_1), (pw_cell_below HB.out hw221_0), (pw_cell_below HB.out hw221_1)⟩ (fun hHeld => ?_)
     clear hK K
     refine nm_ (some 76) ?_
     refine pv_ 19 8 (bl 20 1048575) ?_
     refine done_ (done_of HT_.out (by kernel_rfl)) ?_
     try go_wp2
     go_roundg k2
     case measure => have := HK1.out; have := HK2.out; omega
     case rel => exact ⟨(y226), (wrap64 (x10_2 + 1)), cs_, H', ⟨by have := HK1.out; have := HK2.out; omega⟩, ⟨cN_ HO228.out⟩, ⟨cB0_⟩⟩

end Go.Proofs.Ythgmicingbjemaa.PFnJoins
