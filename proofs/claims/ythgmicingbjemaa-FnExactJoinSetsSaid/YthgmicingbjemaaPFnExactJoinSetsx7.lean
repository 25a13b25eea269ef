-- Written by fprint, a program of this session, out of Lean's own print of the translation. Lean checks it.
import Derived.Test.YthgmicingbjemaaShort
import Derived.Test.YthgmicingbjemaaPFnExactJoinSetsx0
import Derived.Test.YthgmicingbjemaaPFnExactJoinSetsx3
import Derived.Test.YthgmicingbjemaaPFnExactJoinSetsx4
import Derived.Test.YthgmicingbjemaaPFnExactJoinSetsx6
namespace Go.Proofs.Ythgmicingbjemaa.PFnExactJoinSets
open Go.RowKit Go.Proofs.YthgmicingbjemaaW.PrintWords Go.Proofs.YthgmicingbjemaaW.PrintLast Go.Proofs.YthgmicingbjemaaW.PrintMore
attribute [local go_sem] max2_int min2_int max_two min_two max_three min_three max_four min_four   -- for this text's walks alone
set_option linter.unusedVariables false
set_option linter.unusedSimpArgs false

theorem b7_0 {p : Prop} (h : p := by first | (with_reducible assumption) | assumption) : p := h
theorem b7_1 {p : Prop} (h : p := by repeat (first | (with_reducible first | exact HB.out | apply below_alloc | apply pw_below_drewN | apply below_drew1) | exact HB.out)) : p := h
theorem b7_2 {p : Prop} (h : p := by (try simp only [List.map_toArray, List.map_cons, List.map_nil]); first | done | (rw [show (((rd_T42 l0 x9_1).f0).take (a2 : Int).toNat).length = a2.toNat from (by rw [List.length_take]; have h_ : (a2 : Int) ≤ (((rd_T42 l0 x9_1).f0).length : Int) := of_decide_eq_true b7_0; omega)] <;> rfl) | (rw [show (((rd_T42 l1 x10_2).f0).take (a2 : Int).toNat).length = a2.toNat from (by rw [List.length_take]; have h_ : (a2 : Int) ≤ (((rd_T42 l1 x10_2).f0).length : Int) := of_decide_eq_true b7_0; omega)] <;> rfl) | (rw [show (((rd_T42 l0 x9_1).f0).take (a2 : Int).toNat).length = a2.toNat from (by rw [List.length_take]; have h_ : (a2 : Int) ≤ (((rd_T42 l0 x9_1).f0).length : Int) := of_decide_eq_true b7_0; omega), show (((rd_T42 l1 x10_2).f0).take (a2 : Int).toNat).length = a2.toNat from (by rw [List.length_take]; have h_ : (a2 : Int) ≤ (((rd_T42 l1 x10_2).f0).length : Int) := of_decide_eq_true b7_0; omega)] <;> rfl) | rfl | (simp only [List.length_drop, List.length_take]; rfl)) : p := h
theorem b7_3 {p : Prop} (h : p := by (with_reducible repeat (first | apply Kd.N_alloc | apply Kd.N_drewN | apply Kd.N_drew)); exact HO_8.out) : p := h
theorem q7_0 {p : Prop} (h : p := by repeat (first | (with_reducible first | exact HB.out | apply below_alloc | apply pw_below_drewN | apply below_drew1) | exact HB.out)) : p := h
theorem q7_1 {p : Prop} (h : p := by (with_reducible repeat (first | apply Kd.N_alloc | apply Kd.N_drewN | apply Kd.N_drew)); exact HO_8.out) : p := h
theorem q7_2 {p : Prop} (h : p := by first | rfl | (simp [errW_none, errW_some] <;> rfl) | (simp [*, errW_none, errW_some] <;> rfl)) : p := h
theorem q7_3 {p : Prop} (h : p := by first | exact Kd.S_nil _ _ _ _ _ | exact Kd.N_nil _ _ _ _ _ | exact Kd.V_nil _ _ _ _ _ | exact Kd.Q_nil _ _ _ _ _ | exact Kd.R_nil _ _ _ _ _) : p := h
/-! ### spec_l4Join: function 84 -/
mutual
def spec_l4Join.l0 : Nat → List (S42) → List (S42) → Int → List (S42) → Int → Option ((List (S42)) × Int)
 | 0, _, _, _, _, _ => none
 | k + 1, x0, x1, x2, x8, x9 => if x9 < (x0.length : Int) then (spec_l4Join.l1 k x0 x1 x2 x8 x9 0) else (if (x8.length : Int) > 800 then (some (([] : List (S42)), 2)) else ((spec_l2Set.f k x8).bind fun bt170 => (some (bt170.1, bt170.2))))
def spec_l4Join.l1 : Nat → List (S42) → List (S42) → Int → List (S42) → Int → Int → Option ((List (S42)) × Int)
 | 0, _, _, _, _, _, _ => none
 | k + 1, x0, x1, x2, x8, x9, x10 => if x10 < (x1.length : Int) then (if 0 ≤ x9 then (if x9 < (x0.length : Int) then (if 0 ≤ x2 then (if x2 ≤ (((rd_T42 x0 x9).f0).length : Int) then (if 0 ≤ x10 then (if x2 ≤ (((rd_T42 x1 x10).f0).length : Int) then ((spec_CompareRows.f k (((rd_T42 x0 x9).f0).take (x2 : Int).toNat) (((rd_T42 x1 x10).f0).take (x2 : Int).toNat)).bind fun t178 => (if t178 = 0 then ((spec_l1Mul.f k ((rd_T42 x0 x9).f1) ((rd_T42 x1 x10).f1)).bind fun bt181 => (if bt181.2 = true then ((spec_l2Row.f ((rd_T42 x0 x9).f0)).bind fun t184 => (if t184.length + (((rd_T42 x1 x10).f0).drop (x2 : Int).toNat).length < 17592186044416 then (if x8.length < 4398046511104 then (spec_l4Join.l1 k x0 x1 x2 (x8 ++ [(⟨(t184 ++ (((rd_T42 x1 x10).f0).drop (x2 : Int).toNat)), bt181.1⟩ : S42)]) x9 (wrap64 (x10 + 1))) else (none)) else (none))) else (some (([] : List (S42)), 8)))) else (spec_l4Join.l1 k x0 x1 x2 x8 x9 (wrap64 (x10 + 1))))) else (none)) else (none)) else (none)) else (none)) else (none)) else (none)) else (spec_l4Join.l0 k x0 x1 x2 x8 (wrap64 (x9 + 1)))
end
def spec_l4Join.f (k : Nat) (l0 : List (S42)) (l1 : List (S42)) (a2 : Int) : Option ((List (S42)) × Int) := spec_l4Join.l0 k l0 l1 a2 (([] : List (S42))) 0
theorem spec_l4Join.mono_l : ∀ k, (∀ y0 y1 y2 y3 y4, LeO (spec_l4Join.l0 k y0 y1 y2 y3 y4) (spec_l4Join.l0 (k + 1) y0 y1 y2 y3 y4)) ∧ (∀ y0 y1 y2 y3 y4 y5, LeO (spec_l4Join.l1 k y0 y1 y2 y3 y4 y5) (spec_l4Join.l1 (k + 1) y0 y1 y2 y3 y4 y5))
 | 0 => ⟨fun _ _ _ _ _ r h => by simp [spec_l4Join.l0] at h, fun _ _ _ _ _ _ r h => by simp [spec_l4Join.l1] at h⟩
 | k + 1 => by
  obtain ⟨ih0, ih1⟩ := spec_l4Join.mono_l k
  refine ⟨?_, ?_⟩
  ·intro y0 y1 y2 y3 y4
   unfold spec_l4Join.l0
   repeat' first
   | (with_reducible exact ih0 _ _ _ _ _)
   | (with_reducible exact ih1 _ _ _ _ _ _)
   | (with_reducible exact spec_CompareRows.mono _ _ _)
   | (with_reducible exact spec_l1Mul.mono _ _ _)
   | (with_reducible exact spec_l2Set.mono _ _)
   | (with_reducible exact LeO.refl _)
   | (with_reducible exact LeO.none _)
   | (with_reducible refine LeO.ite ?_ ?_)
   | (with_reducible refine LeO.bind ?_ (fun _ => ?_))
   | exact ih0 _ _ _ _ _
   | exact ih1 _ _ _ _ _ _
   | exact spec_CompareRows.mono _ _ _
   | exact spec_l1Mul.mono _ _ _
   | exact spec_l2Set.mono _ _
   | exact LeO.none _
   | refine LeO.ite ?_ ?_
   | refine LeO.bind ?_ (fun _ => ?_)
  ·intro y0 y1 y2 y3 y4 y5
   unfold spec_l4Join.l1
   repeat' first
   | (with_reducible exact ih0 _ _ _ _ _)
   | (with_reducible exact ih1 _ _ _ _ _ _)
   | (with_reducible exact spec_CompareRows.mono _ _ _)
   | (with_reducible exact spec_l1Mul.mono _ _ _)
   | (with_reducible exact spec_l2Set.mono _ _)
   | (with_reducible exact LeO.refl _)
   | (with_reducible exact LeO.none _)
   | (with_reducible refine LeO.ite ?_ ?_)
   | (with_reducible refine LeO.bind ?_ (fun _ => ?_))
   | exact ih0 _ _ _ _ _
   | exact ih1 _ _ _ _ _ _
   | exact spec_CompareRows.mono _ _ _
   | exact spec_l1Mul.mono _ _ _
   | exact spec_l2Set.mono _ _
   | exact LeO.none _
   | refine LeO.ite ?_ ?_
   | refine LeO.bind ?_ (fun _ => ?_)
theorem spec_l4Join.mono : ∀ a0 a1 a2 k, LeO (spec_l4Join.f k a0 a1 a2) (spec_l4Join.f (k + 1) a0 a1 a2) := by
 intro a0 a1 a2 k
 obtain ⟨ih0, ih1⟩ := spec_l4Join.mono_l k
 unfold spec_l4Join.f
 repeat' first
   | (with_reducible exact ih0 _ _ _ _ _)
   | (with_reducible exact ih1 _ _ _ _ _ _)
   | (with_reducible exact spec_CompareRows.mono _ _ _)
   | (with_reducible exact spec_l1Mul.mono _ _ _)
   | (with_reducible exact spec_l2Set.mono _ _)
   | (with_reducible exact LeO.refl _)
   | (with_reducible exact LeO.none _)
   | (with_reducible refine LeO.ite ?_ ?_)
   | (with_reducible refine LeO.bind ?_ (fun _ => ?_))
   | exact ih0 _ _ _ _ _
   | exact ih1 _ _ _ _ _ _
   | exact spec_CompareRows.mono _ _ _
   | exact spec_l1Mul.mono _ _ _
   | exact spec_l2Set.mono _ _
   | exact LeO.none _
   | refine LeO.ite ?_ ?_
   | refine LeO.bind ?_ (fun _ => ?_)
def spec_l4Join.T8 : Bool × List (List Nat × List Nat) := (true, [([], []), ([], []), ([0, 1], [0, 1]), ([2], [2]), ([3], [3]), ([], []), ([4, 5], [4, 5]), ([], []), ([], []), ([7, 8], [7, 8]), ([9], [9]), ([10], [10]), ([], []), ([11, 12], [11, 12]), ([6, 13], [6, 13]), ([14], [14])])
def spec_l4Join.B8 : List Nat := [0, 0, 3, 7, 15, 0, 63, 0, 0, 384, 896, 1920, 0, 8064, 16383, 32767]
theorem spec_l4Join.tab8 : rtab .any (opsOf Try.f84 8) = spec_l4Join.T8 := by kernel_rfl
theorem spec_l4Join.bits8 : waitsOk spec_l4Join.T8.2 spec_l4Join.B8 = true := by kernel_rfl
def spec_l4Join.T9 : Bool × List (List Nat × List Nat) := (true, [([], []), ([], []), ([0, 1], [0, 1]), ([2], [2]), ([3], [3]), ([], []), ([], []), ([5, 6], [5, 6]), ([7], [7]), ([8], [8]), ([4, 9], [4, 9]), ([10], [10]), ([11], [11]), ([11], [11]), ([12, 10, 0, 1, 2, 3, 4, 5, 6, 7, 8, 9, 10, 11, 12], [12]), ([13, 14, 0, 1, 2, 3, 4, 5, 6, 7, 8, 9, 10, 11, 12, 13, 14], [13])])
def spec_l4Join.B9 : List Nat := [0, 0, 3, 7, 15, 0, 0, 96, 224, 480, 1023, 2047, 4095, 4095, 8191, 32767]
theorem spec_l4Join.tab9 : rtab .any (opsOf Try.f84 9) = spec_l4Join.T9 := by kernel_rfl
theorem spec_l4Join.bits9 : waitsOk spec_l4Join.T9.2 spec_l4Join.B9 = true := by kernel_rfl
def spec_l4Join.T12 : Bool × List (List Nat × List Nat) := (true, [([], []), ([], []), ([], []), ([1, 2], [1, 2]), ([3], [3]), ([4], [4]), ([5], [5]), ([], []), ([], []), ([7, 8], [7, 8]), ([9], [9]), ([10], [10]), ([], []), ([11, 12], [11, 12]), ([6, 13, 6], [6, 13]), ([], []), ([14, 15], [14, 15]), ([16], [16]), ([0, 17, 14], [0, 17]), ([18, 18, 0, 1, 2, 3, 4, 5, 6, 7, 8, 9, 10, 11, 12, 13, 14, 15, 16, 17, 18], [0, 18])])
def spec_l4Join.B12 : List Nat := [0, 0, 0, 6, 14, 30, 62, 0, 0, 384, 896, 1920, 0, 8064, 16382, 0, 65534, 131070, 262143, 524287]
theorem spec_l4Join.tab12 : rtab .any (opsOf Try.f84 12) = spec_l4Join.T12 := by kernel_rfl
theorem spec_l4Join.bits12 : waitsOk spec_l4Join.T12.2 spec_l4Join.B12 = true := by kernel_rfl
set_option maxHeartbeats 8000000 in
set_option maxRecDepth 100000 in
theorem spec_l4Join.calls (k : Nat) (A0 : Option Addr) (c0 : Nat) (l0 : List (S42)) (A1 : Option Addr) (c1 : Nat) (l1 : List (S42)) (a2 : Int) (r1 : List (S42)) (r2 : Int) (w : World) (hr0 : Kd.C k42 w A0 l0.length l0) (hc0 : l0.length ≤ c0) (hr1 : Kd.C k42 w A1 l1.length l1) (hc1 : l1.length ≤ c1) (h : spec_l4Join.f k l0 l1 a2 = some (r1, r2)) :
  Calls Try.prog 84 #[.slice A0 l0.length c0, .slice A1 l1.length c1, .int .i64 a2] w fun e w' => ∃ v0_ : Value, e = .returned (.tuple #[v0_, .int .i64 r2]) ∧ Kd.N k42 42 w' w.heap.size (fun k_ => (w.heap.size ≤ k_)) v0_ r1 ∧ Below w.heap.size w w' := by
 have hu42 := Try.underlying42
 have HR0 := Aside0.mk hr0
 have HC0 := Aside0.mk hc0
 clear hr0 hc0
 have HR1 := Aside0.mk hr1
 have HC1 := Aside0.mk hc1
 clear hr1 hc1
 have HB := Aside0.mk (Below.refl w.heap.size w)
 have H : (spec_l4Join.l0 k l0 l1 a2 (([] : List (S42))) 0) = some (r1, r2) := h
 clear h
 obtain ⟨y167, hy167⟩ : ∃ y_ : List (S42), y_ = (([] : List (S42))) := ⟨_, rfl⟩
 replace H : (spec_l4Join.l0 k l0 l1 a2 y167 0) = some (r1, r2) := by first | (rw [hy167]; with_reducible exact H) | (have H2_ := (Option.bind_some _ _).symm.trans H; rw [hy167]; with_reducible exact H2_) | (have H2_ := (Option.bind_some _ _).symm.trans H; with_reducible exact H2_) | with_reducible exact H | (rw [hy167]; exact H) | exact H
 have Ny167 := Aside0.mk hy167
 clear hy167
 have H' := Aside0.mk H
 clear H
 go_enter Try.func84, Try.ntmps84
 go_wp2_with (first | ((with_reducible refine gate_dst (N := 13) rfl ?_); refine Kd.N_lit k42 _ 42 ?hg (N' := 13) ?hd (xs := ([] : List (S42))) (inner := []) (ok := (fun k_ => (w.heap.size ≤ k_))) (okp := (fun k_ => (w.heap.size ≤ k_))) ?hr ?hp (fun _ hk => hk) ((show ∀ k_, w.heap.size ≤ k_ → (fun k_ => (w.heap.size ≤ k_)) k_ from fun k_ hk => (Nat.le_trans (below_size b7_1) hk)) _ (Nat.le_refl _)) (Below.refl _ _) (Nat.le_refl _) (by simp) ?_; (case hd => rfl); (case hg => rfl); (case hr => first | (go_simp; done) | (go_simp; rfl)); (case hp => exact (Reps.none _ _)); intro v168 w4 ho5 hb hg_ hnew_; clear hg_ hnew_; (first | rw [← Ny167.out] at ho5 | (simp only [Int.reduceToNat] at ho5; rw [← Ny167.out] at ho5)); have n0_ := Aside0.mk (Kd.N_lower ho5 (below_size b7_1)); have n1_ := Aside0.mk (below_step b7_1 hb); clear HB; have HO169 := n0_; have HB := n1_; clear n0_ n1_; clear hb ho5))
 go_loopg [8, 9] k (fun kq v8 v9 w' => ∃ (x8_1 : List (S42)) (x9_1 : Int), v9 = .int .i64 x9_1 ∧ Aside0 (spec_l4Join.l0 kq l0 l1 a2 x8_1 x9_1 = some (r1, r2)) ∧ Aside0 (kq ≤ k) ∧ Aside0 (Kd.N k42 42 w' w.heap.size (fun k_ => (w.heap.size ≤ k_)) v8 x8_1) ∧ Aside0 (Below w.heap.size w w'))
 case atStart => exact ⟨(y167), (0), (by first | rfl | (simp; done) | (simp [*]; done)), H', ⟨Nat.le_refl _⟩, ⟨by (with_reducible repeat (first | apply Kd.N_alloc | apply Kd.N_drewN | apply Kd.N_drew)); exact HO169.out⟩, ⟨q7_0⟩⟩
 case round =>
  clear H'
  try clear c1
  try clear p2
  obtain ⟨x8_1, x9_1, rfl, HA, HK1, HO_8, HB⟩ := hrel
  cases gk with
  | zero => exact absurd HA.out (by simp [spec_l4Join.l0])
  | succ k1 =>
   have H := HA.out
   clear HA
   simp only [spec_l4Join.l0] at H
   by_cases c6 : x9_1 < (l0.length : Int)
   rotate_left
   ·rw [if_neg c6] at H
    have c6b0 : decide (x9_1 < (l0.length : Int)) = false := decide_eq_false c6
    clear c6
    by_cases c41 : (x8_1.length : Int) > 800
    ·rw [if_pos c41] at H
     have c41b0 : decide (800 < (x8_1.length : Int)) = true := decide_eq_true c41
     have c41b1 : decide (800 < x8_1.length) = true := decide_eq_true (by omega)
     clear c41
     simp only [Option.some.injEq, Prod.mk.injEq] at H
     obtain ⟨rfl, rfl⟩ := H
     obtain ⟨Ao42, co42, eo42⟩ := Kd.N_slice HO_8.out
     subst eo42
     go_wp2
     go_ret2
     exact ⟨_, q7_2, q7_3, q7_0⟩
    rw [if_neg c41] at H
    have c41b0 : decide (800 < (x8_1.length : Int)) = false := decide_eq_false c41
    have c41b1 : decide (800 < x8_1.length) = false := decide_eq_false (by omega)
    clear c41
    replace H := Option.bind_eq_some_iff.mp H
    obtain ⟨⟨t170, t173⟩, A430, H⟩ := H
    replace H : (some (t170, t173)) = some (r1, r2) := H
    have A43 := Aside0.mk A430
    clear A430
    simp only [Option.some.injEq, Prod.mk.injEq] at H
    obtain ⟨rfl, rfl⟩ := H
    obtain ⟨Ao44, co44, eo44⟩ := Kd.N_slice HO_8.out
    subst eo44
    go_wp2_with (first | ((with_reducible refine gate_callee (f := 46) rfl ?_); refine goesL_ (some 81) rfl rfl Try.func46 (by kernel_rfl) rfl #[.slice Ao44 x8_1.length co44] rfl (by (try simp only [List.map_toArray, List.map_cons, List.map_nil]); first | done | rfl | (simp only [List.length_drop, List.length_take]; rfl)) ?_; (with_reducible refine (spec_l2Set.calls k1 _ _ x8_1 t170 t173 _ ?side1 ?side2 A43.out).mono ?_); (case side1 => exact (by repeat (first | exact (Kd.N_reads' HO_8.out).2.2 | (with_reducible refine Kd.C_alloc ?_ _) | (with_reducible refine Kd.C_drewN ?_ _) | (with_reducible refine Kd.C_drew ?_)))); (case side2 => exact (Kd.N_reads' HO_8.out).2.1); rintro e w45 ⟨v171, rfl, ho0, hb⟩; refine ⟨_, rfl, ?_⟩; have n0_ := Aside0.mk (Kd.N_elder' b7_3 (Kd.N_base ho0) hb); have n1_ := Aside0.mk (Kd.N_lower (Kd.N_mono (ok' := fun k_ => (w.heap.size ≤ k_) ∧ some k_ ≠ (.slice Ao44 x8_1.length co44 : Value).ownBlock) ho0 (fun k_ hk_ => ⟨(Nat.le_trans (below_size b7_1) hk_), (Kd.fresh' (Kd.N_lt b7_3) k_ hk_)⟩)) (below_size b7_1)); have n2_ := Aside0.mk (below_step b7_1 hb); clear HO_8; clear HB; have HO_8 := n0_; have HO172 := n1_; have HB := n2_; clear n0_ n1_ n2_; (try clear hb); (try clear hb2); (try clear hk); (try clear hi); (try clear ho0)))
    go_ret2
    exact ⟨_, q7_2, by (with_reducible repeat (first | apply Kd.N_alloc | apply Kd.N_drewN | apply Kd.N_drew)); exact Kd.N_mono HO172.out (fun _ hk => hk.1), q7_0⟩
   rw [if_pos c6] at H
   have c6b0 : decide (x9_1 < (l0.length : Int)) = true := decide_eq_true c6
   clear c6
   have H' := Aside0.mk H
   clear H
   go_wp2
   go_loopg [8, 10] k1 (fun kq v8 v10 w' => ∃ (x8_2 : List (S42)) (x10_2 : Int), v10 = .int .i64 x10_2 ∧ Aside0 (spec_l4Join.l1 kq l0 l1 a2 x8_2 x9_1 x10_2 = some (r1, r2)) ∧ Aside0 (kq ≤ k1) ∧ Aside0 (Kd.N k42 42 w' w.heap.size (fun k_ => (w.heap.size ≤ k_)) v8 x8_2) ∧ Aside0 (Below w.heap.size w w'))
   case atStart => exact ⟨(x8_1), (0), (by first | rfl | (simp; done) | (simp [*]; done)), H', ⟨Nat.le_refl _⟩, ⟨q7_1⟩, ⟨q7_0⟩⟩
   case round =>
    clear H'
    try clear c1
    try clear p2
    try clear c6
    try clear c6b0
    try clear p2
    obtain ⟨x8_2, x10_2, rfl, HA, HK2, HO_8, HB⟩ := hrel
    cases gk with
    | zero => exact absurd HA.out (by simp [spec_l4Join.l1])
    | succ k2 =>
     have H := HA.out
     clear HA
     simp only [spec_l4Join.l1] at H
     by_cases c7 : x10_2 < (l1.length : Int)
     rotate_left
     ·rw [if_neg c7] at H
      have c7b0 : decide (x10_2 < (l1.length : Int)) = false := decide_eq_false c7
      clear c7
      have H' := Aside0.mk H
      clear H
      go_wp2
      go_roundg k2
      case measure => have := HK1.out; have := HK2.out; omega
      case rel => exact ⟨(x8_2), (wrap64 (x9_1 + 1)), (by first | rfl | (simp; done) | (simp [*]; done)), H', ⟨by have := HK1.out; have := HK2.out; omega⟩, ⟨q7_1⟩, ⟨q7_0⟩⟩
     rw [if_pos c7] at H
     have c7b0 : decide (x10_2 < (l1.length : Int)) = true := decide_eq_true c7
     clear c7
     by_cases c8 : 0 ≤ x9_1
     rotate_left
     ·rw [if_neg c8] at H
      exact absurd H (by simp)
     rw [if_pos c8] at H
     have c8b0 : decide (0 ≤ x9_1) = true := decide_eq_true c8
     clear c8
     by_cases c9 : x9_1 < (l0.length : Int)
     rotate_left
     ·rw [if_neg c9] at H
      exact absurd H (by simp)
     rw [if_pos c9] at H
     have c9b0 : decide (x9_1 < (l0.length : Int)) = true := decide_eq_true c9
     clear c9
     by_cases c10 : 0 ≤ a2
     rotate_left
     ·rw [if_neg c10] at H
      exact absurd H (by simp)
     rw [if_pos c10] at H
     have c10b0 := eq_true c10
     have c10b1 : decide (0 ≤ a2) = true := decide_eq_true c10
     clear c10
     by_cases c11 : a2 ≤ (((rd_T42 l0 x9_1).f0).length : Int)
     rotate_left
     ·rw [if_neg c11] at H
      exact absurd H (by simp)
     rw [if_pos c11] at H
     have c11b0 := eq_true c11
     have c11b1 : decide (a2 ≤ (((rd_T42 l0 x9_1).f0).length : Int)) = true := decide_eq_true c11
     clear c11
     by_cases c12 : 0 ≤ x10_2
     rotate_left
     ·rw [if_neg c12] at H
      exact absurd H (by simp)
     rw [if_pos c12] at H
     have c12b0 : decide (0 ≤ x10_2) = true := decide_eq_true c12
     clear c12
     have c13b0 := eq_true (of_decide_eq_true b7_0 : 0 ≤ a2)
     by_cases c14 : a2 ≤ (((rd_T42 l1 x10_2).f0).length : Int)
     rotate_left
     ·rw [if_neg c14] at H
      exact absurd H (by simp)
     rw [if_pos c14] at H
     have c14b0 := eq_true c14
     have c14b1 : decide (a2 ≤ (((rd_T42 l1 x10_2).f0).length : Int)) = true := decide_eq_true c14
     clear c14
     replace H := Option.bind_eq_some_iff.mp H
     obtain ⟨t178, A150, H⟩ := H
     replace H : (if t178 = 0 then ((spec_l1Mul.f k2 ((rd_T42 l0 x9_1).f1) ((rd_T42 l1 x10_2).f1)).bind fun bt181 => (if bt181.2 = true then ((spec_l2Row.f ((rd_T42 l0 x9_1).f0)).bind fun t184 => (if t184.length + (((rd_T42 l1 x10_2).f0).drop (a2 : Int).toNat).length < 17592186044416 then (if x8_2.length < 4398046511104 then (spec_l4Join.l1 k2 l0 l1 a2 (x8_2 ++ [(⟨(t184 ++ (((rd_T42 l1 x10_2).f0).drop (a2 : Int).toNat)), bt181.1⟩ : S42)]) x9_1 (wrap64 (x10_2 + 1))) else (none)) else (none))) else (some (([] : List (S42)), 8)))) else (spec_l4Join.l1 k2 l0 l1 a2 x8_2 x9_1 (wrap64 (x10_2 + 1)))) = some (r1, r2) := H
     have A15 := Aside0.mk A150
     clear A150
     by_cases c16 : t178 = 0
     rotate_left
     ·rw [if_neg c16] at H
      have c16b0 : (t178 == 0) = false := beq_eq_false_iff_ne.mpr c16
      have c16b1 : (t178 != 0) = true := bne_iff_ne.mpr c16
      have H' := Aside0.mk H
      clear H
      try go_wp2
      have n0_ := Aside0.mk (Kd.N_drew HO_8.out)
      have n1_ := Aside0.mk (below_drew1 HB.out)
      clear HO_8
      clear HB
      have HO_8 := n0_
      have HB := n1_
      clear n0_ n1_
      have p174 : 0 ≤ (x9_1 : Int) := of_decide_eq_true b7_0
      have q174 : x9_1 < (l0.length : Int) := of_decide_eq_true b7_0
      obtain ⟨ad174, A174_0, c174_0, e174, hx174_0, hx174_1, hl174_0, hi174_0⟩ := at_T42 HR0.out x9_1 p174 q174
      have hw174_1 := hx174_1
      have hw174_0 := hx174_0
      cases e174
      replace hx174_0 := (HB.out.cell (World.block_lt_of_cell? w _ hx174_0)).trans hx174_0
      replace hx174_1 := (HB.out.cell (World.block_lt_of_cell? w _ hx174_1)).trans hx174_1
      have HR174_0 := Aside0.mk hi174_0
      have HC174_0 := Aside0.mk hl174_0
      clear hi174_0 hl174_0
      replace p174 := eq_true p174
      replace q174 := eq_true q174
      obtain ⟨i039, hi039, _, hsz39, _⟩ := info_parts info2
      obtain ⟨hcut39, hA39, hC39⟩ := print_take_of (P := Try.prog) (Value.int .i64) 0 40 2 .i64 Try.underlying40 hi039 hsz39 A174_0 c174_0 ((rd_T42 l0 x9_1).f0) a2 (of_decide_eq_true b7_0) (of_decide_eq_true b7_0) HC174_0.out
      have HTL39 := Aside0.mk (show (((rd_T42 l0 x9_1).f0).take (a2 : Int).toNat).length = (a2 : Int).toNat from by have h1_ : a2 ≤ (((rd_T42 l0 x9_1).f0).length : Int) := (of_decide_eq_true b7_0); rw [List.length_take]; omega)
      have HR175 := Aside0.mk (Kd.C_of_reads (h1 := fun _ => rfl) (hA39 _ (Kd.reads_of_C HR174_0.out)))
      have HC175 := Aside0.mk hC39
      clear hA39 hC39 hi039 hsz39
      have p176 : 0 ≤ (x10_2 : Int) := of_decide_eq_true b7_0
      have q176 : x10_2 < (l1.length : Int) := of_decide_eq_true b7_0
      obtain ⟨ad176, A176_0, c176_0, e176, hx176_0, hx176_1, hl176_0, hi176_0⟩ := at_T42 HR1.out x10_2 p176 q176
      have hw176_1 := hx176_1
      have hw176_0 := hx176_0
      cases e176
      replace hx176_0 := (HB.out.cell (World.block_lt_of_cell? w _ hx176_0)).trans hx176_0
      replace hx176_1 := (HB.out.cell (World.block_lt_of_cell? w _ hx176_1)).trans hx176_1
      have HR176_0 := Aside0.mk hi176_0
      have HC176_0 := Aside0.mk hl176_0
      clear hi176_0 hl176_0
      replace p176 := eq_true p176
      replace q176 := eq_true q176
      obtain ⟨i040, hi040, _, hsz40, _⟩ := info_parts info2
      obtain ⟨hcut40, hA40, hC40⟩ := print_take_of (P := Try.prog) (Value.int .i64) 0 40 2 .i64 Try.underlying40 hi040 hsz40 A176_0 c176_0 ((rd_T42 l1 x10_2).f0) a2 (of_decide_eq_true b7_0) (of_decide_eq_true b7_0) HC176_0.out
      have HTL40 := Aside0.mk (show (((rd_T42 l1 x10_2).f0).take (a2 : Int).toNat).length = (a2 : Int).toNat from by have h1_ : a2 ≤ (((rd_T42 l1 x10_2).f0).length : Int) := (of_decide_eq_true b7_0); rw [List.length_take]; omega)
      have HR177 := Aside0.mk (Kd.C_of_reads (h1 := fun _ => rfl) (hA40 _ (Kd.reads_of_C HR176_0.out)))
      have HC177 := Aside0.mk hC40
      clear hA40 hC40 hi040 hsz40
      refine start_ (n := 16) (S := fun w' => w'.cell? (ad174.add ((x9_1).toNat * 2)) = some (.slice A174_0 ((rd_T42 l0 x9_1).f0).length c174_0) ∧ w'.cell? ⟨(ad174.add ((x9_1).toNat * 2)).block, (ad174.add ((x9_1).toNat * 2)).off + 1, none⟩ = some (.int .i64 ((rd_T42 l0 x9_1).f1)) ∧ w'.cell? (ad176.add ((x10_2).toNat * 2)) = some (.slice A176_0 ((rd_T42 l1 x10_2).f0).length c176_0) ∧ w'.cell? ⟨(ad176.add ((x10_2).toNat * 2)).block, (ad176.add ((x10_2).toNat * 2)).off + 1, none⟩ = some (.int .i64 ((rd_T42 l1 x10_2).f1))) (ds := []) (bl 16 0) (by kernel_rfl) rfl rfl ⟨((HB.out.cell (World.block_lt_of_cell? w _ hw174_0)).trans hw174_0), ((HB.out.cell (World.block_lt_of_cell? w _ hw174_1)).trans hw174_1), ((HB.out.cell (World.block_lt_of_cell? w _ hw176_0)).trans hw176_0), ((HB.out.cell (World.block_lt_of_cell? w _ hw176_1)).trans hw176_1)⟩ (fun hHeld => ?_); refine with_tabW spec_l4Join.tab8 spec_l4Join.bits8 (fun HT_ HW_ => ?_)
      generalize wr.drew = w38 at HO_8 HB HR174_0 HR175 HR176_0 HR177 hx174_0 hx174_1 hx176_0 hx176_1 hHeld ⊢
      refine pu_ 0 (some 26) (bl 16 1) HT_.out rfl ?_
      refine pu_ 1 (some 27) (bl 16 3) HT_.out rfl ?_
      refine pu_ 2 (some 28) (bl 16 7) HT_.out rfl ?_
      refine pu_ 3 (some 29) (bl 16 15) HT_.out rfl ?_
      refine pu_ 5 (some 31) (bl 16 47) HT_.out rfl ?_
      refine pu_ 7 (some 33) (bl 16 175) HT_.out rfl ?_
      refine pu_ 8 (some 34) (bl 16 431) HT_.out rfl ?_
      refine pu_ 9 (some 35) (bl 16 943) HT_.out rfl ?_
      refine pu_ 10 (some 36) (bl 16 1967) HT_.out rfl ?_
      refine pu_ 12 (some 38) (bl 16 6063) HT_.out rfl ?_
      refine tw_ 4 (some 30) (bl 16 6079) HT_.out HW_.out rfl hHeld (fun w' s_ => by obtain ⟨s0, s1, s2, s3⟩ := s_; go_simp; with_reducible rfl) ?_
      refine pu_ 6 (some 32) (bl 16 6143) HT_.out rfl ?_
      refine tw_ 11 (some 37) (bl 16 8191) HT_.out HW_.out rfl hHeld (fun w' s_ => by obtain ⟨s0, s1, s2, s3⟩ := s_; go_simp; with_reducible rfl) ?_
      refine pu_ 13 (some 39) (bl 16 16383) HT_.out rfl ?_
      refine on_ 14 (some 40) (bl 16 32767) HT_.out rfl (fun K hK => ?_)
      refine goes_ Try.func99 (by kernel_rfl) rfl #[.slice A174_0 (((rd_T42 l0 x9_1).f0).take (a2 : Int).toNat).length c174_0, .slice A176_0 (((rd_T42 l1 x10_2).f0).take (a2 : Int).toNat).length c176_0] (by rfl) rfl rfl b7_2 ?_
      with_reducible refine (spec_CompareRows.calls k2 _ _ (((rd_T42 l0 x9_1).f0).take (a2 : Int).toNat) _ _ (((rd_T42 l1 x10_2).f0).take (a2 : Int).toNat) t178 _ ?side1 ?side2 ?side3 ?side4 A15.out).mono ?_
      (case side1 => exact (by repeat (first | exact (Kd.C_below HR175.out HB.out) | (with_reducible refine Kd.C_alloc ?_ _) | (with_reducible refine Kd.C_drewN ?_ _) | (with_reducible refine Kd.C_drew ?_))))
      (case side2 => exact HC175.out)
      (case side3 => exact (by repeat (first | exact (Kd.C_below HR177.out HB.out) | (with_reducible refine Kd.C_alloc ?_ _) | (with_reducible refine Kd.C_drewN ?_ _) | (with_reducible refine Kd.C_drew ?_))))
      (case side4 => exact HC177.out)
      rintro e w' ⟨rfl, ⟨nd, rfl⟩⟩
      refine ⟨_, rfl, ?_⟩
      refine hK.out _ _ ⟨((HB.out.cell (World.block_lt_of_cell? w _ hw174_0)).trans hw174_0), ((HB.out.cell (World.block_lt_of_cell? w _ hw174_1)).trans hw174_1), ((HB.out.cell (World.block_lt_of_cell? w _ hw176_0)).trans hw176_0), ((HB.out.cell (World.block_lt_of_cell? w _ hw176_1)).trans hw176_1)⟩ (fun hHeld => ?_)
      clear hK K
      refine norm_ (a' := ?_) ?_ ?_
      rotate_left
      ·show Act.put _ (some 40) _ = _
       simp only [Act.put, List.setIfInBounds_toArray, List.set_cons_zero, List.set_cons_succ, i64_w, i32_w]
       rfl
      refine pu_ 15 (some 41) (bl 16 65535) HT_.out rfl ?_
      refine done_ (done_of HT_.out (by kernel_rfl)) ?_
      try go_wp2
      go_roundg k2
      case measure => have := HK1.out; have := HK2.out; omega
      case rel => exact ⟨(x8_2), (wrap64 (x10_2 + 1)), (by first | rfl | (simp; done) | (simp [*]; done)), H', ⟨by have := HK1.out; have := HK2.out; omega⟩, ⟨q7_1⟩, ⟨q7_0⟩⟩
     rw [if_pos c16] at H
     have c16b0 : (t178 == 0) = true := beq_iff_eq.mpr c16
     have c16b1 : (t178 != 0) = false := bne_eq_false_iff_eq.mpr c16
     clear c16
     replace H := Option.bind_eq_some_iff.mp H
     obtain ⟨⟨t181, t182⟩, A170, H⟩ := H
     replace H : (if t182 = true then ((spec_l2Row.f ((rd_T42 l0 x9_1).f0)).bind fun t184 => (if t184.length + (((rd_T42 l1 x10_2).f0).drop (a2 : Int).toNat).length < 17592186044416 then (if x8_2.length < 4398046511104 then (spec_l4Join.l1 k2 l0 l1 a2 (x8_2 ++ [(⟨(t184 ++ (((rd_T42 l1 x10_2).f0).drop (a2 : Int).toNat)), t181⟩ : S42)]) x9_1 (wrap64 (x10_2 + 1))) else (none)) else (none))) else (some (([] : List (S42)), 8))) = some (r1, r2) := H
     have A17 := Aside0.mk A170
     clear A170
     by_cases c18 : t182 = true
     rotate_left
     ·replace c18 := Bool.eq_false_iff.mpr c18
      subst c18
      have H1 : (some (([] : List (S42)), 8)) = some (r1, r2) := by rw [if_neg (show ¬ (false = true) by decide)] at H; exact H
      clear H
      have H := H1
      clear H1
      simp only [Option.some.injEq, Prod.mk.injEq] at H
      obtain ⟨rfl, rfl⟩ := H
      try go_wp2
      have n0_ := Aside0.mk (Kd.N_drew HO_8.out)
      have n1_ := Aside0.mk (below_drew1 HB.out)
      clear HO_8
      clear HB
      have HO_8 := n0_
      have HB := n1_
      clear n0_ n1_
      have p174 : 0 ≤ (x9_1 : Int) := of_decide_eq_true b7_0
      have q174 : x9_1 < (l0.length : Int) := of_decide_eq_true b7_0
      obtain ⟨ad174, A174_0, c174_0, e174, hx174_0, hx174_1, hl174_0, hi174_0⟩ := at_T42 HR0.out x9_1 p174 q174
      have hw174_1 := hx174_1
      have hw174_0 := hx174_0
      cases e174
      replace hx174_0 := (HB.out.cell (World.block_lt_of_cell? w _ hx174_0)).trans hx174_0
      replace hx174_1 := (HB.out.cell (World.block_lt_of_cell? w _ hx174_1)).trans hx174_1
      have HR174_0 := Aside0.mk hi174_0
      have HC174_0 := Aside0.mk hl174_0
      clear hi174_0 hl174_0
      replace p174 := eq_true p174
      replace q174 := eq_true q174
      obtain ⟨i035, hi035, _, hsz35, _⟩ := info_parts info2
      obtain ⟨hcut35, hA35, hC35⟩ := print_take_of (P := Try.prog) (Value.int .i64) 0 40 2 .i64 Try.underlying40 hi035 hsz35 A174_0 c174_0 ((rd_T42 l0 x9_1).f0) a2 (of_decide_eq_true b7_0) (of_decide_eq_true b7_0) HC174_0.out
      have HTL35 := Aside0.mk (show (((rd_T42 l0 x9_1).f0).take (a2 : Int).toNat).length = (a2 : Int).toNat from by have h1_ : a2 ≤ (((rd_T42 l0 x9_1).f0).length : Int) := (of_decide_eq_true b7_0); rw [List.length_take]; omega)
      have HR175 := Aside0.mk (Kd.C_of_reads (h1 := fun _ => rfl) (hA35 _ (Kd.reads_of_C HR174_0.out)))
      have HC175 := Aside0.mk hC35
      clear hA35 hC35 hi035 hsz35
      have p176 : 0 ≤ (x10_2 : Int) := of_decide_eq_true b7_0
      have q176 : x10_2 < (l1.length : Int) := of_decide_eq_true b7_0
      obtain ⟨ad176, A176_0, c176_0, e176, hx176_0, hx176_1, hl176_0, hi176_0⟩ := at_T42 HR1.out x10_2 p176 q176
      have hw176_1 := hx176_1
      have hw176_0 := hx176_0
      cases e176
      replace hx176_0 := (HB.out.cell (World.block_lt_of_cell? w _ hx176_0)).trans hx176_0
      replace hx176_1 := (HB.out.cell (World.block_lt_of_cell? w _ hx176_1)).trans hx176_1
      have HR176_0 := Aside0.mk hi176_0
      have HC176_0 := Aside0.mk hl176_0
      clear hi176_0 hl176_0
      replace p176 := eq_true p176
      replace q176 := eq_true q176
      obtain ⟨i036, hi036, _, hsz36, _⟩ := info_parts info2
      obtain ⟨hcut36, hA36, hC36⟩ := print_take_of (P := Try.prog) (Value.int .i64) 0 40 2 .i64 Try.underlying40 hi036 hsz36 A176_0 c176_0 ((rd_T42 l1 x10_2).f0) a2 (of_decide_eq_true b7_0) (of_decide_eq_true b7_0) HC176_0.out
      have HTL36 := Aside0.mk (show (((rd_T42 l1 x10_2).f0).take (a2 : Int).toNat).length = (a2 : Int).toNat from by have h1_ : a2 ≤ (((rd_T42 l1 x10_2).f0).length : Int) := (of_decide_eq_true b7_0); rw [List.length_take]; omega)
      have HR177 := Aside0.mk (Kd.C_of_reads (h1 := fun _ => rfl) (hA36 _ (Kd.reads_of_C HR176_0.out)))
      have HC177 := Aside0.mk hC36
      clear hA36 hC36 hi036 hsz36
      refine start_ (n := 16) (S := fun w' => w'.cell? (ad174.add ((x9_1).toNat * 2)) = some (.slice A174_0 ((rd_T42 l0 x9_1).f0).length c174_0) ∧ w'.cell? ⟨(ad174.add ((x9_1).toNat * 2)).block, (ad174.add ((x9_1).toNat * 2)).off + 1, none⟩ = some (.int .i64 ((rd_T42 l0 x9_1).f1)) ∧ w'.cell? (ad176.add ((x10_2).toNat * 2)) = some (.slice A176_0 ((rd_T42 l1 x10_2).f0).length c176_0) ∧ w'.cell? ⟨(ad176.add ((x10_2).toNat * 2)).block, (ad176.add ((x10_2).toNat * 2)).off + 1, none⟩ = some (.int .i64 ((rd_T42 l1 x10_2).f1))) (ds := []) (bl 16 0) (by kernel_rfl) rfl rfl ⟨((HB.out.cell (World.block_lt_of_cell? w _ hw174_0)).trans hw174_0), ((HB.out.cell (World.block_lt_of_cell? w _ hw174_1)).trans hw174_1), ((HB.out.cell (World.block_lt_of_cell? w _ hw176_0)).trans hw176_0), ((HB.out.cell (World.block_lt_of_cell? w _ hw176_1)).trans hw176_1)⟩ (fun hHeld => ?_); refine with_tabW spec_l4Join.tab8 spec_l4Join.bits8 (fun HT_ HW_ => ?_)
      generalize wr.drew = w34 at HO_8 HB HR174_0 HR175 HR176_0 HR177 hx174_0 hx174_1 hx176_0 hx176_1 hHeld ⊢
      refine pu_ 0 (some 26) (bl 16 1) HT_.out rfl ?_
      refine pu_ 1 (some 27) (bl 16 3) HT_.out rfl ?_
      refine pu_ 2 (some 28) (bl 16 7) HT_.out rfl ?_
      refine pu_ 3 (some 29) (bl 16 15) HT_.out rfl ?_
      refine pu_ 5 (some 31) (bl 16 47) HT_.out rfl ?_
      refine pu_ 7 (some 33) (bl 16 175) HT_.out rfl ?_
      refine pu_ 8 (some 34) (bl 16 431) HT_.out rfl ?_
      refine pu_ 9 (some 35) (bl 16 943) HT_.out rfl ?_
      refine pu_ 10 (some 36) (bl 16 1967) HT_.out rfl ?_
      refine pu_ 12 (some 38) (bl 16 6063) HT_.out rfl ?_
      refine tw_ 4 (some 30) (bl 16 6079) HT_.out HW_.out rfl hHeld (fun w' s_ => by obtain ⟨s0, s1, s2, s3⟩ := s_; go_simp; with_reducible rfl) ?_
      refine pu_ 6 (some 32) (bl 16 6143) HT_.out rfl ?_
      refine tw_ 11 (some 37) (bl 16 8191) HT_.out HW_.out rfl hHeld (fun w' s_ => by obtain ⟨s0, s1, s2, s3⟩ := s_; go_simp; with_reducible rfl) ?_
      refine pu_ 13 (some 39) (bl 16 16383) HT_.out rfl ?_
      refine on_ 14 (some 40) (bl 16 32767) HT_.out rfl (fun K hK => ?_)
      refine goes_ Try.func99 (by kernel_rfl) rfl #[.slice A174_0 (((rd_T42 l0 x9_1).f0).take (a2 : Int).toNat).length c174_0, .slice A176_0 (((rd_T42 l1 x10_2).f0).take (a2 : Int).toNat).length c176_0] (by rfl) rfl rfl b7_2 ?_
      with_reducible refine (spec_CompareRows.calls k2 _ _ (((rd_T42 l0 x9_1).f0).take (a2 : Int).toNat) _ _ (((rd_T42 l1 x10_2).f0).take (a2 : Int).toNat) t178 _ ?side1 ?side2 ?side3 ?side4 A15.out).mono ?_
      (case side1 => exact (by repeat (first | exact (Kd.C_below HR175.out HB.out) | (with_reducible refine Kd.C_alloc ?_ _) | (with_reducible refine Kd.C_drewN ?_ _) | (with_reducible refine Kd.C_drew ?_))))
      (case side2 => exact HC175.out)
      (case side3 => exact (by repeat (first | exact (Kd.C_below HR177.out HB.out) | (with_reducible refine Kd.C_alloc ?_ _) | (with_reducible refine Kd.C_drewN ?_ _) | (with_reducible refine Kd.C_drew ?_))))
      (case side4 => exact HC177.out)
      rintro e w' ⟨rfl, ⟨nd, rfl⟩⟩
      refine ⟨_, rfl, ?_⟩
      refine hK.out _ _ ⟨((HB.out.cell (World.block_lt_of_cell? w _ hw174_0)).trans hw174_0), ((HB.out.cell (World.block_lt_of_cell? w _ hw174_1)).trans hw174_1), ((HB.out.cell (World.block_lt_of_cell? w _ hw176_0)).trans hw176_0), ((HB.out.cell (World.block_lt_of_cell? w _ hw176_1)).trans hw176_1)⟩ (fun hHeld => ?_)
      clear hK K
      refine norm_ (a' := ?_) ?_ ?_
      rotate_left
      ·show Act.put _ (some 40) _ = _
       simp only [Act.put, List.setIfInBounds_toArray, List.set_cons_zero, List.set_cons_succ, i64_w, i32_w]
       rfl
      refine pu_ 15 (some 41) (bl 16 65535) HT_.out rfl ?_
      refine done_ (done_of HT_.out (by kernel_rfl)) ?_
      try go_wp2
      (try simp only [World.drewN_drewN]); (try (rw [drewN_self w34]; generalize hq_ : World.drewN w34 _ = w34; have n0_ : Aside0 (Kd.N k42 42 w34 w.heap.size (fun k_ => (w.heap.size ≤ k_)) u8 x8_2) := ⟨by rw [← hq_]; exact b7_3⟩; have n1_ : Aside0 (Below w.heap.size w w34) := ⟨by rw [← hq_]; exact b7_1⟩; clear HO_8 HB hq_; have HO_8 := n0_; have HB := n1_; clear n0_ n1_))
      have n0_ := Aside0.mk (Kd.N_drew HO_8.out)
      have n1_ := Aside0.mk (below_drew1 HB.out)
      clear HO_8
      clear HB
      have HO_8 := n0_
      have HB := n1_
      clear n0_ n1_
      have p179 : 0 ≤ (x9_1 : Int) := of_decide_eq_true b7_0
      have q179 : x9_1 < (l0.length : Int) := of_decide_eq_true b7_0
      obtain ⟨ad179, A179_0, c179_0, e179, hx179_0, hx179_1, hl179_0, hi179_0⟩ := at_T42 HR0.out x9_1 p179 q179
      have hw179_1 := hx179_1
      have hw179_0 := hx179_0
      obtain rfl : ad174 = ad179 := (by injection e179)
      replace hx179_0 := (HB.out.cell (World.block_lt_of_cell? w _ hx179_0)).trans hx179_0
      replace hx179_1 := (HB.out.cell (World.block_lt_of_cell? w _ hx179_1)).trans hx179_1
      have HR179_0 := Aside0.mk hi179_0
      have HC179_0 := Aside0.mk hl179_0
      clear hi179_0 hl179_0
      replace p179 := eq_true p179
      replace q179 := eq_true q179
      have p180 : 0 ≤ (x10_2 : Int) := of_decide_eq_true b7_0
      have q180 : x10_2 < (l1.length : Int) := of_decide_eq_true b7_0
      obtain ⟨ad180, A180_0, c180_0, e180, hx180_0, hx180_1, hl180_0, hi180_0⟩ := at_T42 HR1.out x10_2 p180 q180
      have hw180_1 := hx180_1
      have hw180_0 := hx180_0
      obtain rfl : ad176 = ad180 := (by injection e180)
      replace hx180_0 := (HB.out.cell (World.block_lt_of_cell? w _ hx180_0)).trans hx180_0
      replace hx180_1 := (HB.out.cell (World.block_lt_of_cell? w _ hx180_1)).trans hx180_1
      have HR180_0 := Aside0.mk hi180_0
      have HC180_0 := Aside0.mk hl180_0
      clear hi180_0 hl180_0
      replace p180 := eq_true p180
      replace q180 := eq_true q180
      refine start_ (n := 16) (S := fun w' => w'.cell? (ad174.add ((x9_1).toNat * 2)) = some (.slice A179_0 ((rd_T42 l0 x9_1).f0).length c179_0) ∧ w'.cell? ⟨(ad174.add ((x9_1).toNat * 2)).block, (ad174.add ((x9_1).toNat * 2)).off + 1, none⟩ = some (.int .i64 ((rd_T42 l0 x9_1).f1)) ∧ w'.cell? (ad176.add ((x10_2).toNat * 2)) = some (.slice A180_0 ((rd_T42 l1 x10_2).f0).length c180_0) ∧ w'.cell? ⟨(ad176.add ((x10_2).toNat * 2)).block, (ad176.add ((x10_2).toNat * 2)).off + 1, none⟩ = some (.int .i64 ((rd_T42 l1 x10_2).f1))) (ds := []) (bl 16 0) (by kernel_rfl) rfl rfl ⟨((HB.out.cell (World.block_lt_of_cell? w _ hw179_0)).trans hw179_0), ((HB.out.cell (World.block_lt_of_cell? w _ hw179_1)).trans hw179_1), ((HB.out.cell (World.block_lt_of_cell? w _ hw180_0)).trans hw180_0), ((HB.out.cell (World.block_lt_of_cell? w _ hw180_1)).trans hw180_1)⟩ (fun hHeld => ?_); refine with_tabW spec_l4Join.tab9 spec_l4Join.bits9 (fun HT_ HW_ => ?_)
      generalize w34.drew = w37 at HO_8 HB HR179_0 HR180_0 hx179_0 hx179_1 hx180_0 hx180_1 hHeld ⊢
      refine pu_ 0 (some 43) (bl 16 1) HT_.out rfl ?_
      refine pu_ 1 (some 44) (bl 16 3) HT_.out rfl ?_
      refine pu_ 2 (some 45) (bl 16 7) HT_.out rfl ?_
      refine pu_ 3 (some 46) (bl 16 15) HT_.out rfl ?_
      refine pu_ 5 (some 48) (bl 16 47) HT_.out rfl ?_
      refine pu_ 6 (some 49) (bl 16 111) HT_.out rfl ?_
      refine pu_ 7 (some 50) (bl 16 239) HT_.out rfl ?_
      refine pu_ 8 (some 51) (bl 16 495) HT_.out rfl ?_
      refine tw_ 4 (some 47) (bl 16 511) HT_.out HW_.out rfl hHeld (fun w' s_ => by obtain ⟨s0, s1, s2, s3⟩ := s_; go_simp; with_reducible rfl) ?_
      refine tw_ 9 (some 52) (bl 16 1023) HT_.out HW_.out rfl hHeld (fun w' s_ => by obtain ⟨s0, s1, s2, s3⟩ := s_; go_simp; with_reducible rfl) ?_
      refine on_ 10 (some 53) (bl 16 2047) HT_.out rfl (fun K hK => ?_)
      refine goes_ Try.func115 (by kernel_rfl) rfl #[.int .i64 ((rd_T42 l0 x9_1).f1), .int .i64 ((rd_T42 l1 x10_2).f1)] (by rfl) rfl rfl (by (try simp only [List.map_toArray, List.map_cons, List.map_nil]); first | done | rfl | (simp only [List.length_drop, List.length_take]; rfl)) ?_
      with_reducible refine (spec_l1Mul.calls k2 ((rd_T42 l0 x9_1).f1) ((rd_T42 l1 x10_2).f1) t181 false _ A17.out).mono ?_
      rintro e w' ⟨rfl, ⟨nd, rfl⟩⟩
      refine ⟨_, rfl, ?_⟩
      refine hK.out _ _ ⟨((HB.out.cell (World.block_lt_of_cell? w _ hw179_0)).trans hw179_0), ((HB.out.cell (World.block_lt_of_cell? w _ hw179_1)).trans hw179_1), ((HB.out.cell (World.block_lt_of_cell? w _ hw180_0)).trans hw180_0), ((HB.out.cell (World.block_lt_of_cell? w _ hw180_1)).trans hw180_1)⟩ (fun hHeld => ?_)
      clear hK K
      refine norm_ (a' := ?_) ?_ ?_
      rotate_left
      ·show Act.put _ (some 53) _ = _
       simp only [Act.put, List.setIfInBounds_toArray, List.set_cons_zero, List.set_cons_succ, i64_w, i32_w]
       rfl
      refine pu_ 11 (some 42) (bl 16 4095) HT_.out rfl ?_
      refine pu_ 12 (some 54) (bl 16 8191) HT_.out rfl ?_
      refine pu_ 13 (some 55) (bl 16 16383) HT_.out rfl ?_
      refine pu_ 14 (some 11) (bl 16 32767) HT_.out rfl ?_
      refine pu_ 15 (some 12) (bl 16 65535) HT_.out rfl ?_
      refine done_ (done_of HT_.out (by kernel_rfl)) ?_
      try go_wp2
      go_ret2
      exact ⟨_, q7_2, q7_3, q7_0⟩
     subst c18
     have H1 : ((spec_l2Row.f ((rd_T42 l0 x9_1).f0)).bind fun t184 => (if t184.length + (((rd_T42 l1 x10_2).f0).drop (a2 : Int).toNat).length < 17592186044416 then (if x8_2.length < 4398046511104 then (spec_l4Join.l1 k2 l0 l1 a2 (x8_2 ++ [(⟨(t184 ++ (((rd_T42 l1 x10_2).f0).drop (a2 : Int).toNat)), t181⟩ : S42)]) x9_1 (wrap64 (x10_2 + 1))) else (none)) else (none))) = some (r1, r2) := by rw [if_pos rfl] at H; exact H
     clear H
     have H := H1
     clear H1
     replace H := Option.bind_eq_some_iff.mp H
     obtain ⟨t184, A190, H⟩ := H
     replace H : (if t184.length + (((rd_T42 l1 x10_2).f0).drop (a2 : Int).toNat).length < 17592186044416 then (if x8_2.length < 4398046511104 then (spec_l4Join.l1 k2 l0 l1 a2 (x8_2 ++ [(⟨(t184 ++ (((rd_T42 l1 x10_2).f0).drop (a2 : Int).toNat)), t181⟩ : S42)]) x9_1 (wrap64 (x10_2 + 1))) else (none)) else (none)) = some (r1, r2) := H
     have A19 := Aside0.mk A190
     clear A190
     have c20b0 := eq_true (of_decide_eq_true b7_0 : 0 ≤ a2)
     have c21b0 := eq_true (of_decide_eq_true b7_0 : a2 ≤ (((rd_T42 l1 x10_2).f0).length : Int))
     by_cases c22 : t184.length + (((rd_T42 l1 x10_2).f0).drop (a2 : Int).toNat).length < 17592186044416
     rotate_left
     ·rw [if_neg c22] at H
      exact absurd H (by simp)
     rw [if_pos c22] at H
     have LMc22 := Aside0.mk c22
     clear c22
     obtain ⟨y189, hy189⟩ : ∃ y_ : List Int, y_ = (t184 ++ (((rd_T42 l1 x10_2).f0).drop (a2 : Int).toNat)) := ⟨_, rfl⟩
     replace H : (if x8_2.length < 4398046511104 then (spec_l4Join.l1 k2 l0 l1 a2 (x8_2 ++ [(⟨y189, t181⟩ : S42)]) x9_1 (wrap64 (x10_2 + 1))) else (none)) = some (r1, r2) := by first | (rw [hy189]; with_reducible exact H) | (have H2_ := (Option.bind_some _ _).symm.trans H; rw [hy189]; with_reducible exact H2_) | (have H2_ := (Option.bind_some _ _).symm.trans H; with_reducible exact H2_) | with_reducible exact H | (rw [hy189]; exact H) | exact H
     have Ny189 := Aside0.mk hy189
     clear hy189
     by_cases c23 : x8_2.length < 4398046511104
     rotate_left
     ·rw [if_neg c23] at H
      exact absurd H (by simp)
     rw [if_pos c23] at H
     have LMc23 := Aside0.mk c23
     clear c23
     obtain ⟨y192, hy192⟩ : ∃ y_ : List (S42), y_ = (x8_2 ++ [(⟨y189, t181⟩ : S42)]) := ⟨_, rfl⟩
     replace H : (spec_l4Join.l1 k2 l0 l1 a2 y192 x9_1 (wrap64 (x10_2 + 1))) = some (r1, r2) := by first | (rw [hy192]; with_reducible exact H) | (have H2_ := (Option.bind_some _ _).symm.trans H; rw [hy192]; with_reducible exact H2_) | (have H2_ := (Option.bind_some _ _).symm.trans H; with_reducible exact H2_) | with_reducible exact H | (rw [hy192]; exact H) | exact H
     have Ny192 := Aside0.mk hy192
     clear hy192
     have H' := Aside0.mk H
     clear H
     try go_wp2
     have n0_ := Aside0.mk (Kd.N_drew HO_8.out)
     have n1_ := Aside0.mk (below_drew1 HB.out)
     clear HO_8
     clear HB
     have HO_8 := n0_
     have HB := n1_
     clear n0_ n1_
     have p174 : 0 ≤ (x9_1 : Int) := of_decide_eq_true b7_0
     have q174 : x9_1 < (l0.length : Int) := of_decide_eq_true b7_0
     obtain ⟨ad174, A174_0, c174_0, e174, hx174_0, hx174_1, hl174_0, hi174_0⟩ := at_T42 HR0.out x9_1 p174 q174
     have hw174_1 := hx174_1
     have hw174_0 := hx174_0
     cases e174
     replace hx174_0 := (HB.out.cell (World.block_lt_of_cell? w _ hx174_0)).trans hx174_0
     replace hx174_1 := (HB.out.cell (World.block_lt_of_cell? w _ hx174_1)).trans hx174_1
     have HR174_0 := Aside0.mk hi174_0
     have HC174_0 := Aside0.mk hl174_0
     clear hi174_0 hl174_0
     replace p174 := eq_true p174
     replace q174 := eq_true q174
     obtain ⟨i025, hi025, _, hsz25, _⟩ := info_parts info2
     obtain ⟨hcut25, hA25, hC25⟩ := print_take_of (P := Try.prog) (Value.int .i64) 0 40 2 .i64 Try.underlying40 hi025 hsz25 A174_0 c174_0 ((rd_T42 l0 x9_1).f0) a2 (of_decide_eq_true b7_0) (of_decide_eq_true b7_0) HC174_0.out
     have HTL25 := Aside0.mk (show (((rd_T42 l0 x9_1).f0).take (a2 : Int).toNat).length = (a2 : Int).toNat from by have h1_ : a2 ≤ (((rd_T42 l0 x9_1).f0).length : Int) := (of_decide_eq_true b7_0); rw [List.length_take]; omega)
     have HR175 := Aside0.mk (Kd.C_of_reads (h1 := fun _ => rfl) (hA25 _ (Kd.reads_of_C HR174_0.out)))
     have HC175 := Aside0.mk hC25
     clear hA25 hC25 hi025 hsz25
     have p176 : 0 ≤ (x10_2 : Int) := of_decide_eq_true b7_0
     have q176 : x10_2 < (l1.length : Int) := of_decide_eq_true b7_0
     obtain ⟨ad176, A176_0, c176_0, e176, hx176_0, hx176_1, hl176_0, hi176_0⟩ := at_T42 HR1.out x10_2 p176 q176
     have hw176_1 := hx176_1
     have hw176_0 := hx176_0
     cases e176
     replace hx176_0 := (HB.out.cell (World.block_lt_of_cell? w _ hx176_0)).trans hx176_0
     replace hx176_1 := (HB.out.cell (World.block_lt_of_cell? w _ hx176_1)).trans hx176_1
     have HR176_0 := Aside0.mk hi176_0
     have HC176_0 := Aside0.mk hl176_0
     clear hi176_0 hl176_0
     replace p176 := eq_true p176
     replace q176 := eq_true q176
     obtain ⟨i026, hi026, _, hsz26, _⟩ := info_parts info2
     obtain ⟨hcut26, hA26, hC26⟩ := print_take_of (P := Try.prog) (Value.int .i64) 0 40 2 .i64 Try.underlying40 hi026 hsz26 A176_0 c176_0 ((rd_T42 l1 x10_2).f0) a2 (of_decide_eq_true b7_0) (of_decide_eq_true b7_0) HC176_0.out
     have HTL26 := Aside0.mk (show (((rd_T42 l1 x10_2).f0).take (a2 : Int).toNat).length = (a2 : Int).toNat from by have h1_ : a2 ≤ (((rd_T42 l1 x10_2).f0).length : Int) := (of_decide_eq_true b7_0); rw [List.length_take]; omega)
     have HR177 := Aside0.mk (Kd.C_of_reads (h1 := fun _ => rfl) (hA26 _ (Kd.reads_of_C HR176_0.out)))
     have HC177 := Aside0.mk hC26
     clear hA26 hC26 hi026 hsz26
     refine start_ (n := 16) (S := fun w' => w'.cell? (ad174.add ((x9_1).toNat * 2)) = some (.slice A174_0 ((rd_T42 l0 x9_1).f0).length c174_0) ∧ w'.cell? ⟨(ad174.add ((x9_1).toNat * 2)).block, (ad174.add ((x9_1).toNat * 2)).off + 1, none⟩ = some (.int .i64 ((rd_T42 l0 x9_1).f1)) ∧ w'.cell? (ad176.add ((x10_2).toNat * 2)) = some (.slice A176_0 ((rd_T42 l1 x10_2).f0).length c176_0) ∧ w'.cell? ⟨(ad176.add ((x10_2).toNat * 2)).block, (ad176.add ((x10_2).toNat * 2)).off + 1, none⟩ = some (.int .i64 ((rd_T42 l1 x10_2).f1))) (ds := []) (bl 16 0) (by kernel_rfl) rfl rfl ⟨((HB.out.cell (World.block_lt_of_cell? w _ hw174_0)).trans hw174_0), ((HB.out.cell (World.block_lt_of_cell? w _ hw174_1)).trans hw174_1), ((HB.out.cell (World.block_lt_of_cell? w _ hw176_0)).trans hw176_0), ((HB.out.cell (World.block_lt_of_cell? w _ hw176_1)).trans hw176_1)⟩ (fun hHeld => ?_); refine with_tabW spec_l4Join.tab8 spec_l4Join.bits8 (fun HT_ HW_ => ?_)
     generalize wr.drew = w24 at HO_8 HB HR174_0 HR175 HR176_0 HR177 hx174_0 hx174_1 hx176_0 hx176_1 hHeld ⊢
     refine pu_ 0 (some 26) (bl 16 1) HT_.out rfl ?_
     refine pu_ 1 (some 27) (bl 16 3) HT_.out rfl ?_
     refine pu_ 2 (some 28) (bl 16 7) HT_.out rfl ?_
     refine pu_ 3 (some 29) (bl 16 15) HT_.out rfl ?_
     refine pu_ 5 (some 31) (bl 16 47) HT_.out rfl ?_
     refine pu_ 7 (some 33) (bl 16 175) HT_.out rfl ?_
     refine pu_ 8 (some 34) (bl 16 431) HT_.out rfl ?_
     refine pu_ 9 (some 35) (bl 16 943) HT_.out rfl ?_
     refine pu_ 10 (some 36) (bl 16 1967) HT_.out rfl ?_
     refine pu_ 12 (some 38) (bl 16 6063) HT_.out rfl ?_
     refine tw_ 4 (some 30) (bl 16 6079) HT_.out HW_.out rfl hHeld (fun w' s_ => by obtain ⟨s0, s1, s2, s3⟩ := s_; go_simp; with_reducible rfl) ?_
     refine pu_ 6 (some 32) (bl 16 6143) HT_.out rfl ?_
     refine tw_ 11 (some 37) (bl 16 8191) HT_.out HW_.out rfl hHeld (fun w' s_ => by obtain ⟨s0, s1, s2, s3⟩ := s_; go_simp; with_reducible rfl) ?_
     refine pu_ 13 (some 39) (bl 16 16383) HT_.out rfl ?_
     refine on_ 14 (some 40) (bl 16 32767) HT_.out rfl (fun K hK => ?_)
     refine goes_ Try.func99 (by kernel_rfl) rfl #[.slice A174_0 (((rd_T42 l0 x9_1).f0).take (a2 : Int).toNat).length c174_0, .slice A176_0 (((rd_T42 l1 x10_2).f0).take (a2 : Int).toNat).length c176_0] (by rfl) rfl rfl b7_2 ?_
     with_reducible refine (spec_CompareRows.calls k2 _ _ (((rd_T42 l0 x9_1).f0).take (a2 : Int).toNat) _ _ (((rd_T42 l1 x10_2).f0).take (a2 : Int).toNat) t178 _ ?side1 ?side2 ?side3 ?side4 A15.out).mono ?_
     (case side1 => exact (by repeat (first | exact (Kd.C_below HR175.out HB.out) | (with_reducible refine Kd.C_alloc ?_ _) | (with_reducible refine Kd.C_drewN ?_ _) | (with_reducible refine Kd.C_drew ?_))))
     (case side2 => exact HC175.out)
     (case side3 => exact (by repeat (first | exact (Kd.C_below HR177.out HB.out) | (with_reducible refine Kd.C_alloc ?_ _) | (with_reducible refine Kd.C_drewN ?_ _) | (with_reducible refine Kd.C_drew ?_))))
     (case side4 => exact HC177.out)
     rintro e w' ⟨rfl, ⟨nd, rfl⟩⟩
     refine ⟨_, rfl, ?_⟩
     refine hK.out _ _ ⟨((HB.out.cell (World.block_lt_of_cell? w _ hw174_0)).trans hw174_0), ((HB.out.cell (World.block_lt_of_cell? w _ hw174_1)).trans hw174_1), ((HB.out.cell (World.block_lt_of_cell? w _ hw176_0)).trans hw176_0), ((HB.out.cell (World.block_lt_of_cell? w _ hw176_1)).trans hw176_1)⟩ (fun hHeld => ?_)
     clear hK K
     refine norm_ (a' := ?_) ?_ ?_
     rotate_left
     ·show Act.put _ (some 40) _ = _
      simp only [Act.put, List.setIfInBounds_toArray, List.set_cons_zero, List.set_cons_succ, i64_w, i32_w]
      rfl
     refine pu_ 15 (some 41) (bl 16 65535) HT_.out rfl ?_
     refine done_ (done_of HT_.out (by kernel_rfl)) ?_
     try go_wp2
     (try simp only [World.drewN_drewN]); (try (rw [drewN_self w24]; generalize hq_ : World.drewN w24 _ = w24; have n0_ : Aside0 (Kd.N k42 42 w24 w.heap.size (fun k_ => (w.heap.size ≤ k_)) u8 x8_2) := ⟨by rw [← hq_]; exact b7_3⟩; have n1_ : Aside0 (Below w.heap.size w w24) := ⟨by rw [← hq_]; exact b7_1⟩; clear HO_8 HB hq_; have HO_8 := n0_; have HB := n1_; clear n0_ n1_))
     have n0_ := Aside0.mk (Kd.N_drew HO_8.out)
     have n1_ := Aside0.mk (below_drew1 HB.out)
     clear HO_8
     clear HB
     have HO_8 := n0_
     have HB := n1_
     clear n0_ n1_
     have p179 : 0 ≤ (x9_1 : Int) := of_decide_eq_true b7_0
     have q179 : x9_1 < (l0.length : Int) := of_decide_eq_true b7_0
     obtain ⟨ad179, A179_0, c179_0, e179, hx179_0, hx179_1, hl179_0, hi179_0⟩ := at_T42 HR0.out x9_1 p179 q179
     have hw179_1 := hx179_1
     have hw179_0 := hx179_0
     obtain rfl : ad174 = ad179 := (by injection e179)
     replace hx179_0 := (HB.out.cell (World.block_lt_of_cell? w _ hx179_0)).trans hx179_0
     replace hx179_1 := (HB.out.cell (World.block_lt_of_cell? w _ hx179_1)).trans hx179_1
     have HR179_0 := Aside0.mk hi179_0
     have HC179_0 := Aside0.mk hl179_0
     clear hi179_0 hl179_0
     replace p179 := eq_true p179
     replace q179 := eq_true q179
     have p180 : 0 ≤ (x10_2 : Int) := of_decide_eq_true b7_0
     have q180 : x10_2 < (l1.length : Int) := of_decide_eq_true b7_0
     obtain ⟨ad180, A180_0, c180_0, e180, hx180_0, hx180_1, hl180_0, hi180_0⟩ := at_T42 HR1.out x10_2 p180 q180
     have hw180_1 := hx180_1
     have hw180_0 := hx180_0
     obtain rfl : ad176 = ad180 := (by injection e180)
     replace hx180_0 := (HB.out.cell (World.block_lt_of_cell? w _ hx180_0)).trans hx180_0
     replace hx180_1 := (HB.out.cell (World.block_lt_of_cell? w _ hx180_1)).trans hx180_1
     have HR180_0 := Aside0.mk hi180_0
     have HC180_0 := Aside0.mk hl180_0
     clear hi180_0 hl180_0
     replace p180 := eq_true p180
     replace q180 := eq_true q180
     refine start_ (n := 16) (S := fun w' => w'.cell? (ad174.add ((x9_1).toNat * 2)) = some (.slice A179_0 ((rd_T42 l0 x9_1).f0).length c179_0) ∧ w'.cell? ⟨(ad174.add ((x9_1).toNat * 2)).block, (ad174.add ((x9_1).toNat * 2)).off + 1, none⟩ = some (.int .i64 ((rd_T42 l0 x9_1).f1)) ∧ w'.cell? (ad176.add ((x10_2).toNat * 2)) = some (.slice A180_0 ((rd_T42 l1 x10_2).f0).length c180_0) ∧ w'.cell? ⟨(ad176.add ((x10_2).toNat * 2)).block, (ad176.add ((x10_2).toNat * 2)).off + 1, none⟩ = some (.int .i64 ((rd_T42 l1 x10_2).f1))) (ds := []) (bl 16 0) (by kernel_rfl) rfl rfl ⟨((HB.out.cell (World.block_lt_of_cell? w _ hw179_0)).trans hw179_0), ((HB.out.cell (World.block_lt_of_cell? w _ hw179_1)).trans hw179_1), ((HB.out.cell (World.block_lt_of_cell? w _ hw180_0)).trans hw180_0), ((HB.out.cell (World.block_lt_of_cell? w _ hw180_1)).trans hw180_1)⟩ (fun hHeld => ?_); refine with_tabW spec_l4Join.tab9 spec_l4Join.bits9 (fun HT_ HW_ => ?_)
     generalize w24.drew = w27 at HO_8 HB HR179_0 HR180_0 hx179_0 hx179_1 hx180_0 hx180_1 hHeld ⊢
     refine pu_ 0 (some 43) (bl 16 1) HT_.out rfl ?_
     refine pu_ 1 (some 44) (bl 16 3) HT_.out rfl ?_
     refine pu_ 2 (some 45) (bl 16 7) HT_.out rfl ?_
     refine pu_ 3 (some 46) (bl 16 15) HT_.out rfl ?_
     refine pu_ 5 (some 48) (bl 16 47) HT_.out rfl ?_
     refine pu_ 6 (some 49) (bl 16 111) HT_.out rfl ?_
     refine pu_ 7 (some 50) (bl 16 239) HT_.out rfl ?_
     refine pu_ 8 (some 51) (bl 16 495) HT_.out rfl ?_
     refine tw_ 4 (some 47) (bl 16 511) HT_.out HW_.out rfl hHeld (fun w' s_ => by obtain ⟨s0, s1, s2, s3⟩ := s_; go_simp; with_reducible rfl) ?_
     refine tw_ 9 (some 52) (bl 16 1023) HT_.out HW_.out rfl hHeld (fun w' s_ => by obtain ⟨s0, s1, s2, s3⟩ := s_; go_simp; with_reducible rfl) ?_
     refine on_ 10 (some 53) (bl 16 2047) HT_.out rfl (fun K hK => ?_)
     refine goes_ Try.func115 (by kernel_rfl) rfl #[.int .i64 ((rd_T42 l0 x9_1).f1), .int .i64 ((rd_T42 l1 x10_2).f1)] (by rfl) rfl rfl (by (try simp only [List.map_toArray, List.map_cons, List.map_nil]); first | done | rfl | (simp only [List.length_drop, List.length_take]; rfl)) ?_
     with_reducible refine (spec_l1Mul.calls k2 ((rd_T42 l0 x9_1).f1) ((rd_T42 l1 x10_2).f1) t181 true _ A17.out).mono ?_
     rintro e w' ⟨rfl, ⟨nd, rfl⟩⟩
     refine ⟨_, rfl, ?_⟩
     refine hK.out _ _ ⟨((HB.out.cell (World.block_lt_of_cell? w _ hw179_0)).trans hw179_0), ((HB.out.cell (World.block_lt_of_cell? w _ hw179_1)).trans hw179_1), ((HB.out.cell (World.block_lt_of_cell? w _ hw180_0)).trans hw180_0), ((HB.out.cell (World.block_lt_of_cell? w _ hw180_1)).trans hw180_1)⟩ (fun hHeld => ?_)
     clear hK K
     refine norm_ (a' := ?_) ?_ ?_
     rotate_left
     ·show Act.put _ (some 53) _ = _
      simp only [Act.put, List.setIfInBounds_toArray, List.set_cons_zero, List.set_cons_succ, i64_w, i32_w]
      rfl
     refine pu_ 11 (some 42) (bl 16 4095) HT_.out rfl ?_
     refine pu_ 12 (some 54) (bl 16 8191) HT_.out rfl ?_
     refine pu_ 13 (some 55) (bl 16 16383) HT_.out rfl ?_
     refine pu_ 14 (some 11) (bl 16 32767) HT_.out rfl ?_
     refine pu_ 15 (some 12) (bl 16 65535) HT_.out rfl ?_
     refine done_ (done_of HT_.out (by kernel_rfl)) ?_
     try go_wp2
     (try simp only [World.drewN_drewN]); (try (rw [drewN_self w27]; generalize hq_ : World.drewN w27 _ = w27; have n0_ : Aside0 (Kd.N k42 42 w27 w.heap.size (fun k_ => (w.heap.size ≤ k_)) u8 x8_2) := ⟨by rw [← hq_]; exact b7_3⟩; have n1_ : Aside0 (Below w.heap.size w w27) := ⟨by rw [← hq_]; exact b7_1⟩; clear HO_8 HB hq_; have HO_8 := n0_; have HB := n1_; clear n0_ n1_))
     have n0_ := Aside0.mk (Kd.N_drew HO_8.out)
     have n1_ := Aside0.mk (below_drew1 HB.out)
     clear HO_8
     clear HB
     have HO_8 := n0_
     have HB := n1_
     clear n0_ n1_
     have p183 : 0 ≤ (x9_1 : Int) := of_decide_eq_true b7_0
     have q183 : x9_1 < (l0.length : Int) := of_decide_eq_true b7_0
     obtain ⟨ad183, A183_0, c183_0, e183, hx183_0, hx183_1, hl183_0, hi183_0⟩ := at_T42 HR0.out x9_1 p183 q183
     have hw183_1 := hx183_1
     have hw183_0 := hx183_0
     obtain rfl : ad174 = ad183 := (by injection e183)
     replace hx183_0 := (HB.out.cell (World.block_lt_of_cell? w _ hx183_0)).trans hx183_0
     replace hx183_1 := (HB.out.cell (World.block_lt_of_cell? w _ hx183_1)).trans hx183_1
     have HR183_0 := Aside0.mk hi183_0
     have HC183_0 := Aside0.mk hl183_0
     clear hi183_0 hl183_0
     replace p183 := eq_true p183
     replace q183 := eq_true q183
     have p187 : 0 ≤ (x10_2 : Int) := of_decide_eq_true b7_0
     have q187 : x10_2 < (l1.length : Int) := of_decide_eq_true b7_0
     obtain ⟨ad187, A187_0, c187_0, e187, hx187_0, hx187_1, hl187_0, hi187_0⟩ := at_T42 HR1.out x10_2 p187 q187
     have hw187_1 := hx187_1
     have hw187_0 := hx187_0
     obtain rfl : ad176 = ad187 := (by injection e187)
     replace hx187_0 := (HB.out.cell (World.block_lt_of_cell? w _ hx187_0)).trans hx187_0
     replace hx187_1 := (HB.out.cell (World.block_lt_of_cell? w _ hx187_1)).trans hx187_1
     have HR187_0 := Aside0.mk hi187_0
     have HC187_0 := Aside0.mk hl187_0
     clear hi187_0 hl187_0
     replace p187 := eq_true p187
     replace q187 := eq_true q187
     obtain ⟨i029, hi029, _, hsz29, _⟩ := info_parts info2
     obtain ⟨A29, hcut29, hA29, hC29⟩ := print_drop_of (P := Try.prog) (Value.int .i64) 0 40 2 .i64 Try.underlying40 hi029 hsz29 A187_0 c187_0 ((rd_T42 l1 x10_2).f0) a2 (of_decide_eq_true b7_0) (of_decide_eq_true b7_0) HC187_0.out
     have HR188 := Aside0.mk (Kd.C_of_reads (h1 := fun _ => rfl) (hA29 _ (Kd.reads_of_C HR187_0.out)))
     have HC188 := Aside0.mk hC29
     clear hA29 hC29 hi029 hsz29
     refine start_ (n := 20) (S := fun w' => w'.cell? (ad174.add ((x9_1).toNat * 2)) = some (.slice A183_0 ((rd_T42 l0 x9_1).f0).length c183_0) ∧ w'.cell? ⟨(ad174.add ((x9_1).toNat * 2)).block, (ad174.add ((x9_1).toNat * 2)).off + 1, none⟩ = some (.int .i64 ((rd_T42 l0 x9_1).f1)) ∧ w'.cell? (ad176.add ((x10_2).toNat * 2)) = some (.slice A187_0 ((rd_T42 l1 x10_2).f0).length c187_0) ∧ w'.cell? ⟨(ad176.add ((x10_2).toNat * 2)).block, (ad176.add ((x10_2).toNat * 2)).off + 1, none⟩ = some (.int .i64 ((rd_T42 l1 x10_2).f1))) (ds := []) (bl 20 0) (by kernel_rfl) rfl rfl ⟨((HB.out.cell (World.block_lt_of_cell? w _ hw183_0)).trans hw183_0), ((HB.out.cell (World.block_lt_of_cell? w _ hw183_1)).trans hw183_1), ((HB.out.cell (World.block_lt_of_cell? w _ hw187_0)).trans hw187_0), ((HB.out.cell (World.block_lt_of_cell? w _ hw187_1)).trans hw187_1)⟩ (fun hHeld => ?_); refine with_tabW spec_l4Join.tab12 spec_l4Join.bits12 (fun HT_ HW_ => ?_)
     generalize w27.drew = w28 at HO_8 HB HR183_0 HR187_0 HR188 hx183_0 hx183_1 hx187_0 hx187_1 hHeld ⊢
     refine pu_ 0 (some 58) (bl 20 1) HT_.out rfl ?_
     refine pu_ 1 (some 59) (bl 20 3) HT_.out rfl ?_
     refine pu_ 2 (some 60) (bl 20 7) HT_.out rfl ?_
     refine pu_ 3 (some 61) (bl 20 15) HT_.out rfl ?_
     refine pu_ 4 (some 62) (bl 20 31) HT_.out rfl ?_
     refine pu_ 7 (some 65) (bl 20 159) HT_.out rfl ?_
     refine pu_ 8 (some 66) (bl 20 415) HT_.out rfl ?_
     refine pu_ 9 (some 67) (bl 20 927) HT_.out rfl ?_
     refine pu_ 10 (some 68) (bl 20 1951) HT_.out rfl ?_
     refine pu_ 12 (some 70) (bl 20 6047) HT_.out rfl ?_
     refine pu_ 15 (some 73) (bl 20 38815) HT_.out rfl ?_
     refine tw_ 5 (some 63) (bl 20 38847) HT_.out HW_.out rfl hHeld (fun w' s_ => by obtain ⟨s0, s1, s2, s3⟩ := s_; go_simp; with_reducible rfl) ?_
     refine tw_ 11 (some 69) (bl 20 40895) HT_.out HW_.out rfl hHeld (fun w' s_ => by obtain ⟨s0, s1, s2, s3⟩ := s_; go_simp; with_reducible rfl) ?_
     refine pu_ 13 (some 71) (bl 20 49087) HT_.out rfl ?_
     refine on_ 6 (some 64) (bl 20 49151) HT_.out rfl (fun K hK => ?_)
     refine goes_ Try.func101 (by kernel_rfl) rfl #[.slice A183_0 ((rd_T42 l0 x9_1).f0).length c183_0] (by rfl) rfl rfl (by (try simp only [List.map_toArray, List.map_cons, List.map_nil]); first | done | rfl | (simp only [List.length_drop, List.length_take]; rfl)) ?_
     with_reducible refine (spec_l2Row.calls _ _ ((rd_T42 l0 x9_1).f0) t184 _ ?side1 ?side2 A19.out).mono ?_
     (case side1 => exact (by repeat (first | exact (Kd.C_below HR183_0.out HB.out) | (with_reducible refine Kd.C_alloc ?_ _) | (with_reducible refine Kd.C_drewN ?_ _) | (with_reducible refine Kd.C_drew ?_))))
     (case side2 => exact HC183_0.out)
     rintro e w30 ⟨v185, rfl, ho0, hb⟩
     refine ⟨_, rfl, ?_⟩
     have n0_ := Aside0.mk (Kd.N_elder' b7_3 (Kd.R_base ho0) hb)
     have n1_ := Aside0.mk (Kd.R_lower (Kd.R_newM (M := fun k_ => (w.heap.size ≤ k_)) ho0 (below_size b7_1) (fun k_ h_ => h_)) (below_size b7_1))
     have n2_ := Aside0.mk (below_step b7_1 hb)
     clear HO_8
     clear HB
     have HO_8 := n0_
     have HO186 := n1_
     have HB := n2_
     clear n0_ n1_ n2_
     (try clear hb)
     (try clear hb2)
     (try clear hk)
     (try clear hi)
     (try clear ho0)
     refine hK.out _ _ ⟨((HB.out.cell (World.block_lt_of_cell? w _ hw183_0)).trans hw183_0), ((HB.out.cell (World.block_lt_of_cell? w _ hw183_1)).trans hw183_1), ((HB.out.cell (World.block_lt_of_cell? w _ hw187_0)).trans hw187_0), ((HB.out.cell (World.block_lt_of_cell? w _ hw187_1)).trans hw187_1)⟩ (fun hHeld => ?_)
     clear hK K
     refine norm_ (a' := ?_) ?_ ?_
     rotate_left
     ·show Act.put _ (some 64) _ = _
      simp only [Act.put, List.setIfInBounds_toArray, List.set_cons_zero, List.set_cons_succ, i64_w, i32_w]
      rfl
     refine on_ 14 (some 72) (bl 20 65535) HT_.out rfl (fun K hK => ?_)
     refine Kd.R_append_rows_step (Kd.int .i64) (w0 := w) w.heap.size (by rfl) (.tmp 64) (.tmp 71) 40 2 (.int .i64 0) 8 rfl Try.underlying40 info2 rfl (by decide) (by omega) v185 t184 (((rd_T42 l1 x10_2).f0).drop (a2 : Int).toNat) _ _ _ (fun k_ => (w.heap.size ≤ k_)) (fun _ => False) rfl rfl ?aO ?aR (fun _ _ h => h) (fun _ h => h.elim) ?aF ?aB ?aS ?aL ?_
     (case aR => first | (rw [← show (((rd_T42 l1 x10_2).f0).drop (a2 : Int).toNat).length = (((rd_T42 l1 x10_2).f0).length - a2.toNat) from List.length_drop]; repeat (first | exact (Kd.C_below HR188.out HB.out) | (with_reducible refine Kd.C_alloc ?_ _) | (with_reducible refine Kd.C_drewN ?_ _) | (with_reducible refine Kd.C_drew ?_))) | (repeat (first | exact (Kd.C_below HR188.out HB.out) | (with_reducible refine Kd.C_alloc ?_ _) | (with_reducible refine Kd.C_drewN ?_ _) | (with_reducible refine Kd.C_drew ?_))))
     (case aB => exact (by exact b7_1))
     (case aF => exact (by exact (fun k_ hk => (Nat.le_trans (below_size b7_1) hk))))
     (case aO => exact (by exact (by (with_reducible repeat (first | apply Kd.R_alloc | apply Kd.R_drewN | apply Kd.R_drew)); exact Kd.R_mono HO186.out (fun _ hk => hk.1))))
     (case aS => exact (by exact (below_size b7_1)))
     (case aL => have := LMc22.out; have hlx_ := (show (((rd_T42 l1 x10_2).f0).drop (a2 : Int).toNat).length = (((rd_T42 l1 x10_2).f0).length - a2.toNat) from List.length_drop); omega)
     intro v190 w31 ho hb hg hat
     rw [← Ny189.out] at ho
     have n0_ := Aside0.mk (Kd.N_afterv (ok := (fun k_ => (w.heap.size ≤ k_))) b7_3 hg hat)
     have n1_ := Aside0.mk (hb)
     have n2_ := Aside0.mk (ho)
     clear HO_8
     clear HB
     clear HO186
     have HO_8 := n0_
     have HB := n1_
     have HO191 := n2_
     clear n0_ n1_ n2_
     clear ho hb hg hat
     obtain ⟨Ao32, co32, eo32⟩ := Kd.R_slice HO191.out
     (first | subst eo32 | (injection eo32 with f1_ f2_ f3_; have f4_ := f1_.symm; have f5_ := f3_.symm; clear f1_ f2_ f3_; subst f4_; subst f5_))
     refine hK.out _ _ ⟨((HB.out.cell (World.block_lt_of_cell? w _ hw183_0)).trans hw183_0), ((HB.out.cell (World.block_lt_of_cell? w _ hw183_1)).trans hw183_1), ((HB.out.cell (World.block_lt_of_cell? w _ hw187_0)).trans hw187_0), ((HB.out.cell (World.block_lt_of_cell? w _ hw187_1)).trans hw187_1)⟩ (fun hHeld => ?_)
     clear hK K
     refine norm_ (a' := ?_) ?_ ?_
     rotate_left
     ·show Act.put _ (some 72) _ = _
      simp only [Act.put, List.setIfInBounds_toArray, List.set_cons_zero, List.set_cons_succ, i64_w, i32_w]
      rfl
     refine pu_ 16 (some 74) (bl 20 131071) HT_.out rfl ?_
     refine on_ 17 (some 75) (bl 20 262143) HT_.out rfl (fun K hK => ?_)
     refine value_ (w1 := ?_) (v := ?_) (by rfl) rfl ?_ ?_
     rotate_left 2
     ·go_simp
      constructor
      ·rfl
      ·rfl
     refine hK.out _ _ ⟨(World.cell?_alloc_lt _ _ _ (World.block_lt_of_cell? _ _ (((HB.out.cell (World.block_lt_of_cell? w _ hw183_0)).trans hw183_0)))).trans (((HB.out.cell (World.block_lt_of_cell? w _ hw183_0)).trans hw183_0)), (World.cell?_alloc_lt _ _ _ (World.block_lt_of_cell? _ _ (((HB.out.cell (World.block_lt_of_cell? w _ hw183_1)).trans hw183_1)))).trans (((HB.out.cell (World.block_lt_of_cell? w _ hw183_1)).trans hw183_1)), (World.cell?_alloc_lt _ _ _ (World.block_lt_of_cell? _ _ (((HB.out.cell (World.block_lt_of_cell? w _ hw187_0)).trans hw187_0)))).trans (((HB.out.cell (World.block_lt_of_cell? w _ hw187_0)).trans hw187_0)), (World.cell?_alloc_lt _ _ _ (World.block_lt_of_cell? _ _ (((HB.out.cell (World.block_lt_of_cell? w _ hw187_1)).trans hw187_1)))).trans (((HB.out.cell (World.block_lt_of_cell? w _ hw187_1)).trans hw187_1))⟩ (fun hHeld => ?_)
     clear hK K
     refine norm_ (a' := ?_) ?_ ?_
     rotate_left
     ·show Act.put _ (some 75) _ = _
      simp only [Act.put, List.setIfInBounds_toArray, List.set_cons_zero, List.set_cons_succ, i64_w, i32_w]
      rfl
     refine on_ 18 (some 76) (bl 20 524287) HT_.out rfl (fun K hK => ?_)
     refine Kd.N_append_step k42 (w0 := w) w.heap.size (by rfl) (.tmp 58) (.tmp 75) 24 42 (.agg #[(.slice none 0 0), (.int .i64 0)]) 32 rfl Try.underlying24 info42 rfl (by decide) (by omega) u8 x8_2 (⟨y189, t181⟩ : S42) [.slice Ao32 y189.length co32, .int .i64 t181] (fun k_ => (w.heap.size ≤ k_)) (fun k_ => ((fun k_ => (w.heap.size ≤ k_))) k_ ∧ some k_ ≠ (u8 : Value).ownBlock) rfl rfl ?aP (fun _ hk => hk) ?aF ?aO ?aB ?aS ?aL ?_
     (case aP => exact (by exact (k42_mkF _ _ (⟨y189, t181⟩ : S42) (Kd.R_reads' (Kd.R_mono (ok' := (fun k_ => ((fun k_ => (w.heap.size ≤ k_))) k_ ∧ some k_ ≠ (u8 : Value).ownBlock)) (Kd.R_apart' (HO191.out) (Kd.N_typed HO_8.out) (by decide)) (fun k_ hk => ⟨hk.1, hk.2⟩))).2.1 (Kd.R_F (Kd.R_mono (ok' := (fun k_ => ((fun k_ => (w.heap.size ≤ k_))) k_ ∧ some k_ ≠ (u8 : Value).ownBlock)) (Kd.R_apart' (HO191.out) (Kd.N_typed HO_8.out) (by decide)) (fun k_ hk => ⟨hk.1, hk.2⟩))))))
     (case aB => exact (by exact b7_1))
     (case aF => exact (by exact (fun k_ hk => (Nat.le_trans (below_size b7_1) hk))))
     (case aO => exact (by exact (by (with_reducible repeat (first | apply Kd.N_alloc | apply Kd.N_drewN | apply Kd.N_drew)); exact Kd.N_mono HO_8.out (fun _ hk => hk.1))))
     (case aS => exact (by exact (below_size b7_1)))
     (case aL => have := LMc23.out; omega)
     intro v193 w33 ho hb hg hat
     rw [← Ny192.out] at ho
     have n0_ := Aside0.mk (hb)
     have n1_ := Aside0.mk (ho)
     clear HB
     clear HO_8
     clear HO191
     have HB := n0_
     have HO194 := n1_
     clear n0_ n1_
     clear ho hb hg hat
     refine hK.out _ _ ⟨((HB.out.cell (World.block_lt_of_cell? w _ hw183_0)).trans hw183_0), ((HB.out.cell (World.block_lt_of_cell? w _ hw183_1)).trans hw183_1), ((HB.out.cell (World.block_lt_of_cell? w _ hw187_0)).trans hw187_0), ((HB.out.cell (World.block_lt_of_cell? w _ hw187_1)).trans hw187_1)⟩ (fun hHeld => ?_)
     clear hK K
     refine norm_ (a' := ?_) ?_ ?_
     rotate_left
     ·show Act.put _ (some 76) _ = _
      simp only [Act.put, List.setIfInBounds_toArray, List.set_cons_zero, List.set_cons_succ, i64_w, i32_w]
      rfl
     refine pu_ 19 (some 8) (bl 20 1048575) HT_.out rfl ?_
     refine done_ (done_of HT_.out (by kernel_rfl)) ?_
     try go_wp2
     go_roundg k2
     case measure => have := HK1.out; have := HK2.out; omega
     case rel => exact ⟨(y192), (wrap64 (x10_2 + 1)), (by first | rfl | (simp; done) | (simp [*]; done)), H', ⟨by have := HK1.out; have := HK2.out; omega⟩, ⟨by (with_reducible repeat (first | apply Kd.N_alloc | apply Kd.N_drewN | apply Kd.N_drew)); exact HO194.out⟩, ⟨q7_0⟩⟩

end Go.Proofs.Ythgmicingbjemaa.PFnExactJoinSets
