-- Written by fprint, a program of this session, out of Lean's own print of the translation. Lean checks it.
import Derived.Test.YthgmicingbjemaaDoorDense
import Derived.Test.YthgmicingbjemaaDoorPFnSumsx0
import Derived.Test.YthgmicingbjemaaDoorPFnSumsx5
import Derived.Test.YthgmicingbjemaaDoorPFnSumsx6
namespace Go.Proofs.YthgmicingbjemaaDoor.PFnSums
open Go.RowKit Go.Proofs.YthgmicingbjemaaDoorW.PrintWords Go.Proofs.YthgmicingbjemaaDoorW.PrintLast Go.Proofs.YthgmicingbjemaaDoorW.PrintMore
attribute [local go_sem] max2_int min2_int max_two min_two max_three min_three max_four min_four   -- for this text's walks alone
set_option linter.unusedVariables false
set_option linter.unusedSimpArgs false

theorem b7_3 {p : Prop} (h : p := by exact cB1_ GE276.out) : p := h
theorem q7_0 {p : Prop} (h : p := by first | exact Kd.S_nil _ _ _ _ _ | exact Kd.N_nil _ _ _ _ _ | exact Kd.V_nil _ _ _ _ _ | exact Kd.Q_nil _ _ _ _ _ | exact Kd.R_nil _ _ _ _ _) : p := h
/-! ### spec_l2Set: function 24 -/
mutual
def spec_l2Set.l0 : Nat → List (S31) → List (S31) → Int → Option ((List (S31)) × Int)
 | 0, _, _, _ => none
 | k + 1, x0, x4, x5 => if x5 < (x0.length : Int) then (if 0 ≤ x5 then ((spec_l2Put.f k x4 ((rd_T31 x0 x5).f0) ((rd_T31 x0 x5).f1)).bind fun t182 => (spec_l2Set.l0 k x0 t182 (wrap64 (x5 + 1)))) else (none)) else (spec_l2Set.l1 k x4 (([] : List (S31))) 0)
def spec_l2Set.l1 : Nat → List (S31) → List (S31) → Int → Option ((List (S31)) × Int)
 | 0, _, _, _ => none
 | k + 1, x4, x6, x7 => if x7 < (x4.length : Int) then (if 0 ≤ x7 then ((spec_l1Weight.f ((rd_T31 x4 x7).f1)).bind fun t189 => (if t189 = true then (if ((rd_T31 x4 x7).f1) = 0 then (spec_l2Set.l1 k x4 x6 (wrap64 (x7 + 1))) else (if x6.length < 4398046511104 then (spec_l2Set.l1 k x4 (x6 ++ [(⟨(rd_T31 x4 x7).f0, (rd_T31 x4 x7).f1⟩ : S31)]) (wrap64 (x7 + 1))) else (none))) else (some (([] : List (S31)), 8)))) else (none)) else (if (x6.length : Int) > 200 then (some (([] : List (S31)), 2)) else (some (x6, 0)))
end
def spec_l2Set.f (k : Nat) (l0 : List (S31)) : Option ((List (S31)) × Int) := spec_l2Set.l0 k l0 (([] : List (S31))) 0
theorem spec_l2Set.mono_l : ∀ k, (∀ y0 y1 y2, LeO (spec_l2Set.l0 k y0 y1 y2) (spec_l2Set.l0 (k + 1) y0 y1 y2)) ∧ (∀ y0 y1 y2, LeO (spec_l2Set.l1 k y0 y1 y2) (spec_l2Set.l1 (k + 1) y0 y1 y2))
 | 0 => ⟨fun _ _ _ r h => by simp [spec_l2Set.l0] at h, fun _ _ _ r h => by simp [spec_l2Set.l1] at h⟩
 | k + 1 => by
  obtain ⟨ih0, ih1⟩ := spec_l2Set.mono_l k
  refine ⟨?_, ?_⟩
  ·intro y0 y1 y2
   unfold spec_l2Set.l0
   repeat' first
   | (with_reducible exact ih0 _ _ _)
   | (with_reducible exact ih1 _ _ _)
   | (with_reducible exact spec_l2Put.mono _ _ _ _)
   | (with_reducible exact LeO.refl _)
   | (with_reducible exact LeO.none _)
   | (with_reducible refine LeO.ite ?_ ?_)
   | (with_reducible refine LeO.bind ?_ (fun _ => ?_))
   | exact ih0 _ _ _
   | exact ih1 _ _ _
   | exact spec_l2Put.mono _ _ _ _
   | exact LeO.none _
   | refine LeO.ite ?_ ?_
   | refine LeO.bind ?_ (fun _ => ?_)
  ·intro y0 y1 y2
   unfold spec_l2Set.l1
   repeat' first
   | (with_reducible exact ih0 _ _ _)
   | (with_reducible exact ih1 _ _ _)
   | (with_reducible exact spec_l2Put.mono _ _ _ _)
   | (with_reducible exact LeO.refl _)
   | (with_reducible exact LeO.none _)
   | (with_reducible refine LeO.ite ?_ ?_)
   | (with_reducible refine LeO.bind ?_ (fun _ => ?_))
   | exact ih0 _ _ _
   | exact ih1 _ _ _
   | exact spec_l2Put.mono _ _ _ _
   | exact LeO.none _
   | refine LeO.ite ?_ ?_
   | refine LeO.bind ?_ (fun _ => ?_)
theorem spec_l2Set.mono : ∀ a0 k, LeO (spec_l2Set.f k a0) (spec_l2Set.f (k + 1) a0) := by
 intro a0 k
 obtain ⟨ih0, ih1⟩ := spec_l2Set.mono_l k
 unfold spec_l2Set.f
 repeat' first
   | (with_reducible exact ih0 _ _ _)
   | (with_reducible exact ih1 _ _ _)
   | (with_reducible exact spec_l2Put.mono _ _ _ _)
   | (with_reducible exact LeO.refl _)
   | (with_reducible exact LeO.none _)
   | (with_reducible refine LeO.ite ?_ ?_)
   | (with_reducible refine LeO.bind ?_ (fun _ => ?_))
   | exact ih0 _ _ _
   | exact ih1 _ _ _
   | exact spec_l2Put.mono _ _ _ _
   | exact LeO.none _
   | refine LeO.ite ?_ ?_
   | refine LeO.bind ?_ (fun _ => ?_)
set_option maxHeartbeats 8000000 in
set_option maxRecDepth 100000 in
theorem spec_l2Set.calls (k : Nat) (A0 : Option Addr) (c0 : Nat) (l0 : List (S31)) (r1 : List (S31)) (r2 : Int) (w : World) (hr0 : Kd.C k31 w A0 l0.length l0) (hc0 : l0.length ≤ c0) (h : spec_l2Set.f k l0 = some (r1, r2)) :
  Calls Tryd.prog 24 #[.slice A0 l0.length c0] w fun e w' => ∃ v0_ : Value, e = .returned (.tuple #[v0_, .int .i64 r2]) ∧ Kd.N k31 31 w' w.heap.size (fun k_ => (w.heap.size ≤ k_)) v0_ r1 ∧ Below w.heap.size w w' := by
 have huE_ := Tryd.underlying31
 have HR0 := Aside0.mk hr0
 have HC0 := Aside0.mk hc0
 clear hr0 hc0
 have HB := Aside0.mk (Below.refl w.heap.size w)
 have H : (spec_l2Set.l0 k l0 (([] : List (S31))) 0) = some (r1, r2) := h
 clear h
 obtain ⟨y178, hy_⟩ : ∃ y_ : List (S31), y_ = (([] : List (S31))) := ⟨_, rfl⟩
 replace H : (spec_l2Set.l0 k l0 y178 0) = some (r1, r2) := yb_
 have Ny178 := Aside0.mk hy_
 clear hy_
 have H' := Aside0.mk H
 clear H
 go_enter Tryd.func24, Tryd.ntmps24
 go_wp2_with (first | ((with_reducible refine gate_dst (N := 8) rfl ?_); refine Kd.N_lit k31 _ 31 ?hg (N' := 8) ?hd (xs := ([] : List (S31))) (inner := []) (ok := (fun k_ => (w.heap.size ≤ k_))) (okp := (fun k_ => (w.heap.size ≤ k_))) ?hr ?hp (fun _ hk => hk) ((show ∀ k_, w.heap.size ≤ k_ → (fun k_ => (w.heap.size ≤ k_)) k_ from fun k_ hk => (Nat.le_trans (below_size cB0_) hk)) _ (Nat.le_refl _)) (Below.refl _ _) (Nat.le_refl _) (by simp) ?_; (case hd => rfl); (case hg => rfl); (case hr => first | (go_simp; done) | (go_simp; rfl)); (case hp => exact (Reps.none _ _)); intro v179 w2 ho3 hb hg_ hnew_; clear hg_ hnew_; (first | rw [← Ny178.out] at ho3 | (simp only [Int.reduceToNat] at ho3; rw [← Ny178.out] at ho3)); have HO180 := Aside0.mk (Kd.N_lower ho3 (below_size cB0_)); replace HB := Aside0.mk (below_step cB0_ hb); clear hb ho3))
 go_loopg [4, 5] k (fun kq v4 v5 w' => ∃ (x4_1 : List (S31)) (x5_1 : Int), v5 = .int .i64 x5_1 ∧ Aside0 (spec_l2Set.l0 kq l0 x4_1 x5_1 = some (r1, r2)) ∧ Aside0 (kq ≤ k) ∧ Aside0 (Kd.N k31 31 w' w.heap.size (fun k_ => (w.heap.size ≤ k_)) v4 x4_1) ∧ Aside0 (Below w.heap.size w w'))
 case atStart => exact ⟨(y178), (0), cs_, H', ⟨Nat.le_refl _⟩, ⟨cN_ HO180.out⟩, ⟨cB0_⟩⟩
 case round =>
  clear H'
  try clear p2
  obtain ⟨x4_1, x5_1, rfl, HA, HK1, HO_4, HB⟩ := hrel
  cases gk with
  | zero => exact absurd HA.out (by simp [spec_l2Set.l0])
  | succ k1 =>
   have H := HA.out
   clear HA
   simp only [spec_l2Set.l0] at H
   by_cases c4 : x5_1 < (l0.length : Int)
   ·rw [if_pos c4] at H
    have c4b0 : decide (x5_1 < (l0.length : Int)) = true := decide_eq_true c4
    clear c4
    by_cases c5 : 0 ≤ x5_1
    rotate_left
    ·rw [if_neg c5] at H
     exact absurd H (by simp)
    rw [if_pos c5] at H
    have c5b0 : decide (0 ≤ x5_1) = true := decide_eq_true c5
    clear c5
    obtain ⟨t182, A6, H⟩ := bnd_ H
    try dsimp only at H
    have H' := Aside0.mk H
    clear H
    have p181 : 0 ≤ (x5_1 : Int) := of_decide_eq_true ca_
    have q181 : x5_1 < (l0.length : Int) := of_decide_eq_true ca_
    obtain ⟨ad181, A181_0, c181_0, e181, hx181_0, hx181_1, hl181_0, hi181_0⟩ := at_T31 HR0.out x5_1 p181 q181
    cases e181
    replace hx181_0 := (HB.out.cell (World.block_lt_of_cell? w _ hx181_0)).trans hx181_0
    replace hx181_1 := (HB.out.cell (World.block_lt_of_cell? w _ hx181_1)).trans hx181_1
    have HR181_0 := Aside0.mk hi181_0
    have HC181_0 := Aside0.mk hl181_0
    clear hi181_0 hl181_0
    replace p181 := eq_true p181
    replace q181 := eq_true q181
    obtain ⟨Ao7, co7, eo7⟩ := Kd.N_slice HO_4.out
    subst eo7
    go_wp2_with (first | (refine gl_ 42 (some 20) Tryd.func42 #[.slice Ao7 x4_1.length co7, .agg #[.slice A181_0 ((rd_T31 l0 x5_1).f0).length c181_0, .int .i64 ((rd_T31 l0 x5_1).f1)]] ?_; (with_reducible refine (spec_l2Put.calls k1 _ x4_1 _ _ ((rd_T31 l0 x5_1).f0) ((rd_T31 l0 x5_1).f1) t182 w _ ?side1 ?side2 ?side3 ?side4 A6.out).mono ?_); (case side1 => exact cB0_); (case side2 => exact (by exact cN_ HO_4.out)); (case side3 => exact HR181_0.out); (case side4 => exact HC181_0.out); rintro e w8 ⟨v183, rfl, ho0, hb⟩; refine ⟨_, rfl, ?_⟩; have n1_ := Aside0.mk ho0; have n2_ := Aside0.mk hb; clear HO_4; clear HB; have HO184 := n1_; have HB := n2_; clear n1_ n2_; (try clear hb); (try clear ho0)))
    go_roundg k1
    case measure => have := HK1.out; omega
    case rel => exact ⟨(t182), (wrap64 (x5_1 + 1)), cs_, H', ⟨co_ HK1.out⟩, ⟨cN_ HO184.out⟩, ⟨cB0_⟩⟩
   rw [if_neg c4] at H
   have c4b0 : decide (x5_1 < (l0.length : Int)) = false := decide_eq_false c4
   clear c4
   obtain ⟨y185, hy_⟩ : ∃ y_ : List (S31), y_ = (([] : List (S31))) := ⟨_, rfl⟩
   replace H : (spec_l2Set.l1 k1 x4_1 y185 0) = some (r1, r2) := yb_
   have Ny185 := Aside0.mk hy_
   clear hy_
   have H' := Aside0.mk H
   clear H
   go_wp2_with (first | ((with_reducible refine gate_dst (N := 21) rfl ?_); refine Kd.N_lit k31 _ 31 ?hg (N' := 21) ?hd (xs := ([] : List (S31))) (inner := []) (ok := (fun k_ => (w.heap.size ≤ k_) ∧ some k_ ≠ (u4 : Value).ownBlock)) (okp := (fun k_ => (w.heap.size ≤ k_) ∧ some k_ ≠ (u4 : Value).ownBlock)) ?hr ?hp (fun _ hk => hk) ((show ∀ k_, wr.heap.size ≤ k_ → (fun k_ => (w.heap.size ≤ k_) ∧ some k_ ≠ (u4 : Value).ownBlock) k_ from fun k_ hk => ⟨(Nat.le_trans (below_size cB0_) hk), Kd.fresh' (Kd.N_lt (cN_ HO_4.out)) k_ hk⟩) _ (Nat.le_refl _)) (Below.refl _ _) (Nat.le_refl _) (by simp) ?_; (case hd => rfl); (case hg => rfl); (case hr => first | (go_simp; done) | (go_simp; rfl)); (case hp => exact (Reps.none _ _)); intro v186 w9 ho10 hb hg_ hnew_; clear hg_ hnew_; (first | rw [← Ny185.out] at ho10 | (simp only [Int.reduceToNat] at ho10; rw [← Ny185.out] at ho10)); replace HO_4 := Aside0.mk (Kd.N_elder' (cN_ HO_4.out) (Kd.N_base ho10) hb); have HO187 := Aside0.mk (Kd.N_lower ho10 (below_size cB0_)); replace HB := Aside0.mk (below_step cB0_ hb); clear hb ho10))
   go_loopg [6, 7] k1 (fun kq v6 v7 w' => ∃ (x6_2 : List (S31)) (x7_2 : Int), v7 = .int .i64 x7_2 ∧ Aside0 (spec_l2Set.l1 kq x4_1 x6_2 x7_2 = some (r1, r2)) ∧ Aside0 (kq ≤ k1) ∧ Aside0 (Kd.N k31 31 w' w.heap.size (fun k_ => (w.heap.size ≤ k_) ∧ some k_ ≠ (v6 : Value).ownBlock) u4 x4_1) ∧ Aside0 (Kd.N k31 31 w' w.heap.size (fun k_ => (w.heap.size ≤ k_) ∧ some k_ ≠ (u4 : Value).ownBlock) v6 x6_2) ∧ Aside0 (Below w.heap.size w w'))
   case atStart => exact ⟨(y185), (0), cs_, H', ⟨Nat.le_refl _⟩, ⟨cN_ HO_4.out⟩, ⟨cN_ HO187.out⟩, ⟨cB0_⟩⟩
   case round =>
    clear H'
    try clear c1
    try clear p1
    try clear q1
    try clear hx1
    try clear p2
    try clear c4
    try clear c4b0
    try clear c5
    try clear c5b0
    try clear p6
    try clear c9
    try clear hx181_0
    try clear hx181_1
    try clear p181
    try clear p2
    try clear q181
    obtain ⟨x6_2, x7_2, rfl, HA, HK2, HO_4, HO_6, HB⟩ := hrel
    cases gk with
    | zero => exact absurd HA.out (by simp [spec_l2Set.l1])
    | succ k2 =>
     have H := HA.out
     clear HA
     simp only [spec_l2Set.l1] at H
     by_cases c11 : x7_2 < (x4_1.length : Int)
     rotate_left
     ·rw [if_neg c11] at H
      have c11b0 : decide (x7_2 < (x4_1.length : Int)) = false := decide_eq_false c11
      clear c11
      by_cases c21 : (x6_2.length : Int) > 200
      ·rw [if_pos c21] at H
       have c21b0 : decide (200 < (x6_2.length : Int)) = true := decide_eq_true c21
       have c21b1 : decide (200 < x6_2.length) = true := decide_eq_true (by omega)
       clear c21
       simp only [Option.some.injEq, Prod.mk.injEq] at H
       obtain ⟨rfl, rfl⟩ := H
       obtain ⟨Ao22, co22, eo22⟩ := Kd.N_slice HO_4.out
       subst eo22
       obtain ⟨Ao23, co23, eo23⟩ := Kd.N_slice HO_6.out
       subst eo23
       go_wp2
       go_ret2
       exact ⟨_, ce_, q7_0, cB0_⟩
      rw [if_neg c21] at H
      have c21b0 : decide (200 < (x6_2.length : Int)) = false := decide_eq_false c21
      have c21b1 : decide (200 < x6_2.length) = false := decide_eq_false (by omega)
      clear c21
      simp only [Option.some.injEq, Prod.mk.injEq] at H
      obtain ⟨rfl, rfl⟩ := H
      obtain ⟨Ao24, co24, eo24⟩ := Kd.N_slice HO_4.out
      subst eo24
      obtain ⟨Ao25, co25, eo25⟩ := Kd.N_slice HO_6.out
      subst eo25
      go_wp2
      go_ret2
      exact ⟨_, ce_, by refine cN_ ?_; exact Kd.N_mono HO_6.out (fun _ hk => hk.1), cB0_⟩
     rw [if_pos c11] at H
     have c11b0 : decide (x7_2 < (x4_1.length : Int)) = true := decide_eq_true c11
     clear c11
     by_cases c12 : 0 ≤ x7_2
     rotate_left
     ·rw [if_neg c12] at H
      exact absurd H (by simp)
     rw [if_pos c12] at H
     have c12b0 : decide (0 ≤ x7_2) = true := decide_eq_true c12
     clear c12
     obtain ⟨t189, A13, H⟩ := bnd_ H
     try dsimp only at H
     by_cases c14 : t189 = true
     rotate_left
     ·replace c14 := Bool.eq_false_iff.mpr c14
      subst c14
      rw [if_neg (show ¬ (false = true) by decide)] at H
      simp only [Option.some.injEq, Prod.mk.injEq] at H
      obtain ⟨rfl, rfl⟩ := H
      obtain ⟨Ao20, co20, eo20⟩ := Kd.N_slice HO_4.out
      subst eo20
      have p188 : 0 ≤ (x7_2 : Int) := of_decide_eq_true ca_
      have q188 : x7_2 < (x4_1.length : Int) := of_decide_eq_true ca_
      obtain ⟨ad188, A188_0, c188_0, e188, hx188_0, hx188_1, hl188_0, hi188_0⟩ := at_T31 (Kd.N_reads' HO_4.out).2.2 x7_2 p188 q188
      cases e188
      obtain ⟨ce188, hce188, hMe188, hcc188⟩ := Kd.N_get HO_4.out z31 x7_2 p188 (by first | exact q188 | exact of_decide_eq_true ca_ | (have e_ := (Kd.N_reads' HO_4.out).1; omega))
      obtain ⟨ua188_0, uc188_0, rfl, ul188_0, ge188_0⟩ := k31_openF hMe188
      have hv188_0 := hcc188 0 _ rfl
      rw [Nat.add_zero] at hv188_0
      replace hv188_0 := Option.some.inj (hv188_0.symm.trans hx188_0)
      injection hv188_0 with hva_ hvn_ hvc_
      rw [hva_] at ge188_0
      rw [hvc_] at ul188_0
      have HL188_0 := Aside0.mk (show Kd.V (Kd.int .i64) 2 _ w.heap.size _ _ ((rd_T31 x4_1 x7_2).f0) from Kd.V_mk ul188_0 ge188_0)
      clear hva_ hvn_ hvc_ ge188_0 ul188_0
      clear hcc188 hce188
      have HR188_0 := Aside0.mk hi188_0
      have HC188_0 := Aside0.mk hl188_0
      clear hi188_0 hl188_0
      replace p188 := eq_true p188
      replace q188 := eq_true q188
      go_wp2_with (first | (refine gl_ 23 (some 33) Tryd.func23 #[.int .i64 ((rd_T31 x4_1 x7_2).f1)] ?_; (with_reducible refine (spec_l1Weight.calls ((rd_T31 x4_1 x7_2).f1) false _ A13.out).mono ?_); rintro e w' ⟨rfl, ⟨nd, rfl⟩⟩; refine ⟨_, rfl, ?_⟩))
      go_ret2
      exact ⟨_, ce_, q7_0, cB0_⟩
     subst c14
     rw [if_pos rfl] at H
     by_cases c15 : ((rd_T31 x4_1 x7_2).f1) = 0
     ·rw [if_pos c15] at H
      have c15b0 : (((rd_T31 x4_1 x7_2).f1) == 0) = true := beq_iff_eq.mpr c15
      have c15b1 : (((rd_T31 x4_1 x7_2).f1) != 0) = false := bne_eq_false_iff_eq.mpr c15
      clear c15
      have H' := Aside0.mk H
      clear H
      obtain ⟨Ao16, co16, eo16⟩ := Kd.N_slice HO_4.out
      subst eo16
      have p188 : 0 ≤ (x7_2 : Int) := of_decide_eq_true ca_
      have q188 : x7_2 < (x4_1.length : Int) := of_decide_eq_true ca_
      obtain ⟨ad188, A188_0, c188_0, e188, hx188_0, hx188_1, hl188_0, hi188_0⟩ := at_T31 (Kd.N_reads' HO_4.out).2.2 x7_2 p188 q188
      cases e188
      obtain ⟨ce188, hce188, hMe188, hcc188⟩ := Kd.N_get HO_4.out z31 x7_2 p188 (by first | exact q188 | exact of_decide_eq_true ca_ | (have e_ := (Kd.N_reads' HO_4.out).1; omega))
      obtain ⟨ua188_0, uc188_0, rfl, ul188_0, ge188_0⟩ := k31_openF hMe188
      have hv188_0 := hcc188 0 _ rfl
      rw [Nat.add_zero] at hv188_0
      replace hv188_0 := Option.some.inj (hv188_0.symm.trans hx188_0)
      injection hv188_0 with hva_ hvn_ hvc_
      rw [hva_] at ge188_0
      rw [hvc_] at ul188_0
      have HL188_0 := Aside0.mk (show Kd.V (Kd.int .i64) 2 _ w.heap.size _ _ ((rd_T31 x4_1 x7_2).f0) from Kd.V_mk ul188_0 ge188_0)
      clear hva_ hvn_ hvc_ ge188_0 ul188_0
      clear hcc188 hce188
      have HR188_0 := Aside0.mk hi188_0
      have HC188_0 := Aside0.mk hl188_0
      clear hi188_0 hl188_0
      replace p188 := eq_true p188
      replace q188 := eq_true q188
      go_wp2_with (first | (refine gl_ 23 (some 33) Tryd.func23 #[.int .i64 ((rd_T31 x4_1 x7_2).f1)] ?_; (with_reducible refine (spec_l1Weight.calls ((rd_T31 x4_1 x7_2).f1) true _ A13.out).mono ?_); rintro e w' ⟨rfl, ⟨nd, rfl⟩⟩; refine ⟨_, rfl, ?_⟩; have p190 : 0 ≤ (x7_2 : Int) := of_decide_eq_true ca_; have q190 : x7_2 < (x4_1.length : Int) := of_decide_eq_true ca_; obtain ⟨ad190, A190_0, c190_0, e190, hx190_0, hx190_1, hl190_0, hi190_0⟩ := at_T31 (Kd.N_reads' HO_4.out).2.2 x7_2 p190 q190; obtain rfl : ad188 = ad190 := (by injection e190); obtain ⟨ce190, hce190, hMe190, hcc190⟩ := Kd.N_get HO_4.out z31 x7_2 p190 (by first | exact q190 | exact of_decide_eq_true ca_ | (have e_ := (Kd.N_reads' HO_4.out).1; omega)); obtain ⟨ua190_0, uc190_0, rfl, ul190_0, ge190_0⟩ := k31_openF hMe190; have hv190_0 := hcc190 0 _ rfl; rw [Nat.add_zero] at hv190_0; replace hv190_0 := Option.some.inj (hv190_0.symm.trans hx190_0); injection hv190_0 with hva_ hvn_ hvc_; rw [hva_] at ge190_0; rw [hvc_] at ul190_0; have HL190_0 := Aside0.mk (show Kd.V (Kd.int .i64) 2 _ w.heap.size _ _ ((rd_T31 x4_1 x7_2).f0) from Kd.V_mk ul190_0 ge190_0); clear hva_ hvn_ hvc_ ge190_0 ul190_0; clear hcc190 hce190; have HR190_0 := Aside0.mk hi190_0; have HC190_0 := Aside0.mk hl190_0; clear hi190_0 hl190_0; replace p190 := eq_true p190; replace q190 := eq_true q190; have ea_ := Option.some.inj (hx188_0.symm.trans hx190_0); injection ea_ with ea_ en_ ec_; subst ea_; subst ec_; clear en_))
      go_roundg k2
      case measure => have := HK1.out; have := HK2.out; omega
      case rel => exact ⟨(x6_2), (wrap64 (x7_2 + 1)), cs_, H', ⟨by have := HK1.out; have := HK2.out; omega⟩, ⟨cN_ HO_4.out⟩, ⟨cN_ HO_6.out⟩, ⟨cB0_⟩⟩
     rw [if_neg c15] at H
     have c15b0 : (((rd_T31 x4_1 x7_2).f1) == 0) = false := beq_eq_false_iff_ne.mpr c15
     have c15b1 : (((rd_T31 x4_1 x7_2).f1) != 0) = true := bne_iff_ne.mpr c15
     by_cases c17 : x6_2.length < 4398046511104
     rotate_left
     ·rw [if_neg c17] at H
      exact absurd H (by simp)
     rw [if_pos c17] at H
     have LMc17 := Aside0.mk c17
     clear c17
     obtain ⟨y192, hy_⟩ : ∃ y_ : List (S31), y_ = (x6_2 ++ [(⟨(rd_T31 x4_1 x7_2).f0, (rd_T31 x4_1 x7_2).f1⟩ : S31)]) := ⟨_, rfl⟩
     replace H : (spec_l2Set.l1 k2 x4_1 y192 (wrap64 (x7_2 + 1))) = some (r1, r2) := yb_
     have Ny192 := Aside0.mk hy_
     clear hy_
     have H' := Aside0.mk H
     clear H
     obtain ⟨Ao18, co18, eo18⟩ := Kd.N_slice HO_4.out
     subst eo18
     have p188 : 0 ≤ (x7_2 : Int) := of_decide_eq_true ca_
     have q188 : x7_2 < (x4_1.length : Int) := of_decide_eq_true ca_
     obtain ⟨ad188, A188_0, c188_0, e188, hx188_0, hx188_1, hl188_0, hi188_0⟩ := at_T31 (Kd.N_reads' HO_4.out).2.2 x7_2 p188 q188
     cases e188
     obtain ⟨ce188, hce188, hMe188, hcc188⟩ := Kd.N_get HO_4.out z31 x7_2 p188 (by first | exact q188 | exact of_decide_eq_true ca_ | (have e_ := (Kd.N_reads' HO_4.out).1; omega))
     obtain ⟨ua188_0, uc188_0, rfl, ul188_0, ge188_0⟩ := k31_openF hMe188
     have hv188_0 := hcc188 0 _ rfl
     rw [Nat.add_zero] at hv188_0
     replace hv188_0 := Option.some.inj (hv188_0.symm.trans hx188_0)
     injection hv188_0 with hva_ hvn_ hvc_
     rw [hva_] at ge188_0
     rw [hvc_] at ul188_0
     have HL188_0 := Aside0.mk (show Kd.V (Kd.int .i64) 2 _ w.heap.size _ _ ((rd_T31 x4_1 x7_2).f0) from Kd.V_mk ul188_0 ge188_0)
     clear hva_ hvn_ hvc_ ge188_0 ul188_0
     clear hcc188 hce188
     have HR188_0 := Aside0.mk hi188_0
     have HC188_0 := Aside0.mk hl188_0
     clear hi188_0 hl188_0
     replace p188 := eq_true p188
     replace q188 := eq_true q188
     go_wp2_with (first | (refine gl_ 23 (some 33) Tryd.func23 #[.int .i64 ((rd_T31 x4_1 x7_2).f1)] ?_; (with_reducible refine (spec_l1Weight.calls ((rd_T31 x4_1 x7_2).f1) true _ A13.out).mono ?_); rintro e w' ⟨rfl, ⟨nd, rfl⟩⟩; refine ⟨_, rfl, ?_⟩; have p190 : 0 ≤ (x7_2 : Int) := of_decide_eq_true ca_; have q190 : x7_2 < (x4_1.length : Int) := of_decide_eq_true ca_; obtain ⟨ad190, A190_0, c190_0, e190, hx190_0, hx190_1, hl190_0, hi190_0⟩ := at_T31 (Kd.N_reads' HO_4.out).2.2 x7_2 p190 q190; obtain rfl : ad188 = ad190 := (by injection e190); obtain ⟨ce190, hce190, hMe190, hcc190⟩ := Kd.N_get HO_4.out z31 x7_2 p190 (by first | exact q190 | exact of_decide_eq_true ca_ | (have e_ := (Kd.N_reads' HO_4.out).1; omega)); obtain ⟨ua190_0, uc190_0, rfl, ul190_0, ge190_0⟩ := k31_openF hMe190; have hv190_0 := hcc190 0 _ rfl; rw [Nat.add_zero] at hv190_0; replace hv190_0 := Option.some.inj (hv190_0.symm.trans hx190_0); injection hv190_0 with hva_ hvn_ hvc_; rw [hva_] at ge190_0; rw [hvc_] at ul190_0; have HL190_0 := Aside0.mk (show Kd.V (Kd.int .i64) 2 _ w.heap.size _ _ ((rd_T31 x4_1 x7_2).f0) from Kd.V_mk ul190_0 ge190_0); clear hva_ hvn_ hvc_ ge190_0 ul190_0; clear hcc190 hce190; have HR190_0 := Aside0.mk hi190_0; have HC190_0 := Aside0.mk hl190_0; clear hi190_0 hl190_0; replace p190 := eq_true p190; replace q190 := eq_true q190; have ea_ := Option.some.inj (hx188_0.symm.trans hx190_0); injection ea_ with ea_ en_ ec_; subst ea_; subst ec_; clear en_; have p191 : 0 ≤ (x7_2 : Int) := of_decide_eq_true ca_; have q191 : x7_2 < (x4_1.length : Int) := of_decide_eq_true ca_; obtain ⟨ad191, A191_0, c191_0, e191, hx191_0, hx191_1, hl191_0, hi191_0⟩ := at_T31 (Kd.N_reads' HO_4.out).2.2 x7_2 p191 q191; obtain rfl : ad188 = ad191 := (by injection e191); obtain ⟨ce191, hce191, hMe191, hcc191⟩ := Kd.N_get HO_4.out z31 x7_2 p191 (by first | exact q191 | exact of_decide_eq_true ca_ | (have e_ := (Kd.N_reads' HO_4.out).1; omega)); obtain ⟨ua191_0, uc191_0, rfl, ul191_0, ge191_0⟩ := k31_openF hMe191; have hv191_0 := hcc191 0 _ rfl; rw [Nat.add_zero] at hv191_0; replace hv191_0 := Option.some.inj (hv191_0.symm.trans hx191_0); injection hv191_0 with hva_ hvn_ hvc_; rw [hva_] at ge191_0; rw [hvc_] at ul191_0; have HL191_0 := Aside0.mk (show Kd.V (Kd.int .i64) 2 _ w.heap.size _ _ ((rd_T31 x4_1 x7_2).f0) from Kd.V_mk ul191_0 ge191_0); clear hva_ hvn_ hvc_ ge191_0 ul191_0; clear hcc191 hce191; have HR191_0 := Aside0.mk hi191_0; have HC191_0 := Aside0.mk hl191_0; clear hi191_0 hl191_0; replace p191 := eq_true p191; replace q191 := eq_true q191; have ea_ := Option.some.inj (hx188_0.symm.trans hx191_0); injection ea_ with ea_ en_ ec_; subst ea_; subst ec_; clear en_) | ((with_reducible refine gate_builtin (b := .append) (xs := #[.tmp 41, .tmp 46]) rfl ?_); at_builtin; refine Kd.N_append k31 (w0 := w) w.heap.size rfl (.tmp 41) (.tmp 46) 24 31 (.agg #[(.slice none 0 0), (.int .i64 0)]) 32 rfl Tryd.underlying24 info31 rfl (by decide) (by omega) u6 x6_2 (⟨(rd_T31 x4_1 x7_2).f0, (rd_T31 x4_1 x7_2).f1⟩ : S31) [.slice A188_0 ((rd_T31 x4_1 x7_2).f0).length c188_0, .int .i64 ((rd_T31 x4_1 x7_2).f1)] (fun k_ => (w.heap.size ≤ k_) ∧ some k_ ≠ (.slice (some ad188) x4_1.length co18 : Value).ownBlock) (fun k_ => ((fun k_ => (w.heap.size ≤ k_) ∧ some k_ ≠ (.slice (some ad188) x4_1.length co18 : Value).ownBlock)) k_ ∧ some k_ ≠ (u6 : Value).ownBlock) rfl rfl ?aP (fun _ hk => hk) ?aF ?aO ?aB ?aS ?aL ?_; (case aP => exact (by exact (k31_mkF _ _ (⟨(rd_T31 x4_1 x7_2).f0, (rd_T31 x4_1 x7_2).f1⟩ : S31) (Kd.V_reads' (Kd.V_mono (ok' := (fun k_ => ((fun k_ => (w.heap.size ≤ k_) ∧ some k_ ≠ (.slice (some ad188) x4_1.length co18 : Value).ownBlock)) k_ ∧ some k_ ≠ (u6 : Value).ownBlock)) (HL191_0.out) (fun k_ hk => ⟨⟨hk.1.1, hk.2⟩, hk.1.2⟩))).2.1 (Kd.V_F (by refine cV_ ?_; exact Kd.V_mono (ok' := (fun k_ => ((fun k_ => (w.heap.size ≤ k_) ∧ some k_ ≠ (.slice (some ad188) x4_1.length co18 : Value).ownBlock)) k_ ∧ some k_ ≠ (u6 : Value).ownBlock)) (HL191_0.out) (fun k_ hk => ⟨⟨hk.1.1, hk.2⟩, hk.1.2⟩)))))); (case aB => exact cB0_); (case aF => exact (by exact (fun k_ hk => ⟨(Nat.le_trans (below_size cB0_) hk), Kd.fresh' (Kd.N_lt (cN_ HO_4.out)) k_ hk⟩))); (case aO => exact (by exact cN_ HO_6.out)); (case aS => exact (by exact (below_size cB0_))); (case aL => exact co_ LMc17.out); intro v193 w19 ho hb hg hat; rw [← Ny192.out] at ho; replace HO_4 := Aside0.mk (Kd.N_afterv (ok := (fun k_ => (w.heap.size ≤ k_))) (cN_ HO_4.out) hg hat); replace HL188_0 := Aside0.mk (Kd.V_afterv (ok := (fun k_ => (w.heap.size ≤ k_) ∧ some k_ ≠ (.slice (some ad188) x4_1.length co18 : Value).ownBlock)) (by refine cV_ ?_; exact Kd.V_mono HL188_0.out (fun _ hk => ⟨⟨hk.1.1, hk.2⟩, hk.1.2⟩)) hg hat); replace HL190_0 := Aside0.mk (Kd.V_afterv (ok := (fun k_ => (w.heap.size ≤ k_) ∧ some k_ ≠ (.slice (some ad188) x4_1.length co18 : Value).ownBlock)) (by refine cV_ ?_; exact Kd.V_mono HL190_0.out (fun _ hk => ⟨⟨hk.1.1, hk.2⟩, hk.1.2⟩)) hg hat); replace HL191_0 := Aside0.mk (Kd.V_afterv (ok := (fun k_ => (w.heap.size ≤ k_) ∧ some k_ ≠ (.slice (some ad188) x4_1.length co18 : Value).ownBlock)) (by refine cV_ ?_; exact Kd.V_mono HL191_0.out (fun _ hk => ⟨⟨hk.1.1, hk.2⟩, hk.1.2⟩)) hg hat); replace HB := Aside0.mk (hb); have HO194 := Aside0.mk (ho); clear HO_6; clear ho hb hg hat))
     go_roundg k2
     case measure => have := HK1.out; have := HK2.out; omega
     case rel => exact ⟨(y192), (wrap64 (x7_2 + 1)), cs_, H', ⟨by have := HK1.out; have := HK2.out; omega⟩, ⟨cN_ HO_4.out⟩, ⟨cN_ HO194.out⟩, ⟨cB0_⟩⟩


/-! ### spec_Consolidate: function 7 -/
def spec_Consolidate.l0 : Nat → List (S31) → Int → Option (Int × (List (S31)))
 | 0, _, _ => none
 | k + 1, x0, x3 => if x3 < (x0.length : Int) then (if 0 ≤ x3 then ((spec_RowFault.f k ((rd_T31 x0 x3).f0)).bind fun t282 => (if t282 = 0 then ((spec_l1Weight.f ((rd_T31 x0 x3).f1)).bind fun t284 => (if t284 = true then (spec_Consolidate.l0 k x0 (wrap64 (x3 + 1))) else (some (3, ([] : List (S31)))))) else (some (t282, ([] : List (S31)))))) else (none)) else ((spec_l2Set.f k x0).bind fun bt277 => (some (bt277.2, bt277.1)))
def spec_Consolidate.f (k : Nat) (l0 : List (S31)) : Option (Int × (List (S31))) := if (l0.length : Int) > 800 then (some (2, ([] : List (S31)))) else (spec_Consolidate.l0 k l0 0)
theorem spec_Consolidate.mono_l : ∀ k, (∀ y0 y1, LeO (spec_Consolidate.l0 k y0 y1) (spec_Consolidate.l0 (k + 1) y0 y1))
 | 0 => fun _ _ r h => by simp [spec_Consolidate.l0] at h
 | k + 1 => by
  have ih0 := spec_Consolidate.mono_l k
  ·intro y0 y1
   unfold spec_Consolidate.l0
   repeat' first
   | (with_reducible exact ih0 _ _)
   | (with_reducible exact spec_RowFault.mono _ _)
   | (with_reducible exact spec_l2Set.mono _ _)
   | (with_reducible exact LeO.refl _)
   | (with_reducible exact LeO.none _)
   | (with_reducible refine LeO.ite ?_ ?_)
   | (with_reducible refine LeO.bind ?_ (fun _ => ?_))
   | exact ih0 _ _
   | exact spec_RowFault.mono _ _
   | exact spec_l2Set.mono _ _
   | exact LeO.none _
   | refine LeO.ite ?_ ?_
   | refine LeO.bind ?_ (fun _ => ?_)
theorem spec_Consolidate.mono : ∀ a0 k, LeO (spec_Consolidate.f k a0) (spec_Consolidate.f (k + 1) a0) := by
 intro a0 k
 have ih0 := spec_Consolidate.mono_l k
 unfold spec_Consolidate.f
 repeat' first
   | (with_reducible exact ih0 _ _)
   | (with_reducible exact spec_RowFault.mono _ _)
   | (with_reducible exact spec_l2Set.mono _ _)
   | (with_reducible exact LeO.refl _)
   | (with_reducible exact LeO.none _)
   | (with_reducible refine LeO.ite ?_ ?_)
   | (with_reducible refine LeO.bind ?_ (fun _ => ?_))
   | exact ih0 _ _
   | exact spec_RowFault.mono _ _
   | exact spec_l2Set.mono _ _
   | exact LeO.none _
   | refine LeO.ite ?_ ?_
   | refine LeO.bind ?_ (fun _ => ?_)
set_option maxHeartbeats 8000000 in
set_option maxRecDepth 100000 in
theorem spec_Consolidate.calls (k : Nat) (A0 : Option Addr) (c0 : Nat) (l0 : List (S31)) (r1 : Int) (r2 : List (S31)) (w : World) (hr0 : Kd.C k31 w A0 l0.length l0) (hc0 : l0.length ≤ c0) (h : spec_Consolidate.f k l0 = some (r1, r2)) :
  Calls Tryd.prog 7 #[.slice A0 l0.length c0] w fun e w' => ∃ v1_ : Value, e = .returned (.agg #[.int .i64 r1, v1_]) ∧ Kd.N k31 31 w' w.heap.size (fun k_ => (w.heap.size ≤ k_)) v1_ r2 ∧ Below w.heap.size w w' := by
 have hu27 := Tryd.underlying27
 have HR0 := Aside0.mk hr0
 have HC0 := Aside0.mk hc0
 clear hr0 hc0
 have HB := Aside0.mk (Below.refl w.heap.size w)
 have H : (if (l0.length : Int) > 800 then (some (2, ([] : List (S31)))) else (spec_Consolidate.l0 k l0 0)) = some (r1, r2) := h
 clear h
 by_cases c2 : (l0.length : Int) > 800
 ·rw [if_pos c2] at H
  have c2b0 : decide (800 < (l0.length : Int)) = true := decide_eq_true c2
  have c2b1 : decide (800 < l0.length) = true := decide_eq_true (by omega)
  clear c2
  simp only [Option.some.injEq, Prod.mk.injEq] at H
  obtain ⟨rfl, rfl⟩ := H
  go_enter Tryd.func7, Tryd.ntmps7
  go_wp2_with (first | (refine bx_ 2 #[.int .i64 0, .slice none 0 0] 27 ?_; intro gb276 hg w3 hbox hb; have BK276 := Aside0.mk (hbox); have GW276 := Aside0.mk ((by rw [hg]; exact (below_size cB0_) : w.heap.size ≤ gb276)); have GE276 := Aside0.mk ((by rw [hg]; exact (below_size cB0_) : w.heap.size ≤ gb276)); replace HB := Aside0.mk (below_step cB0_ hb); clear hb hbox hg; obtain ⟨hcz4_0, hcz4_1, hfz4_0, hfz4_1⟩ := cells2 BK276.out))
  refine bodyPost_ret (results_cell_row rfl _ _ gb276 27 #[.int .i64 2, .slice none 0 0] (0, 0) _ rfl (by refine cO_ ?_; refine blk_put (cs := #[.int .i64 2, .slice none 0 0]) ?_ 1 _ rfl; refine cO_ ?_; refine blk_put (cs := #[.int .i64 0, .slice none 0 0]) ?_ 0 _ rfl; refine cO_ ?_; exact BK276.out) Tryd.underlying27 rfl (by kernel_rfl)) rfl ?_
  exact ⟨_, ce_, q7_0, cB1_ GE276.out⟩
 rw [if_neg c2] at H
 have c2b0 : decide (800 < (l0.length : Int)) = false := decide_eq_false c2
 have c2b1 : decide (800 < l0.length) = false := decide_eq_false (by omega)
 clear c2
 have H' := Aside0.mk H
 clear H
 go_enter Tryd.func7, Tryd.ntmps7
 go_wp2_with (first | (refine bx_ 2 #[.int .i64 0, .slice none 0 0] 27 ?_; intro gb276 hg w5 hbox hb; have BK276 := Aside0.mk (hbox); have GW276 := Aside0.mk ((by rw [hg]; exact (below_size cB0_) : w.heap.size ≤ gb276)); have GE276 := Aside0.mk ((by rw [hg]; exact (below_size cB0_) : w.heap.size ≤ gb276)); replace HB := Aside0.mk (below_step cB0_ hb); clear hb hbox hg))
 go_loopg [3] k (fun kq v3 w' => ∃ (x3_1 : Int) (x277000_1 : Int), v3 = .int .i64 x3_1 ∧ Aside0 (spec_Consolidate.l0 kq l0 x3_1 = some (r1, r2)) ∧ Aside0 (kq ≤ k) ∧ Aside0 (w'.heap[gb276]? = some (.cells #[.int .i64 x277000_1, (.slice none 0 0)] 27 (0, 0))) ∧ Aside0 (Below w.heap.size w w'))
 case atStart => exact ⟨(0), (0), cs_, H', ⟨Nat.le_refl _⟩, ⟨cO_ BK276.out⟩, ⟨cB1_ GE276.out⟩⟩
 case round =>
  clear H'
  try clear c2
  try clear c2b0
  try clear c2b1
  try clear p2
  try clear hcz4_0
  try clear hcz4_1
  try clear hfz4_0
  try clear hfz4_1
  obtain ⟨x3_1, x277000_1, rfl, HA, HK1, BK276, HB⟩ := hrel
  cases gk with
  | zero => exact absurd HA.out (by simp [spec_Consolidate.l0])
  | succ k1 =>
   have H := HA.out
   clear HA
   simp only [spec_Consolidate.l0] at H
   by_cases c6 : x3_1 < (l0.length : Int)
   rotate_left
   ·rw [if_neg c6] at H
    have c6b0 : decide (x3_1 < (l0.length : Int)) = false := decide_eq_false c6
    clear c6
    obtain ⟨⟨t277, t280⟩, A14, H⟩ := bnd_ H
    try dsimp only at H
    simp only [Option.some.injEq, Prod.mk.injEq] at H
    obtain ⟨rfl, rfl⟩ := H
    go_wp2_with (first | (refine gl_ 24 (some 37) Tryd.func24 #[.slice A0 l0.length c0] ?_; (with_reducible refine (spec_l2Set.calls k1 _ _ l0 t277 t280 _ ?side1 ?side2 A14.out).mono ?_); (case side1 => exact cC_ (Kd.C_below HR0.out HB.out)); (case side2 => exact HC0.out); rintro e w15 ⟨v278, rfl, ho0, hb⟩; refine ⟨_, rfl, ?_⟩; have HO279 := Aside0.mk (Kd.N_lower (Kd.N_mono (ok' := fun k_ => (w.heap.size ≤ k_) ∧ k_ ≠ gb276) ho0 (fun k_ hk_ => ⟨(Nat.le_trans (below_size b7_3) hk_), (Kd.freshB (g := gb276) (o := .cells #[.int .i64 x277000_1, .slice none 0 0] 27 (0, 0)) (cO_ BK276.out) k_ hk_)⟩)) (below_size b7_3)); replace BK276 := Aside0.mk (blk_below (g := gb276) (o := .cells #[.int .i64 x277000_1, .slice none 0 0] 27 (0, 0)) (cO_ BK276.out) hb); replace HB := Aside0.mk (below_step b7_3 hb); (try clear hb); (try clear hb2); (try clear hk); (try clear hi); (try clear ho0); obtain ⟨Ao16, co16, eo16⟩ := Kd.N_slice HO279.out; subst eo16; obtain ⟨hcz17_0, hcz17_1, hfz17_0, hfz17_1⟩ := cells2 BK276.out))
    refine bodyPost_ret (results_cell_row rfl _ _ gb276 27 #[.int .i64 t280, .slice Ao16 t277.length co16] (0, 0) _ rfl (by refine cO_ ?_; refine blk_put (cs := #[.int .i64 t280, .slice none 0 0]) ?_ 1 _ rfl; refine cO_ ?_; refine blk_put (cs := #[.int .i64 x277000_1, .slice none 0 0]) ?_ 0 _ rfl; refine cO_ ?_; exact BK276.out) Tryd.underlying27 rfl (by kernel_rfl)) rfl ?_
    exact ⟨_, ce_, by refine cN_ ?_; exact Kd.N_mono (Kd.N_far (p := ⟨gb276, 1, none⟩) (Kd.N_far (p := ⟨gb276, 0, none⟩) (Kd.N_mono HO279.out (fun k_ hk => (⟨hk, hk.2⟩ : _ ∧ k_ ≠ gb276))) (fun _ hk => hk.2) (.int .i64 t280)) (fun _ hk => hk.2) (.slice Ao16 t277.length co16)) (fun _ hk => hk.1.1), cB1_ GE276.out⟩
   rw [if_pos c6] at H
   have c6b0 : decide (x3_1 < (l0.length : Int)) = true := decide_eq_true c6
   clear c6
   by_cases c7 : 0 ≤ x3_1
   rotate_left
   ·rw [if_neg c7] at H
    exact absurd H (by simp)
   rw [if_pos c7] at H
   have c7b0 : decide (0 ≤ x3_1) = true := decide_eq_true c7
   clear c7
   obtain ⟨t282, A8, H⟩ := bnd_ H
   try dsimp only at H
   by_cases c9 : t282 = 0
   rotate_left
   ·rw [if_neg c9] at H
    have c9b0 : (t282 == 0) = false := beq_eq_false_iff_ne.mpr c9
    have c9b1 : (t282 != 0) = true := bne_iff_ne.mpr c9
    simp only [Option.some.injEq, Prod.mk.injEq] at H
    obtain ⟨rfl, rfl⟩ := H
    have p281 : 0 ≤ (x3_1 : Int) := of_decide_eq_true ca_
    have q281 : x3_1 < (l0.length : Int) := of_decide_eq_true ca_
    obtain ⟨ad281, A281_0, c281_0, e281, hx281_0, hx281_1, hl281_0, hi281_0⟩ := at_T31 HR0.out x3_1 p281 q281
    cases e281
    replace hx281_0 := (HB.out.cell (World.block_lt_of_cell? w _ hx281_0)).trans hx281_0
    replace hx281_1 := (HB.out.cell (World.block_lt_of_cell? w _ hx281_1)).trans hx281_1
    have HR281_0 := Aside0.mk hi281_0
    have HC281_0 := Aside0.mk hl281_0
    clear hi281_0 hl281_0
    replace p281 := eq_true p281
    replace q281 := eq_true q281
    go_wp2_with (first | (refine gl_ 22 (some 22) Tryd.func22 #[.slice A281_0 ((rd_T31 l0 x3_1).f0).length c281_0] ?_; (with_reducible refine (spec_RowFault.calls k1 _ _ ((rd_T31 l0 x3_1).f0) t282 _ ?side1 ?side2 A8.out).mono ?_); (case side1 => exact cC_ (Kd.C_below HR281_0.out HB.out)); (case side2 => exact HC281_0.out); rintro e w' ⟨rfl, ⟨nd, rfl⟩⟩; refine ⟨_, rfl, ?_⟩; (try simp only [World.drewN_drewN]); (try (rw [drewN_self wr]; generalize hq_ : World.drewN wr _ = wr; have n0_ : Aside0 (wr.heap[gb276]? = some (.cells #[.int .i64 x277000_1, .slice none 0 0] 27 (0, 0))) := ⟨by rw [← hq_]; exact (cO_ BK276.out)⟩; have n1_ : Aside0 (Below w.heap.size w wr) := ⟨by rw [← hq_]; exact b7_3⟩; clear BK276 HB hq_; have BK276 := n0_; have HB := n1_; clear n0_ n1_)); obtain ⟨hcz13_0, hcz13_1, hfz13_0, hfz13_1⟩ := cells2 BK276.out))
    refine bodyPost_ret (results_cell_row rfl _ _ gb276 27 #[.int .i64 t282, .slice none 0 0] (0, 0) _ rfl (by refine cO_ ?_; refine blk_put (cs := #[.int .i64 t282, .slice none 0 0]) ?_ 1 _ rfl; refine cO_ ?_; refine blk_put (cs := #[.int .i64 x277000_1, .slice none 0 0]) ?_ 0 _ rfl; refine cO_ ?_; exact BK276.out) Tryd.underlying27 rfl (by kernel_rfl)) rfl ?_
    exact ⟨_, ce_, q7_0, cB1_ GE276.out⟩
   rw [if_pos c9] at H
   have c9b0 : (t282 == 0) = true := beq_iff_eq.mpr c9
   have c9b1 : (t282 != 0) = false := bne_eq_false_iff_eq.mpr c9
   clear c9
   obtain ⟨t284, A10, H⟩ := bnd_ H
   try dsimp only at H
   by_cases c11 : t284 = true
   ·subst c11
    rw [if_pos rfl] at H
    have H' := Aside0.mk H
    clear H
    have p281 : 0 ≤ (x3_1 : Int) := of_decide_eq_true ca_
    have q281 : x3_1 < (l0.length : Int) := of_decide_eq_true ca_
    obtain ⟨ad281, A281_0, c281_0, e281, hx281_0, hx281_1, hl281_0, hi281_0⟩ := at_T31 HR0.out x3_1 p281 q281
    cases e281
    replace hx281_0 := (HB.out.cell (World.block_lt_of_cell? w _ hx281_0)).trans hx281_0
    replace hx281_1 := (HB.out.cell (World.block_lt_of_cell? w _ hx281_1)).trans hx281_1
    have HR281_0 := Aside0.mk hi281_0
    have HC281_0 := Aside0.mk hl281_0
    clear hi281_0 hl281_0
    replace p281 := eq_true p281
    replace q281 := eq_true q281
    go_wp2_with (first | (refine gl_ 22 (some 22) Tryd.func22 #[.slice A281_0 ((rd_T31 l0 x3_1).f0).length c281_0] ?_; (with_reducible refine (spec_RowFault.calls k1 _ _ ((rd_T31 l0 x3_1).f0) t282 _ ?side1 ?side2 A8.out).mono ?_); (case side1 => exact cC_ (Kd.C_below HR281_0.out HB.out)); (case side2 => exact HC281_0.out); rintro e w' ⟨rfl, ⟨nd, rfl⟩⟩; refine ⟨_, rfl, ?_⟩; have p283 : 0 ≤ (x3_1 : Int) := of_decide_eq_true ca_; have q283 : x3_1 < (l0.length : Int) := of_decide_eq_true ca_; obtain ⟨ad283, A283_0, c283_0, e283, hx283_0, hx283_1, hl283_0, hi283_0⟩ := at_T31 HR0.out x3_1 p283 q283; obtain rfl : ad281 = ad283 := (by injection e283); replace hx283_0 := (HB.out.cell (World.block_lt_of_cell? w _ hx283_0)).trans hx283_0; replace hx283_1 := (HB.out.cell (World.block_lt_of_cell? w _ hx283_1)).trans hx283_1; have HR283_0 := Aside0.mk hi283_0; have HC283_0 := Aside0.mk hl283_0; clear hi283_0 hl283_0; replace p283 := eq_true p283; replace q283 := eq_true q283; have ea_ := Option.some.inj (hx281_0.symm.trans hx283_0); injection ea_ with ea_ en_ ec_; subst ea_; subst ec_; clear en_) | (refine gl_ 23 (some 32) Tryd.func23 #[.int .i64 ((rd_T31 l0 x3_1).f1)] ?_; (with_reducible refine (spec_l1Weight.calls ((rd_T31 l0 x3_1).f1) true _ A10.out).mono ?_); rintro e w' ⟨rfl, ⟨nd, rfl⟩⟩; refine ⟨_, rfl, ?_⟩))
    go_roundg k1
    case measure => have := HK1.out; omega
    case rel => exact ⟨(wrap64 (x3_1 + 1)), (x277000_1), cs_, H', ⟨co_ HK1.out⟩, ⟨cO_ BK276.out⟩, ⟨cB1_ GE276.out⟩⟩
   replace c11 := Bool.eq_false_iff.mpr c11
   subst c11
   rw [if_neg (show ¬ (false = true) by decide)] at H
   simp only [Option.some.injEq, Prod.mk.injEq] at H
   obtain ⟨rfl, rfl⟩ := H
   have p281 : 0 ≤ (x3_1 : Int) := of_decide_eq_true ca_
   have q281 : x3_1 < (l0.length : Int) := of_decide_eq_true ca_
   obtain ⟨ad281, A281_0, c281_0, e281, hx281_0, hx281_1, hl281_0, hi281_0⟩ := at_T31 HR0.out x3_1 p281 q281
   cases e281
   replace hx281_0 := (HB.out.cell (World.block_lt_of_cell? w _ hx281_0)).trans hx281_0
   replace hx281_1 := (HB.out.cell (World.block_lt_of_cell? w _ hx281_1)).trans hx281_1
   have HR281_0 := Aside0.mk hi281_0
   have HC281_0 := Aside0.mk hl281_0
   clear hi281_0 hl281_0
   replace p281 := eq_true p281
   replace q281 := eq_true q281
   go_wp2_with (first | (refine gl_ 22 (some 22) Tryd.func22 #[.slice A281_0 ((rd_T31 l0 x3_1).f0).length c281_0] ?_; (with_reducible refine (spec_RowFault.calls k1 _ _ ((rd_T31 l0 x3_1).f0) t282 _ ?side1 ?side2 A8.out).mono ?_); (case side1 => exact cC_ (Kd.C_below HR281_0.out HB.out)); (case side2 => exact HC281_0.out); rintro e w' ⟨rfl, ⟨nd, rfl⟩⟩; refine ⟨_, rfl, ?_⟩; (try simp only [World.drewN_drewN]); (try (rw [drewN_self wr]; generalize hq_ : World.drewN wr _ = wr; have n0_ : Aside0 (wr.heap[gb276]? = some (.cells #[.int .i64 x277000_1, .slice none 0 0] 27 (0, 0))) := ⟨by rw [← hq_]; exact (cO_ BK276.out)⟩; have n1_ : Aside0 (Below w.heap.size w wr) := ⟨by rw [← hq_]; exact b7_3⟩; clear BK276 HB hq_; have BK276 := n0_; have HB := n1_; clear n0_ n1_)); have p283 : 0 ≤ (x3_1 : Int) := of_decide_eq_true ca_; have q283 : x3_1 < (l0.length : Int) := of_decide_eq_true ca_; obtain ⟨ad283, A283_0, c283_0, e283, hx283_0, hx283_1, hl283_0, hi283_0⟩ := at_T31 HR0.out x3_1 p283 q283; obtain rfl : ad281 = ad283 := (by injection e283); replace hx283_0 := (HB.out.cell (World.block_lt_of_cell? w _ hx283_0)).trans hx283_0; replace hx283_1 := (HB.out.cell (World.block_lt_of_cell? w _ hx283_1)).trans hx283_1; have HR283_0 := Aside0.mk hi283_0; have HC283_0 := Aside0.mk hl283_0; clear hi283_0 hl283_0; replace p283 := eq_true p283; replace q283 := eq_true q283; (first | (have ea_ := Option.some.inj (hx281_0.symm.trans hx283_0); injection ea_ with ea_ en_ ec_; subst ea_; subst ec_; clear en_) | skip)) | (refine gl_ 23 (some 32) Tryd.func23 #[.int .i64 ((rd_T31 l0 x3_1).f1)] ?_; (with_reducible refine (spec_l1Weight.calls ((rd_T31 l0 x3_1).f1) false _ A10.out).mono ?_); rintro e w' ⟨rfl, ⟨nd, rfl⟩⟩; refine ⟨_, rfl, ?_⟩; (try simp only [World.drewN_drewN]); (try (rw [drewN_self wr]; generalize hq_ : World.drewN wr _ = wr; have n0_ : Aside0 (wr.heap[gb276]? = some (.cells #[.int .i64 x277000_1, .slice none 0 0] 27 (0, 0))) := ⟨by rw [← hq_]; exact (cO_ BK276.out)⟩; have n1_ : Aside0 (Below w.heap.size w wr) := ⟨by rw [← hq_]; exact b7_3⟩; clear BK276 HB hq_; have BK276 := n0_; have HB := n1_; clear n0_ n1_)); obtain ⟨hcz12_0, hcz12_1, hfz12_0, hfz12_1⟩ := cells2 BK276.out))
   refine bodyPost_ret (results_cell_row rfl _ _ gb276 27 #[.int .i64 3, .slice none 0 0] (0, 0) _ rfl (by refine cO_ ?_; refine blk_put (cs := #[.int .i64 3, .slice none 0 0]) ?_ 1 _ rfl; refine cO_ ?_; refine blk_put (cs := #[.int .i64 x277000_1, .slice none 0 0]) ?_ 0 _ rfl; refine cO_ ?_; exact BK276.out) Tryd.underlying27 rfl (by kernel_rfl)) rfl ?_
   exact ⟨_, ce_, q7_0, cB1_ GE276.out⟩

end Go.Proofs.YthgmicingbjemaaDoor.PFnSums
