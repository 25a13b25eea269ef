-- Written by fprint, a program of this session, out of Lean's own print of the translation. Lean checks it.
import Derived.Test.YthgmicingbjemaaDense
import Derived.Test.YthgmicingbjemaaPFnJoinsx0
import Derived.Test.YthgmicingbjemaaPFnJoinsx5
import Derived.Test.YthgmicingbjemaaPFnJoinsx7
namespace Go.Proofs.Ythgmicingbjemaa.PFnJoins
open Go.RowKit Go.Proofs.YthgmicingbjemaaW.PrintWords Go.Proofs.YthgmicingbjemaaW.PrintLast Go.Proofs.YthgmicingbjemaaW.PrintMore
attribute [local go_sem] max2_int min2_int max_two min_two max_three min_three max_four min_four
set_option linter.unusedVariables false
set_option maxHeartbeats 8000000
set_option maxRecDepth 100000
set_option linter.unusedSimpArgs false

theorem q8_0 {p : Prop} (h : p := by first | exact Kd.S_nil _ _ _ _ _ | exact Kd.N_nil _ _ _ _ _ | exact Kd.V_nil _ _ _ _ _ | exact Kd.Q_nil _ _ _ _ _ | exact Kd.R_nil _ _ _ _ _) : p := h
/-! ### spec_l2Set: function 46 -/
mutual
def spec_l2Set.l0 : Nat → List (S42) → List (S42) → Int → Option ((List (S42)) × Int)
 | 0, _, _, _ => none
 | k + 1, x0, x4, x5 => if x5 < (x0.length : Int) then (if 0 ≤ x5 then ((spec_l2Put.f k x4 ((rd_T42 x0 x5).f0) ((rd_T42 x0 x5).f1)).bind fun t182 => (spec_l2Set.l0 k x0 t182 (wrap64 (x5 + 1)))) else (none)) else (spec_l2Set.l1 k x4 (([] : List (S42))) 0)
def spec_l2Set.l1 : Nat → List (S42) → List (S42) → Int → Option ((List (S42)) × Int)
 | 0, _, _, _ => none
 | k + 1, x4, x6, x7 => if x7 < (x4.length : Int) then (if 0 ≤ x7 then ((spec_l1Weight.f ((rd_T42 x4 x7).f1)).bind fun t189 => (if t189 = true then (if ((rd_T42 x4 x7).f1) = 0 then (spec_l2Set.l1 k x4 x6 (wrap64 (x7 + 1))) else (if x6.length < 4398046511104 then (spec_l2Set.l1 k x4 (x6 ++ [(⟨(rd_T42 x4 x7).f0, (rd_T42 x4 x7).f1⟩ : S42)]) (wrap64 (x7 + 1))) else (none))) else (some (([] : List (S42)), 8)))) else (none)) else (if (x6.length : Int) > 200 then (some (([] : List (S42)), 2)) else (some (x6, 0)))
end
def spec_l2Set.f (k : Nat) (l0 : List (S42)) : Option ((List (S42)) × Int) := spec_l2Set.l0 k l0 (([] : List (S42))) 0
theorem spec_l2Set.mono_l : ∀ k, (∀ y0 y1 y2, LeO (spec_l2Set.l0 k y0 y1 y2) (spec_l2Set.l0 (k + 1) y0 y1 y2)) ∧ (∀ y0 y1 y2, LeO (spec_l2Set.l1 k y0 y1 y2) (spec_l2Set.l1 (k + 1) y0 y1 y2))
 | 0 => ⟨fun _ _ _ r h => by simp [spec_l2Set.l0] at h, fun _ _ _ r h => by simp [spec_l2Set.l1] at h⟩
 | k + 1 => by
  obtain ⟨ih0, ih1⟩ := spec_l2Set.mono_l k
  refine ⟨?_, ?_⟩
  ·intro y0 y1 y2
   unfold spec_l2Set.l0
   repeat' first
   | (with_reducible exact ih0 _ _ _)
   | (with_reducible exact ih1 _ _ _)
   | (with_reducible exact spec_l2Put.mono _ _ _ _)
   | (with_reducible exact LeO.refl _)
   | (with_reducible exact LeO.none _)
   | (with_reducible refine LeO.ite ?_ ?_)
   | (with_reducible refine LeO.bind ?_ (fun _ => ?_))
   | refine LeO.ite ?_ ?_
   | refine LeO.bind ?_ (fun _ => ?_)
  ·intro y0 y1 y2
   unfold spec_l2Set.l1
   repeat' first
   | (with_reducible exact ih0 _ _ _)
   | (with_reducible exact ih1 _ _ _)
   | (with_reducible exact spec_l2Put.mono _ _ _ _)
   | (with_reducible exact LeO.refl _)
   | (with_reducible exact LeO.none _)
   | (with_reducible refine LeO.ite ?_ ?_)
   | (with_reducible refine LeO.bind ?_ (fun _ => ?_))
   | refine LeO.ite ?_ ?_
   | refine LeO.bind ?_ (fun _ => ?_)
theorem spec_l2Set.mono : ∀ a0 k, LeO (spec_l2Set.f k a0) (spec_l2Set.f (k + 1) a0) := by
 intro a0 k
 obtain ⟨ih0, ih1⟩ := spec_l2Set.mono_l k
 unfold spec_l2Set.f
 repeat' first
   | (with_reducible exact ih0 _ _ _)
   | (with_reducible exact ih1 _ _ _)
   | (with_reducible exact spec_l2Put.mono _ _ _ _)
   | (with_reducible exact LeO.refl _)
   | (with_reducible exact LeO.none _)
   | (with_reducible refine LeO.ite ?_ ?_)
   | (with_reducible refine LeO.bind ?_ (fun _ => ?_))
   | refine LeO.ite ?_ ?_
   | refine LeO.bind ?_ (fun _ => ?_)
theorem spec_l2Set.calls (k : Nat) (A0 : Option Addr) (c0 : Nat) (l0 : List (S42)) (r1 : List (S42)) (r2 : Int) (w : World) (hr0 : Kd.C k42 w A0 l0.length l0) (hc0 : l0.length ≤ c0) (h : spec_l2Set.f k l0 = some (r1, r2)) :
  Calls Try.prog 46 #[.slice A0 l0.length c0] w fun e w' => ∃ v0_ : Value, e = .returned (.tuple #[v0_, .int .i64 r2]) ∧ Kd.N k42 42 w' w.heap.size (fun k_ => (w.heap.size ≤ k_)) v0_ r1 ∧ Below w.heap.size w w' := by
 have huE_ := Try.underlying42
 have HR0 := Aside0.mk hr0
 have HC0 := Aside0.mk hc0
 clear hr0 hc0
 have HB := Aside0.mk (Below.refl w.heap.size w)
 have H : (spec_l2Set.l0 k l0 (([] : List (S42))) 0) = some (r1, r2) := h
 clear h
 obtain ⟨y178, hy_⟩ : ∃ y_ : List (S42), y_ = (([] : List (S42))) := ⟨_, rfl⟩
 replace H : (spec_l2Set.l0 k l0 y178 0) = some (r1, r2) := yb_
 have Ny178 := Aside0.mk hy_
 clear hy_
 have H' := Aside0.mk H
 clear H
 go_enter Try.func46, Try.ntmps46
 go_wp2_with (first | ((with_reducible refine gate_dst (N := 8) rfl ?_); refine Kd.N_lit k42 _ 42 ?hg (N' := 8) ?hd (xs := ([] : List (S42))) (inner := []) (ok := (fun k_ => (w.heap.size ≤ k_))) (okp := (fun k_ => (w.heap.size ≤ k_))) ?hr ?hp (fun _ hk => hk) ((show ∀ k_, w.heap.size ≤ k_ → (fun k_ => (w.heap.size ≤ k_)) k_ from fun k_ hk => (Nat.le_trans (below_size cB0_) hk)) _ (Nat.le_refl _)) (Below.refl _ _) (Nat.le_refl _) (by simp) ?_; (case hd => rfl); (case hg => rfl); (case hr => first | (go_simp; done) | (go_simp; rfl)); (case hp => exact (Reps.none _ _)); intro v179 w2 ho3 hb hg_ hnew_; clear hg_ hnew_; (first | rw [← Ny178.out] at ho3 | (simp only [Int.reduceToNat] at ho3; rw [← Ny178.out] at ho3)); have HO180 := Aside0.mk (Kd.N_lower ho3 (below_size cB0_)); replace HB := Aside0.mk (below_step cB0_ hb); clear hb ho3))
 go_loopg [4, 5] k (fun kq v4 v5 w' => ∃ (x4_1 : List (S42)) (x5_1 : Int), v5 = .int .i64 x5_1 ∧ Aside0 (spec_l2Set.l0 kq l0 x4_1 x5_1 = some (r1, r2)) ∧ Aside0 (kq ≤ k) ∧ Aside0 (Kd.N k42 42 w' w.heap.size (fun k_ => (w.heap.size ≤ k_)) v4 x4_1) ∧ Aside0 (Below w.heap.size w w'))
 case atStart => exact ⟨(y178), (0), cs_, H', ⟨Nat.le_refl _⟩, ⟨cN_ HO180.out⟩, ⟨cB0_⟩⟩
 case round =>
  clear H'
  try clear p2
  obtain ⟨x4_1, x5_1, rfl, HA, HK1, HO_4, HB⟩ := hrel
  cases gk with
  | zero => exact absurd HA.out (by simp [spec_l2Set.l0])
  | succ k1 =>
   have H := HA.out
   clear HA
   simp only [spec_l2Set.l0] at H
   by_cases c4 : x5_1 < (l0.length : Int)
   ·rw [if_pos c4] at H
    have c4b0 := decide_eq_true c4
    clear c4
    by_cases c5 : 0 ≤ x5_1
    rotate_left
    ·rw [if_neg c5] at H
     exact absurd H (by simp)
    rw [if_pos c5] at H
    have c5b0 := decide_eq_true c5
    clear c5
    obtain ⟨t182, A6, H⟩ := bnd_ H
    try dsimp only at H
    have H' := Aside0.mk H
    clear H
    have p181 : 0 ≤ (x5_1 : Int) := cd_
    have q181 : x5_1 < (l0.length : Int) := cd_
    obtain ⟨ad181, A181_0, c181_0, e181, hx181_0, hx181_1, hl181_0, hi181_0⟩ := at_T42 HR0.out x5_1 p181 q181
    cases e181
    replace hx181_0 := pw_cell_below HB.out hx181_0
    replace hx181_1 := pw_cell_below HB.out hx181_1
    have HR181_0 := Aside0.mk hi181_0
    have HC181_0 := Aside0.mk hl181_0
    clear hi181_0 hl181_0
    replace p181 := eq_true p181
    replace q181 := eq_true q181
    obtain ⟨Ao7, co7, eo7⟩ := Kd.N_slice HO_4.out
    subst eo7
    go_wp2_with (first | (refine gl_ 90 (some 20) Try.func90 #[.slice Ao7 x4_1.length co7, .agg #[.slice A181_0 ((rd_T42 l0 x5_1).f0).length c181_0, .int .i64 ((rd_T42 l0 x5_1).f1)]] ?_; (with_reducible refine (spec_l2Put.calls k1 _ x4_1 _ _ ((rd_T42 l0 x5_1).f0) ((rd_T42 l0 x5_1).f1) t182 w _ ?side1 ?side2 ?side3 ?side4 A6.out).mono ?_); (case side1 => exact cB0_); (case side2 => exact (by exact cN_ HO_4.out)); (case side3 => exact HR181_0.out); (case side4 => exact HC181_0.out); rintro e w8 ⟨v183, rfl, ho0, hb⟩; refine ⟨_, rfl, ?_⟩; have n1_ := Aside0.mk ho0; have n2_ := Aside0.mk hb; clear HO_4; clear HB; have HO184 := n1_; have HB := n2_; clear n1_ n2_; (try clear hb); (try clear ho0)))
    go_roundg k1
    case measure => have := HK1.out; omega
    case rel => exact ⟨(t182), (wrap64 (x5_1 + 1)), cs_, H', ⟨co_ HK1.out⟩, ⟨cN_ HO184.out⟩, ⟨cB0_⟩⟩
   rw [if_neg c4] at H
   have c4b0 := decide_eq_false c4
   clear c4
   obtain ⟨y185, hy_⟩ : ∃ y_ : List (S42), y_ = (([] : List (S42))) := ⟨_, rfl⟩
   replace H : (spec_l2Set.l1 k1 x4_1 y185 0) = some (r1, r2) := yb_
   have Ny185 := Aside0.mk hy_
   clear hy_
   have H' := Aside0.mk H
   clear H
   go_wp2_with (first | ((with_reducible refine gate_dst (N := 21) rfl ?_); refine Kd.N_lit k42 _ 42 ?hg (N' := 21) ?hd (xs := ([] : List (S42))) (inner := []) (ok := (fun k_ => (w.heap.size ≤ k_) ∧ some k_ ≠ (u4 : Value).ownBlock)) (okp := (fun k_ => (w.heap.size ≤ k_) ∧ some k_ ≠ (u4 : Value).ownBlock)) ?hr ?hp (fun _ hk => hk) ((show ∀ k_, wr.heap.size ≤ k_ → (fun k_ => (w.heap.size ≤ k_) ∧ some k_ ≠ (u4 : Value).ownBlock) k_ from fun k_ hk => ⟨(Nat.le_trans (below_size cB0_) hk), Kd.fresh' (Kd.N_lt (cN_ HO_4.out)) k_ hk⟩) _ (Nat.le_refl _)) (Below.refl _ _) (Nat.le_refl _) (by simp) ?_; (case hd => rfl); (case hg => rfl); (case hr => first | (go_simp; done) | (go_simp; rfl)); (case hp => exact (Reps.none _ _)); intro v186 w9 ho10 hb hg_ hnew_; clear hg_ hnew_; (first | rw [← Ny185.out] at ho10 | (simp only [Int.reduceToNat] at ho10; rw [← Ny185.out] at ho10)); replace HO_4 := Aside0.mk (Kd.N_elder' (cN_ HO_4.out) (Kd.N_base ho10) hb); have HO187 := Aside0.mk (Kd.N_lower ho10 (below_size cB0_)); replace HB := Aside0.mk (below_step cB0_ hb); clear hb ho10))
   go_loopg [6, 7] k1 (fun kq v6 v7 w' => ∃ (x6_2 : List (S42)) (x7_2 : Int), v7 = .int .i64 x7_2 ∧ Aside0 (spec_l2Set.l1 kq x4_1 x6_2 x7_2 = some (r1, r2)) ∧ Aside0 (kq ≤ k1) ∧ Aside0 (Kd.N k42 42 w' w.heap.size (fun k_ => (w.heap.size ≤ k_) ∧ some k_ ≠ (v6 : Value).ownBlock) u4 x4_1) ∧ Aside0 (Kd.N k42 42 w' w.heap.size (fun k_ => (w.heap.size ≤ k_) ∧ some k_ ≠ (u4 : Value).ownBlock) v6 x6_2) ∧ Aside0 (Below w.heap.size w w'))
   case atStart => exact ⟨(y185), (0), cs_, H', ⟨Nat.le_refl _⟩, ⟨cN_ HO_4.out⟩, ⟨cN_ HO187.out⟩, ⟨cB0_⟩⟩
   case round =>
    clear H'
    try clear c1
    try clear p1
    try clear q1
    try clear hx1
    try clear p2
    try clear c4
    try clear c4b0
    try clear c5
    try clear c5b0
    try clear p6
    try clear c9
    try clear hx181_0
    try clear hx181_1
    try clear p181
    try clear p2
    try clear q181
    obtain ⟨x6_2, x7_2, rfl, HA, HK2, HO_4, HO_6, HB⟩ := hrel
    cases gk with
    | zero => exact absurd HA.out (by simp [spec_l2Set.l1])
    | succ k2 =>
     have H := HA.out
     clear HA
     simp only [spec_l2Set.l1] at H
     by_cases c11 : x7_2 < (x4_1.length : Int)
     rotate_left
     ·rw [if_neg c11] at H
      have c11b0 := decide_eq_false c11
      clear c11
      by_cases c21 : (x6_2.length : Int) > 200
      ·rw [if_pos c21] at H
       have c21b0 : decide (200 < (x6_2.length : Int)) = true := decide_eq_true c21
       have c21b1 : decide (200 < x6_2.length) = true := decide_eq_true (by omega)
       clear c21
       simp only [Option.some.injEq, Prod.mk.injEq] at H
       obtain ⟨rfl, rfl⟩ := H
       obtain ⟨Ao22, co22, eo22⟩ := Kd.N_slice HO_4.out
       subst eo22
       obtain ⟨Ao23, co23, eo23⟩ := Kd.N_slice HO_6.out
       subst eo23
       go_wp2
       go_ret2
       exact ⟨_, ce_, q8_0, cB0_⟩
      rw [if_neg c21] at H
      have c21b0 : decide (200 < (x6_2.length : Int)) = false := decide_eq_false c21
      have c21b1 : decide (200 < x6_2.length) = false := decide_eq_false (by omega)
      clear c21
      simp only [Option.some.injEq, Prod.mk.injEq] at H
      obtain ⟨rfl, rfl⟩ := H
      obtain ⟨Ao24, co24, eo24⟩ := Kd.N_slice HO_4.out
      subst eo24
      obtain ⟨Ao25, co25, eo25⟩ := Kd.N_slice HO_6.out
      subst eo25
      go_wp2
      go_ret2
      exact ⟨_, ce_, by refine cN_ ?_; exact Kd.N_mono HO_6.out (fun _ hk => hk.1), cB0_⟩
     rw [if_pos c11] at H
     have c11b0 := decide_eq_true c11
     clear c11
     by_cases c12 : 0 ≤ x7_2
     rotate_left
     ·rw [if_neg c12] at H
      exact absurd H (by simp)
     rw [if_pos c12] at H
     have c12b0 := decide_eq_true c12
     clear c12
     obtain ⟨t189, A13, H⟩ := bnd_ H
     try dsimp only at H
     by_cases c14 : t189 = true
     rotate_left
     ·replace c14 := Bool.eq_false_iff.mpr c14
      subst c14
      rw [if_neg (show ¬ (false = true) by decide)] at H
      simp only [Option.some.injEq, Prod.mk.injEq] at H
      obtain ⟨rfl, rfl⟩ := H
      obtain ⟨Ao20, co20, eo20⟩ := Kd.N_slice HO_4.out
      subst eo20
      have p188 : 0 ≤ (x7_2 : Int) := cd_
      have q188 : x7_2 < (x4_1.length : Int) := cd_
      obtain ⟨ad188, A188_0, c188_0, e188, hx188_0, hx188_1, hl188_0, hi188_0⟩ := at_T42 (Kd.N_reads' HO_4.out).2.2 x7_2 p188 q188
      cases e188
      obtain ⟨ce188, hce188, hMe188, hcc188⟩ := Kd.N_get HO_4.out z42 x7_2 p188 (by first | exact q188 | exact of_decide_eq_true ca_ | (have e_ := (Kd.N_reads' HO_4.out).1; omega))
      obtain ⟨ua188_0, uc188_0, rfl, ul188_0, ge188_0⟩ := k42_openF hMe188
      have hv188_0 := hcc188 0 _ rfl
      rw [Nat.add_zero] at hv188_0
      replace hv188_0 := Option.some.inj (hv188_0.symm.trans hx188_0)
      injection hv188_0 with hva_ hvn_ hvc_
      rw [hva_] at ge188_0
      rw [hvc_] at ul188_0
      have HL188_0 := Aside0.mk (show Kd.V (Kd.int .i64) 2 _ w.heap.size _ _ ((rd_T42 x4_1 x7_2).f0) from Kd.V_mk ul188_0 ge188_0)
      clear hva_ hvn_ hvc_ ge188_0 ul188_0
      clear hcc188 hce188
      have HR188_0 := Aside0.mk hi188_0
      have HC188_0 := Aside0.mk hl188_0
      clear hi188_0 hl188_0
      replace p188 := eq_true p188
      replace q188 := eq_true q188
      go_wp2_with (first | (refine gl_ 45 (some 33) Try.func45 #[.int .i64 ((rd_T42 x4_1 x7_2).f1)] ?_; (with_reducible refine (spec_l1Weight.calls ((rd_T42 x4_1 x7_2).f1) false _ A13.out).mono ?_); rintro e w' ⟨rfl, ⟨nd, rfl⟩⟩; refine ⟨_, rfl, ?_⟩))
      go_ret2
      exact ⟨_, ce_, q8_0, cB0_⟩
     subst c14
     rw [if_pos rfl] at H
     by_cases c15 : ((rd_T42 x4_1 x7_2).f1) = 0
     ·rw [if_pos c15] at H
      have c15b0 : (((rd_T42 x4_1 x7_2).f1) == 0) = true := beq_iff_eq.mpr c15
      have c15b1 : (((rd_T42 x4_1 x7_2).f1) != 0) = false := bne_eq_false_iff_eq.mpr c15
      clear c15
      have H' := Aside0.mk H
      clear H
      obtain ⟨Ao16, co16, eo16⟩ := Kd.N_slice HO_4.out
      subst eo16
      have p188 : 0 ≤ (x7_2 : Int) := cd_
      have q188 : x7_2 < (x4_1.length : Int) := cd_
      obtain ⟨ad188, A188_0, c188_0, e188, hx188_0, hx188_1, hl188_0, hi188_0⟩ := at_T42 (Kd.N_reads' HO_4.out).2.2 x7_2 p188 q188
      cases e188
      obtain ⟨ce188, hce188, hMe188, hcc188⟩ := Kd.N_get HO_4.out z42 x7_2 p188 (by first | exact q188 | exact of_decide_eq_true ca_ | (have e_ := (Kd.N_reads' HO_4.out).1; omega))
      obtain ⟨ua188_0, uc188_0, rfl, ul188_0, ge188_0⟩ := k42_openF hMe188
      have hv188_0 := hcc188 0 _ rfl
      rw [Nat.add_zero] at hv188_0
      replace hv188_0 := Option.some.inj (hv188_0.symm.trans hx188_0)
      injection hv188_0 with hva_ hvn_ hvc_
      rw [hva_] at ge188_0
      rw [hvc_] at ul188_0
      have HL188_0 := Aside0.mk (show Kd.V (Kd.int .i64) 2 _ w.heap.size _ _ ((rd_T42 x4_1 x7_2).f0) from Kd.V_mk ul188_0 ge188_0)
      clear hva_ hvn_ hvc_ ge188_0 ul188_0
      clear hcc188 hce188
      have HR188_0 := Aside0.mk hi188_0
      have HC188_0 := Aside0.mk hl188_0
      clear hi188_0 hl188_0
      replace p188 := eq_true p188
      replace q188 := eq_true q188
      go_wp2_with (first | (refine gl_ 45 (some 33) Try.func45 #[.int .i64 ((rd_T42 x4_1 x7_2).f1)] ?_; (with_reducible refine (spec_l1Weight.calls ((rd_T42 x4_1 x7_2).f1) true _ A13.out).mono ?_); rintro e w' ⟨rfl, ⟨nd, rfl⟩⟩; refine ⟨_, rfl, ?_⟩; have p190 : 0 ≤ (x7_2 : Int) := cd_; have q190 : x7_2 < (x4_1.length : Int) := cd_; obtain ⟨ad190, A190_0, c190_0, e190, hx190_0, hx190_1, hl190_0, hi190_0⟩ := at_T42 (Kd.N_reads' HO_4.out).2.2 x7_2 p190 q190; obtain rfl : ad188 = ad190 := (by injection e190); obtain ⟨ce190, hce190, hMe190, hcc190⟩ := Kd.N_get HO_4.out z42 x7_2 p190 (by first | exact q190 | exact of_decide_eq_true ca_ | (have e_ := (Kd.N_reads' HO_4.out).1; omega)); obtain ⟨ua190_0, uc190_0, rfl, ul190_0, ge190_0⟩ := k42_openF hMe190; have hv190_0 := hcc190 0 _ rfl; rw [Nat.add_zero] at hv190_0; replace hv190_0 := Option.some.inj (hv190_0.symm.trans hx190_0); injection hv190_0 with hva_ hvn_ hvc_; rw [hva_] at ge190_0; rw [hvc_] at ul190_0; have HL190_0 := Aside0.mk (show Kd.V (Kd.int .i64) 2 _ w.heap.size _ _ ((rd_T42 x4_1 x7_2).f0) from Kd.V_mk ul190_0 ge190_0); clear hva_ hvn_ hvc_ ge190_0 ul190_0; clear hcc190 hce190; have HR190_0 := Aside0.mk hi190_0; have HC190_0 := Aside0.mk hl190_0; clear hi190_0 hl190_0; replace p190 := eq_true p190; replace q190 := eq_true q190; have ea_ := Option.some.inj (hx188_0.symm.trans hx190_0); injection ea_ with ea_ en_ ec_; subst ea_; subst ec_; clear en_))
      go_roundg k2
      case measure => have := HK1.out; have := HK2.out; omega
      case rel => exact ⟨(x6_2), (wrap64 (x7_2 + 1)), cs_, H', ⟨by have := HK1.out; have := HK2.out; omega⟩, ⟨cN_ HO_4.out⟩, ⟨cN_ HO_6.out⟩, ⟨cB0_⟩⟩
     rw [if_neg c15] at H
     have c15b0 : (((rd_T42 x4_1 x7_2).f1) == 0) = false := beq_eq_false_iff_ne.mpr c15
     have c15b1 : (((rd_T42 x4_1 x7_2).f1) != 0) = true := bne_iff_ne.mpr c15
     by_cases c17 : x6_2.length < 4398046511104
     rotate_left
     ·rw [if_neg c17] at H
      exact absurd H (by simp)
     rw [if_pos c17] at H
     have LMc17 := Aside0.mk c17
     clear c17
     obtain ⟨y192, hy_⟩ : ∃ y_ : List (S42), y_ = (x6_2 ++ [(⟨(rd_T42 x4_1 x7_2).f0, (rd_T42 x4_1 x7_2).f1⟩ : S42)]) := ⟨_, rfl⟩
     replace H : (spec_l2Set.l1 k2 x4_1 y192 (wrap64 (x7_2 + 1))) = some (r1, r2) := yb_
     have Ny192 := Aside0.mk hy_
     clear hy_
     have H' := Aside0.mk H
     clear H
     obtain ⟨Ao18, co18, eo18⟩ := Kd.N_slice HO_4.out
     subst eo18
     have p188 : 0 ≤ (x7_2 : Int) := cd_
     have q188 : x7_2 < (x4_1.length : Int) := cd_
     obtain ⟨ad188, A188_0, c188_0, e188, hx188_0, hx188_1, hl188_0, hi188_0⟩ := at_T42 (Kd.N_reads' HO_4.out).2.2 x7_2 p188 q188
     cases e188
     obtain ⟨ce188, hce188, hMe188, hcc188⟩ := Kd.N_get HO_4.out z42 x7_2 p188 (by first | exact q188 | exact of_decide_eq_true ca_ | (have e_ := (Kd.N_reads' HO_4.out).1; omega))
     obtain ⟨ua188_0, uc188_0, rfl, ul188_0, ge188_0⟩ := k42_openF hMe188
     have hv188_0 := hcc188 0 _ rfl
     rw [Nat.add_zero] at hv188_0
     replace hv188_0 := Option.some.inj (hv188_0.symm.trans hx188_0)
     injection hv188_0 with hva_ hvn_ hvc_
     rw [hva_] at ge188_0
     rw [hvc_] at ul188_0
     have HL188_0 := Aside0.mk (show Kd.V (Kd.int .i64) 2 _ w.heap.size _ _ ((rd_T42 x4_1 x7_2).f0) from Kd.V_mk ul188_0 ge188_0)
     clear hva_ hvn_ hvc_ ge188_0 ul188_0
     clear hcc188 hce188
     have HR188_0 := Aside0.mk hi188_0
     have HC188_0 := Aside0.mk hl188_0
     clear hi188_0 hl188_0
     replace p188 := eq_true p188
     replace q188 := eq_true q188
     go_wp2_with (first | (refine gl_ 45 (some 33) Try.func45 #[.int .i64 ((rd_T42 x4_1 x7_2).f1)] ?_; (with_reducible refine (spec_l1Weight.calls ((rd_T42 x4_1 x7_2).f1) true _ A13.out).mono ?_); rintro e w' ⟨rfl, ⟨nd, rfl⟩⟩; refine ⟨_, rfl, ?_⟩; have p190 : 0 ≤ (x7_2 : Int) := cd_; have q190 : x7_2 < (x4_1.length : Int) := cd_; obtain ⟨ad190, A190_0, c190_0, e190, hx190_0, hx190_1, hl190_0, hi190_0⟩ := at_T42 (Kd.N_reads' HO_4.out).2.2 x7_2 p190 q190; obtain rfl : ad188 = ad190 := (by injection e190); obtain ⟨ce190, hce190, hMe190, hcc190⟩ := Kd.N_get HO_4.out z42 x7_2 p190 (by first | exact q190 | exact of_decide_eq_true ca_ | (have e_ := (Kd.N_reads' HO_4.out).1; omega)); obtain ⟨ua190_0, uc190_0, rfl, ul190_0, ge190_0⟩ := k42_openF hMe190; have hv190_0 := hcc190 0 _ rfl; rw [Nat.add_zero] at hv190_0; replace hv190_0 := Option.some.inj (hv190_0.symm.trans hx190_0); injection hv190_0 with hva_ hvn_ hvc_; rw [hva_] at ge190_0; rw [hvc_] at ul190_0; have HL190_0 := Aside0.mk (show Kd.V (Kd.int .i64) 2 _ w.heap.size _ _ ((rd_T42 x4_1 x7_2).f0) from Kd.V_mk ul190_0 ge190_0); clear hva_ hvn_ hvc_ ge190_0 ul190_0; clear hcc190 hce190; have HR190_0 := Aside0.mk hi190_0; have HC190_0 := Aside0.mk hl190_0; clear hi190_0 hl190_0; replace p190 := eq_true p190; replace q190 := eq_true q190; have ea_ := Option.some.inj (hx188_0.symm.trans hx190_0); injection ea_ with ea_ en_ ec_; subst ea_; subst ec_; clear en_; have p191 : 0 ≤ (x7_2 : Int) := cd_; have q191 : x7_2 < (x4_1.length : Int) := cd_; obtain ⟨ad191, A191_0, c191_0, e191, hx191_0, hx191_1, hl191_0, hi191_0⟩ := at_T42 (Kd.N_reads' HO_4.out).2.2 x7_2 p191 q191; obtain rfl : ad188 = ad191 := (by injection e191); obtain ⟨ce191, hce191, hMe191, hcc191⟩ := Kd.N_get HO_4.out z42 x7_2 p191 (by first | exact q191 | exact of_decide_eq_true ca_ | (have e_ := (Kd.N_reads' HO_4.out).1; omega)); obtain ⟨ua191_0, uc191_0, rfl, ul191_0, ge191_0⟩ := k42_openF hMe191; have hv191_0 := hcc191 0 _ rfl; rw [Nat.add_zero] at hv191_0; replace hv191_0 := Option.some.inj (hv191_0.symm.trans hx191_0); injection hv191_0 with hva_ hvn_ hvc_; rw [hva_] at ge191_0; rw [hvc_] at ul191_0; have HL191_0 := Aside0.mk (show Kd.V (Kd.int .i64) 2 _ w.heap.size _ _ ((rd_T42 x4_1 x7_2).f0) from Kd.V_mk ul191_0 ge191_0); clear hva_ hvn_ hvc_ ge191_0 ul191_0; clear hcc191 hce191; have HR191_0 := Aside0.mk hi191_0; have HC191_0 := Aside0.mk hl191_0; clear hi191_0 hl191_0; replace p191 := eq_true p191; replace q191 := eq_true q191; have ea_ := Option.some.inj (hx188_0.symm.trans hx191_0); injection ea_ with ea_ en_ ec_; subst ea_; subst ec_; clear en_) | ((with_reducible refine gate_builtin (b := .append) (xs := #[.tmp 41, .tmp 46]) rfl ?_); at_builtin; refine Kd.N_append k42 (w0 := w) w.heap.size rfl (.tmp 41) (.tmp 46) 24 42 (.agg #[(.slice none 0 0), (.int .i64 0)]) 32 rfl Try.underlying24 info42 rfl (by decide) (by omega) u6 x6_2 (⟨(rd_T42 x4_1 x7_2).f0, (rd_T42 x4_1 x7_2).f1⟩ : S42) [.slice A188_0 ((rd_T42 x4_1 x7_2).f0).length c188_0, .int .i64 ((rd_T42 x4_1 x7_2).f1)] (fun k_ => (w.heap.size ≤ k_) ∧ some k_ ≠ (.slice (some ad188) x4_1.length co18 : Value).ownBlock) (fun k_ => ((fun k_ => (w.heap.size ≤ k_) ∧ some k_ ≠ (.slice (some ad188) x4_1.length co18 : Value).ownBlock)) k_ ∧ some k_ ≠ (u6 : Value).ownBlock) rfl rfl ?aP (fun _ hk => hk) ?aF ?aO ?aB ?aS ?aL ?_; (case aP => exact (by exact (k42_mkF _ _ (⟨(rd_T42 x4_1 x7_2).f0, (rd_T42 x4_1 x7_2).f1⟩ : S42) (Kd.V_reads' (Kd.V_mono (ok' := (fun k_ => ((fun k_ => (w.heap.size ≤ k_) ∧ some k_ ≠ (.slice (some ad188) x4_1.length co18 : Value).ownBlock)) k_ ∧ some k_ ≠ (u6 : Value).ownBlock)) (HL191_0.out) (fun k_ hk => ⟨⟨hk.1.1, hk.2⟩, hk.1.2⟩))).2.1 (Kd.V_F (by refine cV_ ?_; exact Kd.V_mono (ok' := (fun k_ => ((fun k_ => (w.heap.size ≤ k_) ∧ some k_ ≠ (.slice (some ad188) x4_1.length co18 : Value).ownBlock)) k_ ∧ some k_ ≠ (u6 : Value).ownBlock)) (HL191_0.out) (fun k_ hk => ⟨⟨hk.1.1, hk.2⟩, hk.1.2⟩)))))); (case aB => exact cB0_); (case aF => exact (by exact (fun k_ hk => ⟨(Nat.le_trans (below_size cB0_) hk), Kd.fresh' (Kd.N_lt (cN_ HO_4.out)) k_ hk⟩))); (case aO => exact (by exact cN_ HO_6.out)); (case aS => exact (by exact (below_size cB0_))); (case aL => exact co_ LMc17.out); intro v193 w19 ho hb hg hat; rw [← Ny192.out] at ho; replace HO_4 := Aside0.mk (Kd.N_afterv (ok := (fun k_ => (w.heap.size ≤ k_))) (cN_ HO_4.out) hg hat); replace HL188_0 := Aside0.mk (Kd.V_afterv (ok := (fun k_ => (w.heap.size ≤ k_) ∧ some k_ ≠ (.slice (some ad188) x4_1.length co18 : Value).ownBlock)) (by refine cV_ ?_; exact Kd.V_mono HL188_0.out (fun _ hk => ⟨⟨hk.1.1, hk.2⟩, hk.1.2⟩)) hg hat); replace HL190_0 := Aside0.mk (Kd.V_afterv (ok := (fun k_ => (w.heap.size ≤ k_) ∧ some k_ ≠ (.slice (some ad188) x4_1.length co18 : Value).ownBlock)) (by refine cV_ ?_; exact Kd.V_mono HL190_0.out (fun _ hk => ⟨⟨hk.1.1, hk.2⟩, hk.1.2⟩)) hg hat); replace HL191_0 := Aside0.mk (Kd.V_afterv (ok := (fun k_ => (w.heap.size ≤ k_) ∧ some k_ ≠ (.slice (some ad188) x4_1.length co18 : Value).ownBlock)) (by refine cV_ ?_; exact Kd.V_mono HL191_0.out (fun _ hk => ⟨⟨hk.1.1, hk.2⟩, hk.1.2⟩)) hg hat); replace HB := Aside0.mk (hb); have HO194 := Aside0.mk (ho); clear HO_6; clear ho hb hg hat))
     go_roundg k2
     case measure => have := HK1.out; have := HK2.out; omega
     case rel => exact ⟨(y192), (wrap64 (x7_2 + 1)), cs_, H', ⟨by have := HK1.out; have := HK2.out; omega⟩, ⟨cN_ HO_4.out⟩, ⟨cN_ HO194.out⟩, ⟨cB0_⟩⟩


/-! ### spec_l1Mul: function 115 -/
mutual
def spec_l1Mul.j0 : Nat → Int → Int → Bool → Option (Int × Bool)
 | 0, _, _, _ => none
 | k + 1, x0, x1, x13 => if x13 = true then (some (0, true)) else (if x0 < 0 then (spec_l1Mul.j1 k x0 x1 (wrap64 (-x0))) else (spec_l1Mul.j1 k x0 x1 x0))
def spec_l1Mul.j1 : Nat → Int → Int → Int → Option (Int × Bool)
 | 0, _, _, _ => none
 | k + 1, x0, x1, x6 => if x1 < 0 then (if (wrap64 (-x1)) = 0 then (none) else (if x6 > (wrap64 (Int.tdiv (1000000000000 : Int) (wrap64 (-x1)))) then (some (0, false)) else (some (wrap64 (x0 * x1), true)))) else (if x1 = 0 then (none) else (if x6 > (wrap64 (Int.tdiv (1000000000000 : Int) x1)) then (some (0, false)) else (some (wrap64 (x0 * x1), true))))
end
def spec_l1Mul.f (k : Nat) (a0 : Int) (a1 : Int) : Option (Int × Bool) := if a0 = 0 then (spec_l1Mul.j0 k a0 a1 true) else (spec_l1Mul.j0 k a0 a1 (a1 == 0))
theorem spec_l1Mul.mono_l : ∀ k, (∀ y0 y1 y2, LeO (spec_l1Mul.j0 k y0 y1 y2) (spec_l1Mul.j0 (k + 1) y0 y1 y2)) ∧ (∀ y0 y1 y2, LeO (spec_l1Mul.j1 k y0 y1 y2) (spec_l1Mul.j1 (k + 1) y0 y1 y2))
 | 0 => ⟨fun _ _ _ r h => by simp [spec_l1Mul.j0] at h, fun _ _ _ r h => by simp [spec_l1Mul.j1] at h⟩
 | k + 1 => by
  obtain ⟨ih0, ih1⟩ := spec_l1Mul.mono_l k
  refine ⟨?_, ?_⟩
  ·intro y0 y1 y2
   unfold spec_l1Mul.j0
   repeat' first
   | (with_reducible exact ih0 _ _ _)
   | (with_reducible exact ih1 _ _ _)
   | (with_reducible exact LeO.refl _)
   | (with_reducible exact LeO.none _)
   | (with_reducible refine LeO.ite ?_ ?_)
   | (with_reducible refine LeO.bind ?_ (fun _ => ?_))
   | refine LeO.ite ?_ ?_
   | refine LeO.bind ?_ (fun _ => ?_)
  ·intro y0 y1 y2
   unfold spec_l1Mul.j1
   repeat' first
   | (with_reducible exact ih0 _ _ _)
   | (with_reducible exact ih1 _ _ _)
   | (with_reducible exact LeO.refl _)
   | (with_reducible exact LeO.none _)
   | (with_reducible refine LeO.ite ?_ ?_)
   | (with_reducible refine LeO.bind ?_ (fun _ => ?_))
   | refine LeO.ite ?_ ?_
   | refine LeO.bind ?_ (fun _ => ?_)
theorem spec_l1Mul.mono : ∀ a0 a1 k, LeO (spec_l1Mul.f k a0 a1) (spec_l1Mul.f (k + 1) a0 a1) := by
 intro a0 a1 k
 obtain ⟨ih0, ih1⟩ := spec_l1Mul.mono_l k
 unfold spec_l1Mul.f
 repeat' first
   | (with_reducible exact ih0 _ _ _)
   | (with_reducible exact ih1 _ _ _)
   | (with_reducible exact LeO.refl _)
   | (with_reducible exact LeO.none _)
   | (with_reducible refine LeO.ite ?_ ?_)
   | (with_reducible refine LeO.bind ?_ (fun _ => ?_))
   | refine LeO.ite ?_ ?_
   | refine LeO.bind ?_ (fun _ => ?_)
theorem spec_l1Mul.calls (k : Nat) (a0 : Int) (a1 : Int) (r1 : Int) (r2 : Bool) (w : World) (h : spec_l1Mul.f k a0 a1 = some (r1, r2)) :
  Calls Try.prog 115 #[.int .i64 a0, .int .i64 a1] w fun e w' => e = .returned (.tuple #[.int .i64 r1, .bool r2]) ∧ Drawn0 w w' := by
 have H : (if a0 = 0 then (spec_l1Mul.j0 k a0 a1 true) else (spec_l1Mul.j0 k a0 a1 (a1 == 0))) = some (r1, r2) := h
 clear h
 have HC3 := Aside0.mk H
 clear H
 go_enter Try.func115, Try.ntmps115
 go_upto_region 1 with (fail)
 go_cut [13] (fun v13 wc => ∃ (kq : Nat) (x13_2 : Bool), v13 = .bool x13_2 ∧ Aside0 (spec_l1Mul.j0 kq a0 a1 x13_2 = some (r1, r2)) ∧ Aside0 (kq ≤ k) ∧ Drawn0 w wc)
 case first =>
  have H := HC3.out
  clear HC3
  by_cases c4 : a0 = 0
  ·rw [if_pos c4] at H
   have c4b0 : (a0 == 0) = true := beq_iff_eq.mpr c4
   have c4b1 : (a0 != 0) = false := bne_eq_false_iff_eq.mpr c4
   clear c4
   (first | rw [c4b0] | (simp only [i64_w, i32_w]; rw [c4b0]) | skip)
   have H' := Aside0.mk H
   clear H
   go_wp2
   go_meet
   case rel => exact ⟨_, (true), cs_, H', ⟨cm_⟩, cD_⟩
  rw [if_neg c4] at H
  have c4b0 : (a0 == 0) = false := beq_eq_false_iff_ne.mpr c4
  have c4b1 : (a0 != 0) = true := bne_iff_ne.mpr c4
  (first | rw [c4b0] | (simp only [i64_w, i32_w]; rw [c4b0]) | skip)
  have H' := Aside0.mk H
  clear H
  go_wp2
  go_meet
  case rel => exact ⟨_, ((a1 == 0)), cs_, H', ⟨cm_⟩, cD_⟩
 case rest =>
  clear HC3
  try clear c1
  try clear p2
  try clear c4
  try clear c4b0
  try clear c4b1
  obtain ⟨kq, x13_2, rfl, HA, HJ2, ⟨mc2, rfl⟩⟩ := hcut
  cases kq with
  | zero => exact absurd HA.out (by simp [spec_l1Mul.j0])
  | succ kj2 =>
   have H := HA.out
   clear HA
   simp only [spec_l1Mul.j0] at H
   by_cases c5 : x13_2 = true
   ·subst c5
    rw [if_pos rfl] at H
    simp only [Option.some.injEq, Prod.mk.injEq] at H
    obtain ⟨rfl, rfl⟩ := H
    go_wp2
    go_ret2
    exact ⟨cs_, cD_⟩
   replace c5 := Bool.eq_false_iff.mpr c5
   subst c5
   rw [if_neg (show ¬ (false = true) by decide)] at H
   have HC6 := Aside0.mk H
   clear H
   go_upto_if 16 with (fail)
   go_cut [6] (fun v6 wc => ∃ (kq : Nat) (x6_5 : Int), v6 = .int .i64 x6_5 ∧ Aside0 (spec_l1Mul.j1 kq a0 a1 x6_5 = some (r1, r2)) ∧ Aside0 (kq ≤ kj2) ∧ Drawn0 w wc)
   case first =>
    have H := HC6.out
    clear HC6
    by_cases c7 : a0 < 0
    ·rw [if_pos c7] at H
     have c7b0 := decide_eq_true c7
     clear c7
     (first | rw [c7b0] | (simp only [i64_w, i32_w]; rw [c7b0]) | skip)
     have H' := Aside0.mk H
     clear H
     go_wp2
     go_meet
     case rel => exact ⟨_, (wrap64 (-a0)), cs_, H', ⟨by have := HJ2.out; first | omega | exact Nat.le_refl _⟩, cD_⟩
    rw [if_neg c7] at H
    have c7b0 := decide_eq_false c7
    clear c7
    (first | rw [c7b0] | (simp only [i64_w, i32_w]; rw [c7b0]) | skip)
    have H' := Aside0.mk H
    clear H
    go_wp2
    go_meet
    case rel => exact ⟨_, (a0), cs_, H', ⟨by have := HJ2.out; first | omega | exact Nat.le_refl _⟩, cD_⟩
   case rest =>
    clear HC6
    try clear c1
    try clear c2
    try clear p2
    try clear c4
    try clear c4b0
    try clear c4b1
    try clear c5
    try clear p6
    try clear c7
    try clear c7b0
    try clear p2
    obtain ⟨kq, x6_5, rfl, HA, HJ5, ⟨mc5, rfl⟩⟩ := hcut
    cases kq with
    | zero => exact absurd HA.out (by simp [spec_l1Mul.j1])
    | succ kj5 =>
     have H := HA.out
     clear HA
     simp only [spec_l1Mul.j1] at H
     by_cases c8 : a1 < 0
     ·rw [if_pos c8] at H
      have c8b0 := decide_eq_true c8
      clear c8
      by_cases c9 : (wrap64 (-a1)) = 0
      ·rw [if_pos c9] at H
       exact absurd H (by simp)
      rw [if_neg c9] at H
      have c9b0 : ((wrap64 (-a1)) == 0) = false := beq_eq_false_iff_ne.mpr c9
      have c9b1 : ((wrap64 (-a1)) != 0) = true := bne_iff_ne.mpr c9
      by_cases c10 : x6_5 > (wrap64 (Int.tdiv (1000000000000 : Int) (wrap64 (-a1))))
      ·rw [if_pos c10] at H
       have c10b0 : decide ((wrap64 (Int.tdiv (1000000000000 : Int) (wrap64 (-a1)))) < x6_5) = true := decide_eq_true c10
       clear c10
       simp only [Option.some.injEq, Prod.mk.injEq] at H
       obtain ⟨rfl, rfl⟩ := H
       go_wp2
       go_ret2
       exact ⟨cs_, cD_⟩
      rw [if_neg c10] at H
      have c10b0 : decide ((wrap64 (Int.tdiv (1000000000000 : Int) (wrap64 (-a1)))) < x6_5) = false := decide_eq_false c10
      clear c10
      simp only [Option.some.injEq, Prod.mk.injEq] at H
      obtain ⟨rfl, rfl⟩ := H
      go_wp2
      go_ret2
      exact ⟨cs_, cD_⟩
     rw [if_neg c8] at H
     have c8b0 := decide_eq_false c8
     clear c8
     by_cases c11 : a1 = 0
     ·rw [if_pos c11] at H
      exact absurd H (by simp)
     rw [if_neg c11] at H
     have c11b0 : (a1 == 0) = false := beq_eq_false_iff_ne.mpr c11
     have c11b1 : (a1 != 0) = true := bne_iff_ne.mpr c11
     by_cases c12 : x6_5 > (wrap64 (Int.tdiv (1000000000000 : Int) a1))
     ·rw [if_pos c12] at H
      have c12b0 : decide ((wrap64 (Int.tdiv (1000000000000 : Int) a1)) < x6_5) = true := decide_eq_true c12
      clear c12
      simp only [Option.some.injEq, Prod.mk.injEq] at H
      obtain ⟨rfl, rfl⟩ := H
      go_wp2
      go_ret2
      exact ⟨cs_, cD_⟩
     rw [if_neg c12] at H
     have c12b0 : decide ((wrap64 (Int.tdiv (1000000000000 : Int) a1)) < x6_5) = false := decide_eq_false c12
     clear c12
     simp only [Option.some.injEq, Prod.mk.injEq] at H
     obtain ⟨rfl, rfl⟩ := H
     go_wp2
     go_ret2
     exact ⟨cs_, cD_⟩

end Go.Proofs.Ythgmicingbjemaa.PFnJoins
