-- Written by fprint, a program of this session, out of Lean's own print of the translation. Lean checks it.
import Derived.Test.YthgmicingbjemaaDoorDense
import Derived.Test.YthgmicingbjemaaDoorShort
import Derived.Test.YthgmicingbjemaaDoorPFnSumsx0
import Derived.Test.YthgmicingbjemaaDoorPFnSumsx5
namespace Go.Proofs.YthgmicingbjemaaDoor.PFnSums
open Go.RowKit Go.Proofs.YthgmicingbjemaaDoorW.PrintWords Go.Proofs.YthgmicingbjemaaDoorW.PrintLast Go.Proofs.YthgmicingbjemaaDoorW.PrintMore
attribute [local go_sem] max2_int min2_int max_two min_two max_three min_three max_four min_four   -- for this text's walks alone
set_option linter.unusedVariables false
set_option linter.unusedSimpArgs false

theorem b6_0 {p : Prop} (h : p := by exact cB1_ GE118.out) : p := h
theorem b6_1 {p : Prop} (h : p := by exact cO_ BK118.out) : p := h
theorem b6_3 {p : Prop} (h : p := by exact cN_ HO_2.out) : p := h
theorem b6_4 {p : Prop} (h : p := by exact cC_ (Kd.C_below HR1_0.out HB.out)) : p := h
theorem b6_5 {p : Prop} (h : p := by exact (fun k_ hk => ⟨(Nat.le_trans (below_size b6_0) hk), Kd.freshB (g := gb118) (o := .cells #[.slice A1_0 l1_0.length c1_0, .int .i64 a1_1] 31 (0, 0)) b6_1 k_ hk⟩)) : p := h
theorem b6_6 {p : Prop} (h : p := by repeat (first | (with_reducible exact HR124_0.out) | (with_reducible refine Kd.C_alloc ?_ _) | (with_reducible refine Kd.C_drewN ?_ _) | (with_reducible refine Kd.C_drew ?_) | exact HR124_0.out)) : p := h
/-! ### spec_l2Put: function 42 -/
mutual
def spec_l2Put.j1 : Nat → List (S31) → Int → List Int → Int → Option ((List (S31)))
 | 0, _, _, _, _ => none
 | k + 1, x2, x5, x119000, x119001 => if x5 < (x2.length : Int) then (if 0 ≤ x5 then ((spec_CompareRows.f k ((rd_T31 x2 x5).f0) x119000).bind fun t125 => (if t125 = 0 then (some (x2.set (x5 : Int).toNat (⟨(rd_T31 x2 x5).f0, wrap64 (((rd_T31 x2 x5).f1) + x119001)⟩ : S31))) else ((some (([] : List (S31)) : List (S31))).bind fun y128 => (if x5 ≤ (x2.length : Int) then ((some (x2.take (x5 : Int).toNat : List (S31))).bind fun y131 => (if y128.length + y131.length < 4398046511104 then ((some (y128 ++ y131 : List (S31))).bind fun y136 => ((spec_l2Row.f x119000).bind fun t139 => (if y136.length < 4398046511104 then ((some (y136 ++ [(⟨t139, x119001⟩ : S31)] : List (S31))).bind fun y142 => ((some (x2.drop (x5 : Int).toNat : List (S31))).bind fun y145 => (if y142.length + y145.length < 4398046511104 then (some (y142 ++ y145)) else (none)))) else (none)))) else (none))) else (none))))) else (none)) else ((some (([] : List (S31)) : List (S31))).bind fun y153 => (if 0 ≤ x5 then (if x5 ≤ (x2.length : Int) then ((some (x2.take (x5 : Int).toNat : List (S31))).bind fun y156 => (if y153.length + y156.length < 4398046511104 then ((some (y153 ++ y156 : List (S31))).bind fun y161 => ((spec_l2Row.f x119000).bind fun t164 => (if y161.length < 4398046511104 then ((some (y161 ++ [(⟨t164, x119001⟩ : S31)] : List (S31))).bind fun y167 => ((some (x2.drop (x5 : Int).toNat : List (S31))).bind fun y170 => (if y167.length + y170.length < 4398046511104 then (some (y167 ++ y170)) else (none)))) else (none)))) else (none))) else (none)) else (none)))
def spec_l2Put.l0 : Nat → List (S31) → Int → List Int → Int → Option ((List (S31)))
 | 0, _, _, _, _ => none
 | k + 1, x2, x5, x119000, x119001 => if x5 < (x2.length : Int) then (if 0 ≤ x5 then ((spec_CompareRows.f k ((rd_T31 x2 x5).f0) x119000).bind fun t123 => (if t123 < 0 then (spec_l2Put.l0 k x2 (wrap64 (x5 + 1)) x119000 x119001) else (spec_l2Put.j1 k x2 x5 x119000 x119001))) else (none)) else (spec_l2Put.j1 k x2 x5 x119000 x119001)
end
def spec_l2Put.f (k : Nat) (l0 : List (S31)) (l1_0 : List Int) (a1_1 : Int) : Option ((List (S31))) := spec_l2Put.l0 k l0 0 l1_0 a1_1
theorem spec_l2Put.mono_l : ∀ k, (∀ y0 y1 y2 y3, LeO (spec_l2Put.j1 k y0 y1 y2 y3) (spec_l2Put.j1 (k + 1) y0 y1 y2 y3)) ∧ (∀ y0 y1 y2 y3, LeO (spec_l2Put.l0 k y0 y1 y2 y3) (spec_l2Put.l0 (k + 1) y0 y1 y2 y3))
 | 0 => ⟨fun _ _ _ _ r h => by simp [spec_l2Put.j1] at h, fun _ _ _ _ r h => by simp [spec_l2Put.l0] at h⟩
 | k + 1 => by
  obtain ⟨ih0, ih1⟩ := spec_l2Put.mono_l k
  refine ⟨?_, ?_⟩
  ·intro y0 y1 y2 y3
   unfold spec_l2Put.j1
   repeat' first
   | (with_reducible exact ih0 _ _ _ _)
   | (with_reducible exact ih1 _ _ _ _)
   | (with_reducible exact spec_CompareRows.mono _ _ _)
   | (with_reducible exact LeO.refl _)
   | (with_reducible exact LeO.none _)
   | (with_reducible refine LeO.ite ?_ ?_)
   | (with_reducible refine LeO.bind ?_ (fun _ => ?_))
   | exact ih0 _ _ _ _
   | exact ih1 _ _ _ _
   | exact spec_CompareRows.mono _ _ _
   | exact LeO.none _
   | refine LeO.ite ?_ ?_
   | refine LeO.bind ?_ (fun _ => ?_)
  ·intro y0 y1 y2 y3
   unfold spec_l2Put.l0
   repeat' first
   | (with_reducible exact ih0 _ _ _ _)
   | (with_reducible exact ih1 _ _ _ _)
   | (with_reducible exact spec_CompareRows.mono _ _ _)
   | (with_reducible exact LeO.refl _)
   | (with_reducible exact LeO.none _)
   | (with_reducible refine LeO.ite ?_ ?_)
   | (with_reducible refine LeO.bind ?_ (fun _ => ?_))
   | exact ih0 _ _ _ _
   | exact ih1 _ _ _ _
   | exact spec_CompareRows.mono _ _ _
   | exact LeO.none _
   | refine LeO.ite ?_ ?_
   | refine LeO.bind ?_ (fun _ => ?_)
theorem spec_l2Put.mono : ∀ a0 a1 a2 k, LeO (spec_l2Put.f k a0 a1 a2) (spec_l2Put.f (k + 1) a0 a1 a2) := by
 intro a0 a1 a2 k
 obtain ⟨ih0, ih1⟩ := spec_l2Put.mono_l k
 unfold spec_l2Put.f
 repeat' first
   | (with_reducible exact ih0 _ _ _ _)
   | (with_reducible exact ih1 _ _ _ _)
   | (with_reducible exact spec_CompareRows.mono _ _ _)
   | (with_reducible exact LeO.refl _)
   | (with_reducible exact LeO.none _)
   | (with_reducible refine LeO.ite ?_ ?_)
   | (with_reducible refine LeO.bind ?_ (fun _ => ?_))
   | exact ih0 _ _ _ _
   | exact ih1 _ _ _ _
   | exact spec_CompareRows.mono _ _ _
   | exact LeO.none _
   | refine LeO.ite ?_ ?_
   | refine LeO.bind ?_ (fun _ => ?_)
def spec_l2Put.T2 : Bool × List (List Nat × List Nat) := (true, [([], []), ([], []), ([1], [1]), ([0, 2], [0, 2]), ([3], [3]), ([4], [4]), ([4], [4]), ([5, 6, 4], [4, 5, 6]), ([7, 4], [4, 7]), ([8, 4], [4, 8]), ([4], [4]), ([10, 4], [4, 10]), ([9, 11, 4, 4], [4, 9, 11]), ([12, 4], [4, 12]), ([4, 13], [4, 13])])
def spec_l2Put.B2 : List Nat := [0, 0, 2, 7, 15, 31, 31, 127, 255, 511, 31, 1055, 4095, 8191, 16383]
theorem spec_l2Put.tab2 : rtab .any (opsOf Tryd.f42 2) = spec_l2Put.T2 := by kernel_rfl
theorem spec_l2Put.bits2 : waitsOk spec_l2Put.T2.2 spec_l2Put.B2 = true := by kernel_rfl
def spec_l2Put.T4 : Bool × List (List Nat × List Nat) := (true, [([], []), ([], []), ([1], [1]), ([0, 2], [0, 2]), ([3], [3]), ([4], [4]), ([4], [4]), ([5, 6, 4], [4, 5, 6]), ([7, 4], [4, 7]), ([8, 4], [4, 8]), ([4], [4]), ([10, 4], [4, 10]), ([9, 11, 4, 4], [4, 9, 11]), ([12, 4], [4, 12]), ([4, 13], [4, 13])])
def spec_l2Put.B4 : List Nat := [0, 0, 2, 7, 15, 31, 31, 127, 255, 511, 31, 1055, 4095, 8191, 16383]
theorem spec_l2Put.tab4 : rtab .any (opsOf Tryd.f42 4) = spec_l2Put.T4 := by kernel_rfl
theorem spec_l2Put.bits4 : waitsOk spec_l2Put.T4.2 spec_l2Put.B4 = true := by kernel_rfl
def spec_l2Put.T5 : Bool × List (List Nat × List Nat) := (true, [([], []), ([], []), ([], []), ([], []), ([2, 3], [2, 3]), ([4], [4]), ([5], [5]), ([], []), ([7], [7]), ([6, 8], [6, 8]), ([0, 1, 0, 1, 2, 3, 4, 5, 6, 7, 8, 9], [0, 1]), ([10, 0, 1, 2, 3, 4, 5, 6, 7, 8, 9], [10]), ([11, 9, 0, 1, 2, 3, 4, 5, 6, 7, 8, 9], [9, 11])])
def spec_l2Put.B5 : List Nat := [0, 0, 0, 0, 12, 28, 60, 0, 128, 508, 1023, 2047, 4095]
theorem spec_l2Put.tab5 : rtab .any (opsOf Tryd.f42 5) = spec_l2Put.T5 := by kernel_rfl
theorem spec_l2Put.bits5 : waitsOk spec_l2Put.T5.2 spec_l2Put.B5 = true := by kernel_rfl
def spec_l2Put.T7 : Bool × List (List Nat × List Nat) := (true, [([], []), ([], []), ([], []), ([1, 2], [1, 2]), ([0, 3], [0, 3]), ([], []), ([5], [5]), ([6, 4], [6]), ([], []), ([8], [8]), ([7, 9], [7, 9]), ([10], [10]), ([4, 11, 7], [4, 11]), ([], []), ([], []), ([13, 14], [13, 14]), ([12, 15, 12], [12, 15]), ([16, 16, 0, 1, 2, 3, 4, 5, 6, 7, 8, 9, 10, 11, 12, 13, 14, 15, 16], [16])])
def spec_l2Put.B7 : List Nat := [0, 0, 0, 6, 15, 0, 32, 127, 0, 256, 1023, 2047, 4095, 0, 0, 24576, 65535, 131071]
theorem spec_l2Put.tab7 : rtab .any (opsOf Tryd.f42 7) = spec_l2Put.T7 := by kernel_rfl
theorem spec_l2Put.bits7 : waitsOk spec_l2Put.T7.2 spec_l2Put.B7 = true := by kernel_rfl
set_option maxHeartbeats 8000000 in
set_option maxRecDepth 100000 in
theorem spec_l2Put.calls (k : Nat) (v : Value) (l0 : List (S31)) (A1_0 : Option Addr) (c1_0 : Nat) (l1_0 : List Int) (a1_1 : Int) (r : List (S31)) (w W0_ : World) (hB0 : Below w.heap.size w W0_) (hN : Kd.N k31 31 W0_ w.heap.size (fun k_ => (w.heap.size ≤ k_)) v l0) (hr1_0 : Kd.C (Kd.int .i64) w A1_0 l1_0.length l1_0) (hc1_0 : l1_0.length ≤ c1_0) (h : spec_l2Put.f k l0 l1_0 a1_1 = some r) :
  Calls Tryd.prog 42 #[v, .agg #[.slice A1_0 l1_0.length c1_0, .int .i64 a1_1]] W0_ fun e w' => ∃ v0_ : Value, e = .returned (v0_) ∧ Kd.N k31 31 w' w.heap.size (fun k_ => (w.heap.size ≤ k_)) v0_ r ∧ Below w.heap.size w w' := by
 have huE_ := Tryd.underlying31
 have HN := Aside0.mk hN
 have HB := Aside0.mk hB0
 clear hN hB0
 have HR1_0 := Aside0.mk hr1_0
 have HC1_0 := Aside0.mk hc1_0
 clear hr1_0 hc1_0
 have H : (spec_l2Put.l0 k l0 0 l1_0 a1_1) = some r := h
 clear h
 have HC3 := Aside0.mk H
 clear H
 go_enter Tryd.func42, Tryd.ntmps42
 go_upto_block 0 with (first | (refine bx_ 3 #[.slice A1_0 l1_0.length c1_0, .int .i64 a1_1] 31 ?_; intro gb118 hg w4 hbox hb; have n0_ := Aside0.mk (below_step cB0_ hb); have n1_ := Aside0.mk (hbox); have n2_ := Aside0.mk ((by rw [hg]; exact (below_size cB0_) : w.heap.size ≤ gb118)); have n3_ := Aside0.mk ((by rw [hg]; exact (below_size cB0_) : w.heap.size ≤ gb118)); have n4_ := Aside0.mk (show Kd.N k31 31 w4 w.heap.size (fun k_ => (w.heap.size ≤ k_) ∧ k_ ≠ gb118) v l0 from Kd.N_below (Kd.N_elderB (cN_ HN.out) _ (Nat.le_of_eq hg.symm)) hb); clear HB; clear HN; have HO121 := n4_; clear n4_; have HB := n0_; have BK118 := n1_; have GW118 := n2_; have GE118 := n3_; clear n0_ n1_ n2_ n3_; clear hb hbox hg))
 (try simp only [Act.put, List.setIfInBounds_toArray, List.set_cons_zero, List.set_cons_succ])
 go_cut [5] (fun v5 wc => ∃ (kq : Nat) (x5_2 : Int), v5 = .int .i64 x5_2 ∧ Aside0 (spec_l2Put.j1 kq l0 x5_2 l1_0 a1_1 = some r) ∧ Aside0 (kq ≤ k) ∧ Aside0 (Kd.N k31 31 wc w.heap.size (fun k_ => (w.heap.size ≤ k_) ∧ k_ ≠ gb118) v l0) ∧ Aside0 (wc.heap[gb118]? = some (.cells #[(.slice A1_0 l1_0.length c1_0), .int .i64 a1_1] 31 (0, 0))) ∧ Aside0 (Below w.heap.size w wc))
 case first =>
  have H := HC3.out
  clear HC3
  have H' := Aside0.mk H
  clear H
  go_wp2
  go_loopg [5] k (fun kq v5 w' => ∃ (x5_1 : Int), v5 = .int .i64 x5_1 ∧ Aside0 (spec_l2Put.l0 kq l0 x5_1 l1_0 a1_1 = some r) ∧ Aside0 (kq ≤ k) ∧ Aside0 (Kd.N k31 31 w' w.heap.size (fun k_ => (w.heap.size ≤ k_) ∧ k_ ≠ gb118) v l0) ∧ Aside0 (w'.heap[gb118]? = some (.cells #[(.slice A1_0 l1_0.length c1_0), .int .i64 a1_1] 31 (0, 0))) ∧ Aside0 (Below w.heap.size w w'))
  case atStart => exact ⟨(0), cs_, H', ⟨Nat.le_refl _⟩, ⟨cN_ HO121.out⟩, ⟨cO_ BK118.out⟩, ⟨cB1_ GE118.out⟩⟩
  case round =>
   clear H'
   try clear c1
   try clear p2
   obtain ⟨x5_1, rfl, HA, HK1, HO_2, BK118, HB⟩ := hrel
   cases gk with
   | zero => exact absurd HA.out (by simp [spec_l2Put.l0])
   | succ k1 =>
    have H := HA.out
    clear HA
    simp only [spec_l2Put.l0] at H
    by_cases c7 : x5_1 < (l0.length : Int)
    rotate_left
    ·rw [if_neg c7] at H
     have c7b0 : decide (x5_1 < (l0.length : Int)) = false := decide_eq_false c7
     clear c7
     (first | rw [c7b0] | (simp only [i64_w, i32_w]; rw [c7b0]) | skip)
     have H' := Aside0.mk H
     clear H
     try go_wp2
     replace HO_2 := Aside0.mk (Kd.N_drew HO_2.out)
     replace BK118 := Aside0.mk (blk_drew BK118.out)
     replace HB := Aside0.mk (below_drew1 HB.out)
     obtain ⟨Ao16, co16, eo16⟩ := Kd.N_slice HO_2.out
     (first | subst eo16 | (injection eo16 with f1_ f2_ f3_; have f4_ := f1_.symm; have f5_ := f3_.symm; clear f1_ f2_ f3_; subst f4_; subst f5_))
     refine start_ (n := 15) (S := fun w' => True) (ds := []) (bl 15 0) (by kernel_rfl) rfl rfl trivial (fun hHeld => ?_); refine with_tabW spec_l2Put.tab2 spec_l2Put.bits2 (fun HT_ HW_ => ?_)
     generalize wr.drew = w15 at HO_2 BK118 HB hHeld ⊢
     refine pu_ 0 (some 6) (bl 15 1) HT_.out rfl ?_
     refine pu_ 1 (some 7) (bl 15 3) HT_.out rfl ?_
     refine pu_ 2 (some 8) (bl 15 7) HT_.out rfl ?_
     refine pu_ 3 (some 9) (bl 15 15) HT_.out rfl ?_
     refine pu_ 4 (some 10) (bl 15 31) HT_.out rfl ?_
     refine un_ 5 (some 11) (bl 15 63) HT_.out rfl ?_
     refine un_ 6 (some 12) (bl 15 127) HT_.out rfl ?_
     refine un_ 7 (some 13) (bl 15 255) HT_.out rfl ?_
     refine un_ 8 (some 14) (bl 15 511) HT_.out rfl ?_
     refine un_ 9 (some 15) (bl 15 1023) HT_.out rfl ?_
     refine un_ 10 (some 16) (bl 15 2047) HT_.out rfl ?_
     refine un_ 11 (some 17) (bl 15 4095) HT_.out rfl ?_
     refine un_ 12 (some 18) (bl 15 8191) HT_.out rfl ?_
     refine un_ 13 (some 19) (bl 15 16383) HT_.out rfl ?_
     refine pu_ 14 (some 20) (bl 15 32767) HT_.out rfl ?_
     refine done_ (done_of HT_.out (by kernel_rfl)) ?_
     try go_wp2
     go_meet
     case rel => exact ⟨_, (x5_1), cs_, H', ⟨by have := HK1.out; first | omega | exact Nat.le_refl _⟩, ⟨cN_ HO_2.out⟩, ⟨cO_ BK118.out⟩, ⟨cB1_ GE118.out⟩⟩
    rw [if_pos c7] at H
    have c7b0 : decide (x5_1 < (l0.length : Int)) = true := decide_eq_true c7
    clear c7
    (first | rw [c7b0] | (simp only [i64_w, i32_w]; rw [c7b0]) | skip)
    by_cases c8 : 0 ≤ x5_1
    rotate_left
    ·rw [if_neg c8] at H
     exact absurd H (by simp)
    rw [if_pos c8] at H
    have c8b0 : decide (0 ≤ x5_1) = true := decide_eq_true c8
    clear c8
    obtain ⟨t123, A9, H⟩ := bnd_ H
    try dsimp only at H
    by_cases c10 : t123 < 0
    ·rw [if_pos c10] at H
     have c10b0 : decide (t123 < 0) = true := decide_eq_true c10
     clear c10
     have H' := Aside0.mk H
     clear H
     try go_wp2
     replace HO_2 := Aside0.mk (Kd.N_drew HO_2.out)
     replace BK118 := Aside0.mk (blk_drew BK118.out)
     replace HB := Aside0.mk (below_drew1 HB.out)
     obtain ⟨Ao12, co12, eo12⟩ := Kd.N_slice HO_2.out
     (first | subst eo12 | (injection eo12 with f1_ f2_ f3_; have f4_ := f1_.symm; have f5_ := f3_.symm; clear f1_ f2_ f3_; subst f4_; subst f5_))
     have p122 : 0 ≤ (x5_1 : Int) := of_decide_eq_true ca_
     have q122 : x5_1 < (l0.length : Int) := of_decide_eq_true ca_
     obtain ⟨ad122, A122_0, c122_0, e122, hx122_0, hx122_1, hl122_0, hi122_0⟩ := at_T31 (Kd.N_reads' HO_2.out).2.2 x5_1 p122 q122
     cases e122
     obtain ⟨ce122, hce122, hMe122, hcc122⟩ := Kd.N_get HO_2.out z31 x5_1 p122 (by first | exact q122 | exact of_decide_eq_true ca_ | (have e_ := (Kd.N_reads' HO_2.out).1; omega))
     obtain ⟨ua122_0, uc122_0, rfl, ul122_0, ge122_0⟩ := k31_openF hMe122
     have hv122_0 := hcc122 0 _ rfl
     rw [Nat.add_zero] at hv122_0
     replace hv122_0 := Option.some.inj (hv122_0.symm.trans hx122_0)
     injection hv122_0 with hva_ hvn_ hvc_
     rw [hva_] at ge122_0
     rw [hvc_] at ul122_0
     have HL122_0 := Aside0.mk (show Kd.V (Kd.int .i64) 2 _ w.heap.size _ _ ((rd_T31 l0 x5_1).f0) from Kd.V_mk ul122_0 ge122_0)
     clear hva_ hvn_ hvc_ ge122_0 ul122_0
     clear hcc122 hce122
     have HR122_0 := Aside0.mk hi122_0
     have HC122_0 := Aside0.mk hl122_0
     clear hi122_0 hl122_0
     replace p122 := eq_true p122
     replace q122 := eq_true q122
     refine start_ (n := 15) (S := fun w' => w'.cell? ⟨gb118, 0, none⟩ = some (.slice A1_0 l1_0.length c1_0) ∧ w'.cell? ⟨gb118, 1, none⟩ = some (.int .i64 a1_1) ∧ w'.cell? (ad122.add ((x5_1).toNat * 2)) = some (.slice A122_0 ((rd_T31 l0 x5_1).f0).length c122_0) ∧ w'.cell? ⟨(ad122.add ((x5_1).toNat * 2)).block, (ad122.add ((x5_1).toNat * 2)).off + 1, none⟩ = some (.int .i64 ((rd_T31 l0 x5_1).f1))) (ds := []) (bl 15 0) (by kernel_rfl) rfl rfl ⟨(blk_cell BK118.out 0).trans rfl, (blk_cell BK118.out 1).trans rfl, hx122_0, hx122_1⟩ (fun hHeld => ?_); refine with_tabW spec_l2Put.tab2 spec_l2Put.bits2 (fun HT_ HW_ => ?_)
     generalize wr.drew = w11 at HO_2 BK118 HB HL122_0 HR122_0 hx122_0 hx122_1 hHeld ⊢
     refine pu_ 0 (some 6) (bl 15 1) HT_.out rfl ?_
     refine pu_ 1 (some 7) (bl 15 3) HT_.out rfl ?_
     refine pu_ 2 (some 8) (bl 15 7) HT_.out rfl ?_
     refine pu_ 3 (some 9) (bl 15 15) HT_.out rfl ?_
     refine pu_ 4 (some 10) (bl 15 31) HT_.out rfl ?_
     refine pu_ 5 (some 11) (bl 15 63) HT_.out rfl ?_
     refine pu_ 6 (some 12) (bl 15 127) HT_.out rfl ?_
     refine pu_ 7 (some 13) (bl 15 255) HT_.out rfl ?_
     refine pu_ 8 (some 14) (bl 15 511) HT_.out rfl ?_
     refine pu_ 10 (some 16) (bl 15 1535) HT_.out rfl ?_
     refine tw_ 9 (some 15) (bl 15 2047) HT_.out HW_.out rfl hHeld (fun w' s_ => by obtain ⟨s0, s1, s2, s3⟩ := s_; go_simp; with_reducible rfl) ?_
     refine tw_ 11 (some 17) (bl 15 4095) HT_.out HW_.out rfl hHeld (fun w' s_ => by obtain ⟨s0, s1, s2, s3⟩ := s_; go_simp; with_reducible rfl) ?_
     refine on_ 12 (some 18) (bl 15 8191) HT_.out rfl (fun K hK => ?_)
     refine goes_ Tryd.func56 (by kernel_rfl) rfl #[.slice A122_0 ((rd_T31 l0 x5_1).f0).length c122_0, .slice A1_0 l1_0.length c1_0] (by rfl) rfl rfl cx_ ?_
     with_reducible refine (spec_CompareRows.calls k1 _ _ ((rd_T31 l0 x5_1).f0) _ _ l1_0 t123 _ ?side1 ?side2 ?side3 ?side4 A9.out).mono ?_
     (case side1 => exact (by repeat (first | exact (by repeat (first | (with_reducible exact HR122_0.out) | (with_reducible refine Kd.C_alloc ?_ _) | (with_reducible refine Kd.C_drewN ?_ _) | (with_reducible refine Kd.C_drew ?_) | exact HR122_0.out)) | (with_reducible refine Kd.C_alloc ?_ _) | (with_reducible refine Kd.C_drewN ?_ _) | (with_reducible refine Kd.C_drew ?_))))
     (case side2 => exact HC122_0.out)
     (case side3 => exact b6_4)
     (case side4 => exact HC1_0.out)
     rintro e w' ⟨rfl, ⟨nd, rfl⟩⟩
     refine ⟨_, rfl, ?_⟩
     refine hK.out _ _ ⟨(blk_cell BK118.out 0).trans rfl, (blk_cell BK118.out 1).trans rfl, hHeld.2.2.1, hHeld.2.2.2⟩ (fun hHeld => ?_)
     clear hK K
     refine norm_ (a' := ?_) ?_ ?_
     rotate_left
     ·show Act.put _ (some 18) _ = _
      simp only [Act.put, List.setIfInBounds_toArray, List.set_cons_zero, List.set_cons_succ, i64_w, i32_w]
      rfl
     refine pu_ 13 (some 19) (bl 15 16383) HT_.out rfl ?_
     refine pu_ 14 (some 20) (bl 15 32767) HT_.out rfl ?_
     refine done_ (done_of HT_.out (by kernel_rfl)) ?_
     try go_wp2
     go_roundg k1
     case measure => have := HK1.out; omega
     case rel => exact ⟨(wrap64 (x5_1 + 1)), cs_, H', ⟨co_ HK1.out⟩, ⟨cN_ HO_2.out⟩, ⟨cO_ BK118.out⟩, ⟨cB1_ GE118.out⟩⟩
    rw [if_neg c10] at H
    have c10b0 : decide (t123 < 0) = false := decide_eq_false c10
    clear c10
    have H' := Aside0.mk H
    clear H
    try go_wp2
    replace HO_2 := Aside0.mk (Kd.N_drew HO_2.out)
    replace BK118 := Aside0.mk (blk_drew BK118.out)
    replace HB := Aside0.mk (below_drew1 HB.out)
    obtain ⟨Ao14, co14, eo14⟩ := Kd.N_slice HO_2.out
    (first | subst eo14 | (injection eo14 with f1_ f2_ f3_; have f4_ := f1_.symm; have f5_ := f3_.symm; clear f1_ f2_ f3_; subst f4_; subst f5_))
    have p122 : 0 ≤ (x5_1 : Int) := of_decide_eq_true ca_
    have q122 : x5_1 < (l0.length : Int) := of_decide_eq_true ca_
    obtain ⟨ad122, A122_0, c122_0, e122, hx122_0, hx122_1, hl122_0, hi122_0⟩ := at_T31 (Kd.N_reads' HO_2.out).2.2 x5_1 p122 q122
    cases e122
    obtain ⟨ce122, hce122, hMe122, hcc122⟩ := Kd.N_get HO_2.out z31 x5_1 p122 (by first | exact q122 | exact of_decide_eq_true ca_ | (have e_ := (Kd.N_reads' HO_2.out).1; omega))
    obtain ⟨ua122_0, uc122_0, rfl, ul122_0, ge122_0⟩ := k31_openF hMe122
    have hv122_0 := hcc122 0 _ rfl
    rw [Nat.add_zero] at hv122_0
    replace hv122_0 := Option.some.inj (hv122_0.symm.trans hx122_0)
    injection hv122_0 with hva_ hvn_ hvc_
    rw [hva_] at ge122_0
    rw [hvc_] at ul122_0
    have HL122_0 := Aside0.mk (show Kd.V (Kd.int .i64) 2 _ w.heap.size _ _ ((rd_T31 l0 x5_1).f0) from Kd.V_mk ul122_0 ge122_0)
    clear hva_ hvn_ hvc_ ge122_0 ul122_0
    clear hcc122 hce122
    have HR122_0 := Aside0.mk hi122_0
    have HC122_0 := Aside0.mk hl122_0
    clear hi122_0 hl122_0
    replace p122 := eq_true p122
    replace q122 := eq_true q122
    refine start_ (n := 15) (S := fun w' => w'.cell? ⟨gb118, 0, none⟩ = some (.slice A1_0 l1_0.length c1_0) ∧ w'.cell? ⟨gb118, 1, none⟩ = some (.int .i64 a1_1) ∧ w'.cell? (ad122.add ((x5_1).toNat * 2)) = some (.slice A122_0 ((rd_T31 l0 x5_1).f0).length c122_0) ∧ w'.cell? ⟨(ad122.add ((x5_1).toNat * 2)).block, (ad122.add ((x5_1).toNat * 2)).off + 1, none⟩ = some (.int .i64 ((rd_T31 l0 x5_1).f1))) (ds := []) (bl 15 0) (by kernel_rfl) rfl rfl ⟨(blk_cell BK118.out 0).trans rfl, (blk_cell BK118.out 1).trans rfl, hx122_0, hx122_1⟩ (fun hHeld => ?_); refine with_tabW spec_l2Put.tab2 spec_l2Put.bits2 (fun HT_ HW_ => ?_)
    generalize wr.drew = w13 at HO_2 BK118 HB HL122_0 HR122_0 hx122_0 hx122_1 hHeld ⊢
    refine pu_ 0 (some 6) (bl 15 1) HT_.out rfl ?_
    refine pu_ 1 (some 7) (bl 15 3) HT_.out rfl ?_
    refine pu_ 2 (some 8) (bl 15 7) HT_.out rfl ?_
    refine pu_ 3 (some 9) (bl 15 15) HT_.out rfl ?_
    refine pu_ 4 (some 10) (bl 15 31) HT_.out rfl ?_
    refine pu_ 5 (some 11) (bl 15 63) HT_.out rfl ?_
    refine pu_ 6 (some 12) (bl 15 127) HT_.out rfl ?_
    refine pu_ 7 (some 13) (bl 15 255) HT_.out rfl ?_
    refine pu_ 8 (some 14) (bl 15 511) HT_.out rfl ?_
    refine pu_ 10 (some 16) (bl 15 1535) HT_.out rfl ?_
    refine tw_ 9 (some 15) (bl 15 2047) HT_.out HW_.out rfl hHeld (fun w' s_ => by obtain ⟨s0, s1, s2, s3⟩ := s_; go_simp; with_reducible rfl) ?_
    refine tw_ 11 (some 17) (bl 15 4095) HT_.out HW_.out rfl hHeld (fun w' s_ => by obtain ⟨s0, s1, s2, s3⟩ := s_; go_simp; with_reducible rfl) ?_
    refine on_ 12 (some 18) (bl 15 8191) HT_.out rfl (fun K hK => ?_)
    refine goes_ Tryd.func56 (by kernel_rfl) rfl #[.slice A122_0 ((rd_T31 l0 x5_1).f0).length c122_0, .slice A1_0 l1_0.length c1_0] (by rfl) rfl rfl cx_ ?_
    with_reducible refine (spec_CompareRows.calls k1 _ _ ((rd_T31 l0 x5_1).f0) _ _ l1_0 t123 _ ?side1 ?side2 ?side3 ?side4 A9.out).mono ?_
    (case side1 => exact (by repeat (first | exact (by repeat (first | (with_reducible exact HR122_0.out) | (with_reducible refine Kd.C_alloc ?_ _) | (with_reducible refine Kd.C_drewN ?_ _) | (with_reducible refine Kd.C_drew ?_) | exact HR122_0.out)) | (with_reducible refine Kd.C_alloc ?_ _) | (with_reducible refine Kd.C_drewN ?_ _) | (with_reducible refine Kd.C_drew ?_))))
    (case side2 => exact HC122_0.out)
    (case side3 => exact b6_4)
    (case side4 => exact HC1_0.out)
    rintro e w' ⟨rfl, ⟨nd, rfl⟩⟩
    refine ⟨_, rfl, ?_⟩
    refine hK.out _ _ ⟨(blk_cell BK118.out 0).trans rfl, (blk_cell BK118.out 1).trans rfl, hHeld.2.2.1, hHeld.2.2.2⟩ (fun hHeld => ?_)
    clear hK K
    refine norm_ (a' := ?_) ?_ ?_
    rotate_left
    ·show Act.put _ (some 18) _ = _
     simp only [Act.put, List.setIfInBounds_toArray, List.set_cons_zero, List.set_cons_succ, i64_w, i32_w]
     rfl
    refine pu_ 13 (some 19) (bl 15 16383) HT_.out rfl ?_
    refine pu_ 14 (some 20) (bl 15 32767) HT_.out rfl ?_
    refine done_ (done_of HT_.out (by kernel_rfl)) ?_
    try go_wp2
    go_meet
    case rel => exact ⟨_, (x5_1), cs_, H', ⟨by have := HK1.out; first | omega | exact Nat.le_refl _⟩, ⟨cN_ HO_2.out⟩, ⟨cO_ BK118.out⟩, ⟨cB1_ GE118.out⟩⟩
 case rest =>
  clear HC3
  try clear c1
  try clear p1
  try clear q1
  try clear hx1
  try clear p2
  try clear p6
  try clear c7
  try clear c7b0
  try clear c8
  try clear c8b0
  try clear c9
  try clear c10
  try clear c10b0
  try clear c12
  try clear p12
  try clear q12
  try clear hx12
  try clear hx122_0
  try clear hx122_1
  try clear p122
  try clear p2
  try clear q122
  obtain ⟨kq, x5_2, rfl, HA, HJ2, HO_2, BK118, HB⟩ := hcut
  cases kq with
  | zero => exact absurd HA.out (by simp [spec_l2Put.j1])
  | succ kj2 =>
   have H := HA.out
   clear HA
   simp only [spec_l2Put.j1] at H
   by_cases c17 : x5_2 < (l0.length : Int)
   rotate_left
   ·rw [if_neg c17] at H
    have c17b0 : decide (x5_2 < (l0.length : Int)) = false := decide_eq_false c17
    clear c17
    obtain ⟨y153, hy_⟩ : ∃ y_ : List (S31), y_ = (([] : List (S31))) := ⟨_, rfl⟩
    replace H : (if 0 ≤ x5_2 then (if x5_2 ≤ (l0.length : Int) then ((some (l0.take (x5_2 : Int).toNat : List (S31))).bind fun y156 => (if y153.length + y156.length < 4398046511104 then ((some (y153 ++ y156 : List (S31))).bind fun y161 => ((spec_l2Row.f l1_0).bind fun t164 => (if y161.length < 4398046511104 then ((some (y161 ++ [(⟨t164, a1_1⟩ : S31)] : List (S31))).bind fun y167 => ((some (l0.drop (x5_2 : Int).toNat : List (S31))).bind fun y170 => (if y167.length + y170.length < 4398046511104 then (some (y167 ++ y170)) else (none)))) else (none)))) else (none))) else (none)) else (none)) = some r := yb_
    have Ny153 := Aside0.mk hy_
    clear hy_
    by_cases c46 : 0 ≤ x5_2
    rotate_left
    ·rw [if_neg c46] at H
     exact absurd H (by simp)
    rw [if_pos c46] at H
    have c46b0 := eq_true c46
    have c46b1 : decide (0 ≤ x5_2) = true := decide_eq_true c46
    clear c46
    by_cases c47 : x5_2 ≤ (l0.length : Int)
    rotate_left
    ·rw [if_neg c47] at H
     exact absurd H (by simp)
    rw [if_pos c47] at H
    have c47b0 := eq_true c47
    have c47b1 : decide (x5_2 ≤ (l0.length : Int)) = true := decide_eq_true c47
    clear c47
    obtain ⟨y156, hy_⟩ : ∃ y_ : List (S31), y_ = (l0.take (x5_2 : Int).toNat) := ⟨_, rfl⟩
    replace H : (if y153.length + y156.length < 4398046511104 then ((some (y153 ++ y156 : List (S31))).bind fun y161 => ((spec_l2Row.f l1_0).bind fun t164 => (if y161.length < 4398046511104 then ((some (y161 ++ [(⟨t164, a1_1⟩ : S31)] : List (S31))).bind fun y167 => ((some (l0.drop (x5_2 : Int).toNat : List (S31))).bind fun y170 => (if y167.length + y170.length < 4398046511104 then (some (y167 ++ y170)) else (none)))) else (none)))) else (none)) = some r := yb_
    have Ny156 := Aside0.mk hy_
    clear hy_
    by_cases c48 : y153.length + y156.length < 4398046511104
    rotate_left
    ·rw [if_neg c48] at H
     exact absurd H (by simp)
    rw [if_pos c48] at H
    have LMc48 := Aside0.mk c48
    clear c48
    obtain ⟨y161, hy_⟩ : ∃ y_ : List (S31), y_ = (y153 ++ y156) := ⟨_, rfl⟩
    replace H : ((spec_l2Row.f l1_0).bind fun t164 => (if y161.length < 4398046511104 then ((some (y161 ++ [(⟨t164, a1_1⟩ : S31)] : List (S31))).bind fun y167 => ((some (l0.drop (x5_2 : Int).toNat : List (S31))).bind fun y170 => (if y167.length + y170.length < 4398046511104 then (some (y167 ++ y170)) else (none)))) else (none))) = some r := yb_
    have Ny161 := Aside0.mk hy_
    clear hy_
    obtain ⟨t164, A49, H⟩ := bnd_ H
    try dsimp only at H
    by_cases c50 : y161.length < 4398046511104
    rotate_left
    ·rw [if_neg c50] at H
     exact absurd H (by simp)
    rw [if_pos c50] at H
    have LMc50 := Aside0.mk c50
    clear c50
    obtain ⟨y167, hy_⟩ : ∃ y_ : List (S31), y_ = (y161 ++ [(⟨t164, a1_1⟩ : S31)]) := ⟨_, rfl⟩
    replace H : ((some (l0.drop (x5_2 : Int).toNat : List (S31))).bind fun y170 => (if y167.length + y170.length < 4398046511104 then (some (y167 ++ y170)) else (none))) = some r := yb_
    have Ny167 := Aside0.mk hy_
    clear hy_
    have c51b0 := eq_true (of_decide_eq_true ca_ : 0 ≤ x5_2)
    have c52b0 := eq_true (of_decide_eq_true ca_ : x5_2 ≤ (l0.length : Int))
    obtain ⟨y170, hy_⟩ : ∃ y_ : List (S31), y_ = (l0.drop (x5_2 : Int).toNat) := ⟨_, rfl⟩
    replace H : (if y167.length + y170.length < 4398046511104 then (some (y167 ++ y170)) else (none)) = some r := yb_
    have Ny170 := Aside0.mk hy_
    clear hy_
    by_cases c53 : y167.length + y170.length < 4398046511104
    rotate_left
    ·rw [if_neg c53] at H
     exact absurd H (by simp)
    rw [if_pos c53] at H
    have LMc53 := Aside0.mk c53
    clear c53
    obtain ⟨y175, hy_⟩ : ∃ y_ : List (S31), y_ = (y167 ++ y170) := ⟨_, rfl⟩
    replace H : (some y175) = some r := yb_
    have Ny175 := Aside0.mk hy_
    clear hy_
    obtain rfl := Option.some.inj H
    try go_wp2
    replace HO_2 := Aside0.mk (Kd.N_drew HO_2.out)
    replace BK118 := Aside0.mk (blk_drew BK118.out)
    replace HB := Aside0.mk (below_drew1 HB.out)
    obtain ⟨Ao55, co55, eo55⟩ := Kd.N_slice HO_2.out
    (first | subst eo55 | (injection eo55 with f1_ f2_ f3_; have f4_ := f1_.symm; have f5_ := f3_.symm; clear f1_ f2_ f3_; subst f4_; subst f5_))
    refine start_ (n := 15) (S := fun w' => True) (ds := []) (bl 15 0) (by kernel_rfl) rfl rfl trivial (fun hHeld => ?_); refine with_tabW spec_l2Put.tab4 spec_l2Put.bits4 (fun HT_ HW_ => ?_)
    generalize wc.drew = w54 at HO_2 BK118 HB hHeld ⊢
    refine pu_ 0 (some 23) (bl 15 1) HT_.out rfl ?_
    refine pu_ 1 (some 24) (bl 15 3) HT_.out rfl ?_
    refine pu_ 2 (some 25) (bl 15 7) HT_.out rfl ?_
    refine pu_ 3 (some 26) (bl 15 15) HT_.out rfl ?_
    refine pu_ 4 (some 27) (bl 15 31) HT_.out rfl ?_
    refine un_ 5 (some 28) (bl 15 63) HT_.out rfl ?_
    refine un_ 6 (some 29) (bl 15 127) HT_.out rfl ?_
    refine un_ 7 (some 30) (bl 15 255) HT_.out rfl ?_
    refine un_ 8 (some 31) (bl 15 511) HT_.out rfl ?_
    refine un_ 9 (some 32) (bl 15 1023) HT_.out rfl ?_
    refine un_ 10 (some 33) (bl 15 2047) HT_.out rfl ?_
    refine un_ 11 (some 34) (bl 15 4095) HT_.out rfl ?_
    refine un_ 12 (some 35) (bl 15 8191) HT_.out rfl ?_
    refine un_ 13 (some 36) (bl 15 16383) HT_.out rfl ?_
    refine pu_ 14 (some 37) (bl 15 32767) HT_.out rfl ?_
    refine done_ (done_of HT_.out (by kernel_rfl)) ?_
    try go_wp2
    replace HO_2 := Aside0.mk (Kd.N_drew HO_2.out)
    replace BK118 := Aside0.mk (blk_drew BK118.out)
    replace HB := Aside0.mk (below_drew1 HB.out)
    have q57 : (x5_2 : Int) ≤ ((l0.length : Int) : Int) := of_decide_eq_true ca_
    obtain ⟨i057, hi057, _, hsz57, _⟩ := info_parts info31
    have hroom57 : l0.length ≤ co55 := (Kd.N_reads' HO_2.out).2.1
    have hC57 : Kd.F k31 _ _ Ao55 l0.length l0 := (Kd.V_at (base := w.heap.size) (Kd.N_V HO_2.out)).2.2
    have hcut57 := cut_to (P := Tryd.prog) 24 31 .i64 Tryd.underlying24 hi057 Ao55 l0.length co55 x5_2 (of_decide_eq_true ca_) q57 hroom57
    have hr57 := Kd.F_take (m := (x5_2 : Int).toNat) hC57 (by omega)
    have hy57 : y156.length = (x5_2 : Int).toNat := (by rw [Ny156.out, List.length_take]; omega)
    rw [← Ny156.out] at hr57
    rw [← hy57] at hcut57
    have HO160 := Aside0.mk (show Kd.V k31 31 _ w.heap.size _ (.slice Ao55 y156.length co55) y156 from Kd.V_mk (by omega) hr57)
    have HC160 := Aside0.mk (show y156.length ≤ co55 from by omega)
    clear hr57 hC57 hroom57 hi057 hsz57
    have KY57 := Aside0.mk hy57
    clear hy57
    replace q57 := eq_true q57
    have q58 : (x5_2 : Int) ≤ ((l0.length : Int) : Int) := of_decide_eq_true ca_
    obtain ⟨i058, hi058, _, hsz58, _⟩ := info_parts info31
    have hroom58 : l0.length ≤ co55 := (Kd.N_reads' HO_2.out).2.1
    have hC58 : Kd.F k31 _ _ Ao55 l0.length l0 := (Kd.V_at (base := w.heap.size) (Kd.N_V HO_2.out)).2.2
    have q058 : (0 : Int) ≤ (x5_2 : Int) := of_decide_eq_true ca_
    have hcut58 := cut_from (P := Tryd.prog) 24 31 .i64 Tryd.underlying24 hi058 2 hsz58 Ao55 l0.length co55 x5_2 q058 q58
    have hr58 := Kd.F_cut (m := (x5_2 : Int).toNat) (c := co55) hC58 (by omega) hroom58
    obtain ⟨A58, hA58⟩ : ∃ A1, A1 = (if co55 = (x5_2 : Int).toNat then Ao55 else (Ao55 : Option Addr).map (·.add ((x5_2 : Int).toNat * 2))) := ⟨_, rfl⟩
    obtain ⟨c58, hc58⟩ : ∃ c1, c1 = co55 - (x5_2 : Int).toNat := ⟨_, rfl⟩
    have hy58 : y170.length = l0.length - (x5_2 : Int).toNat := (by rw [Ny170.out, List.length_drop] <;> omega)
    rw [show (l0).drop (x5_2 : Int).toNat = y170 from Ny170.out.symm] at hr58
    replace hr58 : Kd.F k31 _ _ A58 y170.length y170 := (by rw [hA58]; exact hr58)
    rw [← hy58, ← hA58, ← hc58] at hcut58
    have HO174 := Aside0.mk (show Kd.V k31 31 _ w.heap.size _ (.slice A58 y170.length c58) y170 from Kd.V_mk (by rw [hy58, hc58]; exact Nat.sub_le_sub_right hroom58 _) hr58)
    have HC174 := Aside0.mk (show y170.length ≤ c58 from by rw [hy58, hc58]; exact Nat.sub_le_sub_right hroom58 _)
    clear hr58 hC58 hroom58 hi058 hsz58 hc58
    have KY58 := Aside0.mk hy58
    have KA58 := Aside0.mk hA58
    clear hy58 hA58
    replace q58 := eq_true q58
    refine start_ (n := 18) (S := fun w' => w'.cell? ⟨gb118, 0, none⟩ = some (.slice A1_0 l1_0.length c1_0) ∧ w'.cell? ⟨gb118, 1, none⟩ = some (.int .i64 a1_1)) (ds := []) (bl 18 0) (by kernel_rfl) rfl rfl ⟨(blk_cell BK118.out 0).trans rfl, (blk_cell BK118.out 1).trans rfl⟩ (fun hHeld => ?_); refine with_tabW spec_l2Put.tab7 spec_l2Put.bits7 (fun HT_ HW_ => ?_)
    generalize w54.drew = w56 at HO_2 BK118 HB HO160 HO174 hHeld ⊢
    refine pu_ 1 (some 52) (bl 18 2) HT_.out rfl ?_
    refine pu_ 2 (some 53) (bl 18 6) HT_.out rfl ?_
    refine pu_ 3 (some 54) (bl 18 14) HT_.out rfl ?_
    refine pu_ 5 (some 56) (bl 18 46) HT_.out rfl ?_
    refine pu_ 8 (some 59) (bl 18 302) HT_.out rfl ?_
    refine pu_ 13 (some 64) (bl 18 8494) HT_.out rfl ?_
    refine pu_ 14 (some 65) (bl 18 24878) HT_.out rfl ?_
    refine pu_ 15 (some 66) (bl 18 57646) HT_.out rfl ?_
    refine tw_ 6 (some 57) (bl 18 57710) HT_.out HW_.out rfl hHeld (fun w' s_ => by obtain ⟨s0, s1⟩ := s_; go_simp; with_reducible rfl) ?_
    refine tw_ 9 (some 60) (bl 18 58222) HT_.out HW_.out rfl hHeld (fun w' s_ => by obtain ⟨s0, s1⟩ := s_; go_simp; with_reducible rfl) ?_
    refine on_ 0 (some 51) (bl 18 58223) HT_.out rfl (fun K hK => ?_)
    refine Kd.N_lit_step k31 _ 31 ?hg (N' := 51) ?hd (xs := ([] : List (S31))) (inner := []) (ok := (fun k_ => (w.heap.size ≤ k_) ∧ some k_ ≠ (.slice Ao55 l0.length co55 : Value).ownBlock ∧ k_ ≠ gb118)) (okp := (fun k_ => (w.heap.size ≤ k_) ∧ some k_ ≠ (.slice Ao55 l0.length co55 : Value).ownBlock ∧ k_ ≠ gb118)) ?hr ?hp (fun _ hk => hk) ((show ∀ k_, w56.heap.size ≤ k_ → (fun k_ => (w.heap.size ≤ k_) ∧ some k_ ≠ (.slice Ao55 l0.length co55 : Value).ownBlock ∧ k_ ≠ gb118) k_ from fun k_ hk => ⟨(Nat.le_trans (below_size b6_0) hk), Kd.fresh' (Kd.N_lt b6_3) k_ hk, Kd.freshB (g := gb118) (o := .cells #[.slice A1_0 l1_0.length c1_0, .int .i64 a1_1] 31 (0, 0)) b6_1 k_ hk⟩) _ (Nat.le_refl _)) (Below.refl _ _) (Nat.le_refl _) (by simp) ?_; (case hd => rfl); (case hg => rfl); (case hr => first | (go_simp; done) | (go_simp; rfl)); (case hp => exact (Reps.none _ _))
    intro v154 w59 ho60 hb hg_ hnew_
    clear hg_ hnew_
    (first | rw [← Ny153.out] at ho60 | (simp only [Int.reduceToNat] at ho60; rw [← Ny153.out] at ho60))
    replace HO_2 := Aside0.mk (Kd.N_elder' b6_3 (Kd.N_base ho60) hb)
    replace HO160 := Aside0.mk (Kd.V_elder' (cV_ HO160.out) (Kd.N_base ho60) hb)
    replace HO174 := Aside0.mk (Kd.V_elder' (cV_ HO174.out) (Kd.N_base ho60) hb)
    have HO155 := Aside0.mk (Kd.N_lower ho60 (below_size b6_0))
    replace BK118 := Aside0.mk (blk_below (g := gb118) (o := .cells #[.slice A1_0 l1_0.length c1_0, .int .i64 a1_1] 31 (0, 0)) b6_1 hb)
    replace HB := Aside0.mk (below_step b6_0 hb)
    clear hb ho60
    refine hK.out _ _ ⟨(blk_cell BK118.out 0).trans rfl, (blk_cell BK118.out 1).trans rfl⟩ (fun hHeld => ?_)
    clear hK K
    refine norm_ (a' := ?_) ?_ ?_
    rotate_left
    ·show Act.put _ (some 51) _ = _
     simp only [Act.put, List.setIfInBounds_toArray, List.set_cons_zero, List.set_cons_succ, i64_w, i32_w]
     rfl
    refine on_ 4 (some 55) (bl 18 58239) HT_.out rfl (fun K hK => ?_)
    refine Kd.N_append_rows_step k31 (w0 := w) w.heap.size (by rfl) (.tmp 51) (.tmp 54) 24 31 (.agg #[(.slice none 0 0), (.int .i64 0)]) 32 rfl Tryd.underlying24 info31 rfl (by decide) (by omega) v154 y153 y156 _ _ _ (fun k_ => (w.heap.size ≤ k_) ∧ k_ ≠ gb118) (fun k_ => ((fun k_ => (w.heap.size ≤ k_) ∧ k_ ≠ gb118)) k_ ∧ some k_ ≠ (v154 : Value).ownBlock) rfl rfl ?aO ?aR (fun _ hk => hk) ?aF ?aB ?aS ?aL ?_
    (case aR => exact (by exact (by skip; exact Kd.V_F (Kd.V_mono (ok' := (fun k_ => ((fun k_ => (w.heap.size ≤ k_) ∧ k_ ≠ gb118)) k_ ∧ some k_ ≠ (v154 : Value).ownBlock)) (HO160.out) (fun k_ hk => ⟨⟨hk.1.1, hk.1.2⟩, hk.2⟩)))))
    (case aB => exact b6_0)
    (case aF => exact b6_5)
    (case aO => exact (by exact (by refine cN_ ?_; exact Kd.N_mono HO155.out (fun _ hk => ⟨hk.1, hk.2.2⟩))))
    (case aS => exact (by exact (below_size b6_0)))
    (case aL => exact co_ LMc48.out)
    intro v162 w61 ho hb hg hat
    rw [← Ny161.out] at ho
    replace HO_2 := Aside0.mk (Kd.N_afterv (ok := (fun k_ => (w.heap.size ≤ k_) ∧ k_ ≠ gb118)) b6_3 hg hat)
    replace BK118 := Aside0.mk (blk_grown (g := gb118) (o := .cells #[.slice A1_0 l1_0.length c1_0, .int .i64 a1_1] 31 (0, 0)) b6_1 hg (Kd.N_away HO155.out (fun _ hk => hk.2.2)))
    replace HO160 := Aside0.mk (Kd.V_afterv (ok := (fun k_ => (w.heap.size ≤ k_) ∧ k_ ≠ gb118)) (cV_ HO160.out) hg hat)
    replace HO174 := Aside0.mk (Kd.V_afterv (ok := (fun k_ => (w.heap.size ≤ k_) ∧ k_ ≠ gb118)) (cV_ HO174.out) hg hat)
    replace HB := Aside0.mk (hb)
    have HO163 := Aside0.mk (ho)
    clear HO155
    clear ho hb hg hat
    refine hK.out _ _ ⟨(blk_cell BK118.out 0).trans rfl, (blk_cell BK118.out 1).trans rfl⟩ (fun hHeld => ?_)
    clear hK K
    refine norm_ (a' := ?_) ?_ ?_
    rotate_left
    ·show Act.put _ (some 55) _ = _
     simp only [Act.put, List.setIfInBounds_toArray, List.set_cons_zero, List.set_cons_succ, i64_w, i32_w]
     rfl
    refine on_ 7 (some 58) (bl 18 58367) HT_.out rfl (fun K hK => ?_)
    refine goes_ Tryd.func57 (by kernel_rfl) rfl #[.slice A1_0 l1_0.length c1_0] (by rfl) rfl rfl cx_ ?_
    with_reducible refine (spec_l2Row.calls _ _ l1_0 t164 _ ?side1 ?side2 A49.out).mono ?_
    (case side1 => exact b6_4)
    (case side2 => exact HC1_0.out)
    rintro e w62 ⟨v165, rfl, ho0, hb⟩
    refine ⟨_, rfl, ?_⟩
    replace HO_2 := Aside0.mk (Kd.N_elder' b6_3 (Kd.R_base ho0) hb)
    replace HO160 := Aside0.mk (Kd.V_elder' (cV_ HO160.out) (Kd.R_base ho0) hb)
    replace HO174 := Aside0.mk (Kd.V_elder' (cV_ HO174.out) (Kd.R_base ho0) hb)
    replace HO163 := Aside0.mk (Kd.N_elder' (cN_ HO163.out) (Kd.R_base ho0) hb)
    have HO166 := Aside0.mk (Kd.R_lower (Kd.R_newM (M := fun k_ => (w.heap.size ≤ k_)) ho0 (below_size b6_0) (fun k_ h_ => h_)) (below_size b6_0))
    replace BK118 := Aside0.mk (blk_below (g := gb118) (o := .cells #[.slice A1_0 l1_0.length c1_0, .int .i64 a1_1] 31 (0, 0)) b6_1 hb)
    replace HB := Aside0.mk (below_step b6_0 hb)
    (try clear hb)
    (try clear hb2)
    (try clear hk)
    (try clear hi)
    (try clear ho0)
    obtain ⟨Ao63, co63, eo63⟩ := Kd.R_slice HO166.out
    (first | subst eo63 | (injection eo63 with f1_ f2_ f3_; have f4_ := f1_.symm; have f5_ := f3_.symm; clear f1_ f2_ f3_; subst f4_; subst f5_))
    refine hK.out _ _ ⟨(blk_cell BK118.out 0).trans rfl, (blk_cell BK118.out 1).trans rfl⟩ (fun hHeld => ?_)
    clear hK K
    refine norm_ (a' := ?_) ?_ ?_
    rotate_left
    ·show Act.put _ (some 58) _ = _
     simp only [Act.put, List.setIfInBounds_toArray, List.set_cons_zero, List.set_cons_succ, i64_w, i32_w]
     rfl
    refine pu_ 10 (some 61) (bl 18 59391) HT_.out rfl ?_
    refine on_ 11 (some 62) (bl 18 61439) HT_.out rfl (fun K hK => ?_)
    refine value_ (w1 := ?_) (v := ?_) (by rfl) rfl ?_ ?_
    rotate_left 2
    ·go_simp
     constructor
     ·rfl
     ·rfl
    refine hK.out _ _ ⟨(blk_cell (blk_alloc BK118.out _) 0).trans rfl, (blk_cell (blk_alloc BK118.out _) 1).trans rfl⟩ (fun hHeld => ?_)
    clear hK K
    refine norm_ (a' := ?_) ?_ ?_
    rotate_left
    ·show Act.put _ (some 62) _ = _
     simp only [Act.put, List.setIfInBounds_toArray, List.set_cons_zero, List.set_cons_succ, i64_w, i32_w]
     rfl
    refine on_ 12 (some 63) (bl 18 65535) HT_.out rfl (fun K hK => ?_)
    refine Kd.N_append_step k31 (w0 := w) w.heap.size (by rfl) (.tmp 55) (.tmp 62) 24 31 (.agg #[(.slice none 0 0), (.int .i64 0)]) 32 rfl Tryd.underlying24 info31 rfl (by decide) (by omega) v162 y161 (⟨t164, a1_1⟩ : S31) [.slice Ao63 t164.length co63, .int .i64 a1_1] (fun k_ => (w.heap.size ≤ k_) ∧ k_ ≠ gb118) (fun k_ => ((fun k_ => (w.heap.size ≤ k_) ∧ k_ ≠ gb118)) k_ ∧ some k_ ≠ (v162 : Value).ownBlock) rfl rfl ?aP (fun _ hk => hk) ?aF ?aO ?aB ?aS ?aL ?_
    (case aP => exact (by exact (k31_mkF _ _ (⟨t164, a1_1⟩ : S31) (Kd.R_reads' (Kd.R_mono (ok' := (fun k_ => ((fun k_ => (w.heap.size ≤ k_) ∧ k_ ≠ gb118)) k_ ∧ some k_ ≠ (v162 : Value).ownBlock)) (Kd.R_types (Kd.R_apart' (HO166.out) (Kd.N_typed HO163.out) (by decide)) BK118.out (by decide)) (fun k_ hk => ⟨⟨hk.1.1.1, hk.2⟩, hk.1.2⟩))).2.1 (Kd.R_F (Kd.R_mono (ok' := (fun k_ => ((fun k_ => (w.heap.size ≤ k_) ∧ k_ ≠ gb118)) k_ ∧ some k_ ≠ (v162 : Value).ownBlock)) (Kd.R_types (Kd.R_apart' (HO166.out) (Kd.N_typed HO163.out) (by decide)) BK118.out (by decide)) (fun k_ hk => ⟨⟨hk.1.1.1, hk.2⟩, hk.1.2⟩))))))
    (case aB => exact b6_0)
    (case aF => exact b6_5)
    (case aO => exact (by exact (by refine cN_ ?_; exact Kd.N_mono HO163.out (fun _ hk => ⟨hk.1.1, hk.1.2⟩))))
    (case aS => exact (by exact (below_size b6_0)))
    (case aL => exact co_ LMc50.out)
    intro v168 w64 ho hb hg hat
    rw [← Ny167.out] at ho
    replace HO_2 := Aside0.mk (Kd.N_afterv (ok := (fun k_ => (w.heap.size ≤ k_) ∧ some k_ ≠ (.slice Ao63 t164.length co63 : Value).ownBlock ∧ k_ ≠ gb118)) (by refine cN_ ?_; exact Kd.N_mono HO_2.out (fun _ hk => ⟨⟨hk.1.1.1, ⟨hk.2, hk.1.1.2⟩⟩, hk.1.2⟩)) hg hat)
    replace BK118 := Aside0.mk (blk_grown (g := gb118) (o := .cells #[.slice A1_0 l1_0.length c1_0, .int .i64 a1_1] 31 (0, 0)) b6_1 hg (Kd.N_away HO163.out (fun _ hk => hk.1.2)))
    replace HO160 := Aside0.mk (Kd.V_afterv (ok := (fun k_ => (w.heap.size ≤ k_) ∧ some k_ ≠ (.slice Ao63 t164.length co63 : Value).ownBlock ∧ k_ ≠ gb118)) (by refine cV_ ?_; exact Kd.V_mono HO160.out (fun _ hk => ⟨⟨hk.1.1.1, ⟨hk.2, hk.1.1.2⟩⟩, hk.1.2⟩)) hg hat)
    replace HO174 := Aside0.mk (Kd.V_afterv (ok := (fun k_ => (w.heap.size ≤ k_) ∧ some k_ ≠ (.slice Ao63 t164.length co63 : Value).ownBlock ∧ k_ ≠ gb118)) (by refine cV_ ?_; exact Kd.V_mono HO174.out (fun _ hk => ⟨⟨hk.1.1.1, ⟨hk.2, hk.1.1.2⟩⟩, hk.1.2⟩)) hg hat)
    replace HB := Aside0.mk (hb)
    have HO169 := Aside0.mk (ho)
    clear HO163
    clear HO166
    clear ho hb hg hat
    refine hK.out _ _ ⟨(blk_cell BK118.out 0).trans rfl, (blk_cell BK118.out 1).trans rfl⟩ (fun hHeld => ?_)
    clear hK K
    refine norm_ (a' := ?_) ?_ ?_
    rotate_left
    ·show Act.put _ (some 63) _ = _
     simp only [Act.put, List.setIfInBounds_toArray, List.set_cons_zero, List.set_cons_succ, i64_w, i32_w]
     rfl
    refine on_ 16 (some 67) (bl 18 131071) HT_.out rfl (fun K hK => ?_)
    refine Kd.N_append_rows_step k31 (w0 := w) w.heap.size (by rfl) (.tmp 63) (.tmp 66) 24 31 (.agg #[(.slice none 0 0), (.int .i64 0)]) 32 rfl Tryd.underlying24 info31 rfl (by decide) (by omega) v168 y167 y170 _ _ _ (fun k_ => (w.heap.size ≤ k_) ∧ k_ ≠ gb118) (fun k_ => ((fun k_ => (w.heap.size ≤ k_) ∧ k_ ≠ gb118)) k_ ∧ some k_ ≠ (v168 : Value).ownBlock) rfl rfl ?aO ?aR (fun _ hk => hk) ?aF ?aB ?aS ?aL ?_
    (case aR => exact (by exact (by skip; exact Kd.V_F (Kd.V_mono (ok' := (fun k_ => ((fun k_ => (w.heap.size ≤ k_) ∧ k_ ≠ gb118)) k_ ∧ some k_ ≠ (v168 : Value).ownBlock)) (HO174.out) (fun k_ hk => ⟨⟨hk.1.1, hk.1.2.2⟩, hk.2⟩)))))
    (case aB => exact b6_0)
    (case aF => exact b6_5)
    (case aO => exact (by exact cN_ HO169.out))
    (case aS => exact (by exact (below_size b6_0)))
    (case aL => exact co_ LMc53.out)
    intro v176 w65 ho hb hg hat
    rw [← Ny175.out] at ho
    replace HO_2 := Aside0.mk (Kd.N_afterv (ok := (fun k_ => (w.heap.size ≤ k_) ∧ k_ ≠ gb118)) (by refine cN_ ?_; exact Kd.N_mono HO_2.out (fun _ hk => ⟨⟨hk.1.1, hk.1.2.2⟩, hk.2⟩)) hg hat)
    replace BK118 := Aside0.mk (blk_grown (g := gb118) (o := .cells #[.slice A1_0 l1_0.length c1_0, .int .i64 a1_1] 31 (0, 0)) b6_1 hg (Kd.N_away HO169.out (fun _ hk => hk.2)))
    replace HO160 := Aside0.mk (Kd.V_afterv (ok := (fun k_ => (w.heap.size ≤ k_) ∧ k_ ≠ gb118)) (by refine cV_ ?_; exact Kd.V_mono HO160.out (fun _ hk => ⟨⟨hk.1.1, hk.1.2.2⟩, hk.2⟩)) hg hat)
    replace HO174 := Aside0.mk (Kd.V_afterv (ok := (fun k_ => (w.heap.size ≤ k_) ∧ k_ ≠ gb118)) (by refine cV_ ?_; exact Kd.V_mono HO174.out (fun _ hk => ⟨⟨hk.1.1, hk.1.2.2⟩, hk.2⟩)) hg hat)
    replace HB := Aside0.mk (hb)
    have HO177 := Aside0.mk (ho)
    clear HO169
    clear ho hb hg hat
    refine hK.out _ _ ⟨(blk_cell BK118.out 0).trans rfl, (blk_cell BK118.out 1).trans rfl⟩ (fun hHeld => ?_)
    clear hK K
    refine norm_ (a' := ?_) ?_ ?_
    rotate_left
    ·show Act.put _ (some 67) _ = _
     simp only [Act.put, List.setIfInBounds_toArray, List.set_cons_zero, List.set_cons_succ, i64_w, i32_w]
     rfl
    refine pu_ 17 (some 4) (bl 18 262143) HT_.out rfl ?_
    refine done_ (done_of HT_.out (by kernel_rfl)) ?_
    try go_wp2
    go_ret
    exact ⟨_, ce_, by refine cN_ ?_; exact Kd.N_mono HO177.out (fun _ hk => hk.1), cB1_ GE118.out⟩
   rw [if_pos c17] at H
   have c17b0 : decide (x5_2 < (l0.length : Int)) = true := decide_eq_true c17
   clear c17
   by_cases c18 : 0 ≤ x5_2
   rotate_left
   ·rw [if_neg c18] at H
    exact absurd H (by simp)
   rw [if_pos c18] at H
   have c18b0 : decide (0 ≤ x5_2) = true := decide_eq_true c18
   clear c18
   obtain ⟨t125, A19, H⟩ := bnd_ H
   try dsimp only at H
   by_cases c20 : t125 = 0
   ·rw [if_pos c20] at H
    have c20b0 : (t125 == 0) = true := beq_iff_eq.mpr c20
    have c20b1 : (t125 != 0) = false := bne_eq_false_iff_eq.mpr c20
    clear c20
    obtain ⟨y127, hy_⟩ : ∃ y_ : List (S31), y_ = (l0.set (x5_2 : Int).toNat (⟨(rd_T31 l0 x5_2).f0, wrap64 (((rd_T31 l0 x5_2).f1) + a1_1)⟩ : S31)) := ⟨_, rfl⟩
    replace H : (some y127) = some r := yb_
    have Ny127 := Aside0.mk hy_
    clear hy_
    obtain rfl := Option.some.inj H
    try go_wp2
    replace HO_2 := Aside0.mk (Kd.N_drew HO_2.out)
    replace BK118 := Aside0.mk (blk_drew BK118.out)
    replace HB := Aside0.mk (below_drew1 HB.out)
    obtain ⟨Ao23, co23, eo23⟩ := Kd.N_slice HO_2.out
    (first | subst eo23 | (injection eo23 with f1_ f2_ f3_; have f4_ := f1_.symm; have f5_ := f3_.symm; clear f1_ f2_ f3_; subst f4_; subst f5_))
    have p124 : 0 ≤ (x5_2 : Int) := of_decide_eq_true ca_
    have q124 : x5_2 < (l0.length : Int) := of_decide_eq_true ca_
    obtain ⟨ad124, A124_0, c124_0, e124, hx124_0, hx124_1, hl124_0, hi124_0⟩ := at_T31 (Kd.N_reads' HO_2.out).2.2 x5_2 p124 q124
    cases e124
    obtain ⟨ce124, hce124, hMe124, hcc124⟩ := Kd.N_get HO_2.out z31 x5_2 p124 (by first | exact q124 | exact of_decide_eq_true ca_ | (have e_ := (Kd.N_reads' HO_2.out).1; omega))
    obtain ⟨ua124_0, uc124_0, rfl, ul124_0, ge124_0⟩ := k31_openF hMe124
    have hv124_0 := hcc124 0 _ rfl
    rw [Nat.add_zero] at hv124_0
    replace hv124_0 := Option.some.inj (hv124_0.symm.trans hx124_0)
    injection hv124_0 with hva_ hvn_ hvc_
    rw [hva_] at ge124_0
    rw [hvc_] at ul124_0
    have HL124_0 := Aside0.mk (show Kd.V (Kd.int .i64) 2 _ w.heap.size _ _ ((rd_T31 l0 x5_2).f0) from Kd.V_mk ul124_0 ge124_0)
    clear hva_ hvn_ hvc_ ge124_0 ul124_0
    clear hcc124 hce124
    have HR124_0 := Aside0.mk hi124_0
    have HC124_0 := Aside0.mk hl124_0
    clear hi124_0 hl124_0
    replace p124 := eq_true p124
    replace q124 := eq_true q124
    refine start_ (n := 15) (S := fun w' => w'.cell? ⟨gb118, 0, none⟩ = some (.slice A1_0 l1_0.length c1_0) ∧ w'.cell? ⟨gb118, 1, none⟩ = some (.int .i64 a1_1) ∧ w'.cell? (ad124.add ((x5_2).toNat * 2)) = some (.slice A124_0 ((rd_T31 l0 x5_2).f0).length c124_0) ∧ w'.cell? ⟨(ad124.add ((x5_2).toNat * 2)).block, (ad124.add ((x5_2).toNat * 2)).off + 1, none⟩ = some (.int .i64 ((rd_T31 l0 x5_2).f1))) (ds := []) (bl 15 0) (by kernel_rfl) rfl rfl ⟨(blk_cell BK118.out 0).trans rfl, (blk_cell BK118.out 1).trans rfl, hx124_0, hx124_1⟩ (fun hHeld => ?_); refine with_tabW spec_l2Put.tab4 spec_l2Put.bits4 (fun HT_ HW_ => ?_)
    generalize wc.drew = w22 at HO_2 BK118 HB HL124_0 HR124_0 hx124_0 hx124_1 hHeld ⊢
    refine pu_ 0 (some 23) (bl 15 1) HT_.out rfl ?_
    refine pu_ 1 (some 24) (bl 15 3) HT_.out rfl ?_
    refine pu_ 2 (some 25) (bl 15 7) HT_.out rfl ?_
    refine pu_ 3 (some 26) (bl 15 15) HT_.out rfl ?_
    refine pu_ 4 (some 27) (bl 15 31) HT_.out rfl ?_
    refine pu_ 5 (some 28) (bl 15 63) HT_.out rfl ?_
    refine pu_ 6 (some 29) (bl 15 127) HT_.out rfl ?_
    refine pu_ 7 (some 30) (bl 15 255) HT_.out rfl ?_
    refine pu_ 8 (some 31) (bl 15 511) HT_.out rfl ?_
    refine pu_ 10 (some 33) (bl 15 1535) HT_.out rfl ?_
    refine tw_ 9 (some 32) (bl 15 2047) HT_.out HW_.out rfl hHeld (fun w' s_ => by obtain ⟨s0, s1, s2, s3⟩ := s_; go_simp; with_reducible rfl) ?_
    refine tw_ 11 (some 34) (bl 15 4095) HT_.out HW_.out rfl hHeld (fun w' s_ => by obtain ⟨s0, s1, s2, s3⟩ := s_; go_simp; with_reducible rfl) ?_
    refine on_ 12 (some 35) (bl 15 8191) HT_.out rfl (fun K hK => ?_)
    refine goes_ Tryd.func56 (by kernel_rfl) rfl #[.slice A124_0 ((rd_T31 l0 x5_2).f0).length c124_0, .slice A1_0 l1_0.length c1_0] (by rfl) rfl rfl cx_ ?_
    with_reducible refine (spec_CompareRows.calls kj2 _ _ ((rd_T31 l0 x5_2).f0) _ _ l1_0 t125 _ ?side1 ?side2 ?side3 ?side4 A19.out).mono ?_
    (case side1 => exact cC_ b6_6)
    (case side2 => exact HC124_0.out)
    (case side3 => exact b6_4)
    (case side4 => exact HC1_0.out)
    rintro e w' ⟨rfl, ⟨nd, rfl⟩⟩
    refine ⟨_, rfl, ?_⟩
    refine hK.out _ _ ⟨(blk_cell BK118.out 0).trans rfl, (blk_cell BK118.out 1).trans rfl, hHeld.2.2.1, hHeld.2.2.2⟩ (fun hHeld => ?_)
    clear hK K
    refine norm_ (a' := ?_) ?_ ?_
    rotate_left
    ·show Act.put _ (some 35) _ = _
     simp only [Act.put, List.setIfInBounds_toArray, List.set_cons_zero, List.set_cons_succ, i64_w, i32_w]
     rfl
    refine pu_ 13 (some 36) (bl 15 16383) HT_.out rfl ?_
    refine pu_ 14 (some 37) (bl 15 32767) HT_.out rfl ?_
    refine done_ (done_of HT_.out (by kernel_rfl)) ?_
    try go_wp2
    (try simp only [World.drewN_drewN]); (try (rw [drewN_self w22]; generalize hq_ : World.drewN w22 _ = w22; have n0_ : Aside0 (Kd.V (Kd.int .i64) 2 w22 w.heap.size (fun k_ => (w.heap.size ≤ k_) ∧ some k_ ≠ (.slice (some ad124) l0.length co23 : Value).ownBlock ∧ k_ ≠ gb118) (.slice A124_0 ((rd_T31 l0 x5_2).f0).length c124_0) ((rd_T31 l0 x5_2).f0)) := ⟨by rw [← hq_]; exact (by refine cV_ ?_; exact Kd.V_mono HL124_0.out (fun _ hk => ⟨hk.1.1, ⟨hk.2, hk.1.2⟩⟩))⟩; have n1_ : Aside0 (Kd.N k31 31 w22 w.heap.size (fun k_ => (w.heap.size ≤ k_) ∧ k_ ≠ gb118) (.slice (some ad124) l0.length co23) l0) := ⟨by rw [← hq_]; exact b6_3⟩; have n2_ : Aside0 (w22.heap[gb118]? = some (.cells #[.slice A1_0 l1_0.length c1_0, .int .i64 a1_1] 31 (0, 0))) := ⟨by rw [← hq_]; exact b6_1⟩; have n3_ : Aside0 (Below w.heap.size w w22) := ⟨by rw [← hq_]; exact b6_0⟩; have n4_ : Aside0 (Kd.C (Kd.int .i64) w22 A124_0 ((rd_T31 l0 x5_2).f0).length ((rd_T31 l0 x5_2).f0)) := ⟨by rw [← hq_]; exact b6_6⟩; clear HL124_0 HO_2 BK118 HB HR124_0 hq_; have HL124_0 := n0_; have HO_2 := n1_; have BK118 := n2_; have HB := n3_; have HR124_0 := n4_; clear n0_ n1_ n2_ n3_ n4_))
    replace HO_2 := Aside0.mk (Kd.N_drew HO_2.out)
    replace HL124_0 := Aside0.mk (Kd.V_drew HL124_0.out)
    replace BK118 := Aside0.mk (blk_drew BK118.out)
    replace HR124_0 := Aside0.mk (Kd.C_drew HR124_0.out)
    replace HB := Aside0.mk (below_drew1 HB.out)
    have p126 : 0 ≤ (x5_2 : Int) := of_decide_eq_true ca_
    have q126 : x5_2 < (l0.length : Int) := of_decide_eq_true ca_
    obtain ⟨ad126, A126_0, c126_0, e126, hx126_0, hx126_1, hl126_0, hi126_0⟩ := at_T31 (Kd.N_reads' HO_2.out).2.2 x5_2 p126 q126
    obtain rfl : ad124 = ad126 := (by injection e126)
    obtain ⟨ce126, hce126, hMe126, hcc126⟩ := Kd.N_get HO_2.out z31 x5_2 p126 (by first | exact q126 | exact of_decide_eq_true ca_ | (have e_ := (Kd.N_reads' HO_2.out).1; omega))
    obtain ⟨ua126_0, uc126_0, rfl, ul126_0, ge126_0⟩ := k31_openF hMe126
    have hv126_0 := hcc126 0 _ rfl
    rw [Nat.add_zero] at hv126_0
    replace hv126_0 := Option.some.inj (hv126_0.symm.trans hx126_0)
    injection hv126_0 with hva_ hvn_ hvc_
    rw [hva_] at ge126_0
    rw [hvc_] at ul126_0
    have HL126_0 := Aside0.mk (show Kd.V (Kd.int .i64) 2 _ w.heap.size _ _ ((rd_T31 l0 x5_2).f0) from Kd.V_mk ul126_0 ge126_0)
    clear hva_ hvn_ hvc_ ge126_0 ul126_0
    clear hcc126 hce126
    have HR126_0 := Aside0.mk hi126_0
    have HC126_0 := Aside0.mk hl126_0
    clear hi126_0 hl126_0
    replace p126 := eq_true p126
    replace q126 := eq_true q126
    have p21 : 0 ≤ (x5_2 : Int) := of_decide_eq_true ca_
    have q21 : (x5_2 : Int) < ((l0.length : Int) : Int) := of_decide_eq_true ca_
    obtain ⟨go21, co21, eo21, gb21, gl21, cl21, HG21⟩ := Kd.N_form HO_2.out (by omega)
    (first | cases eo21 | (injection eo21 with ea_ en_ ec_; (first | subst ea_ | (injection ea_ with ea_; subst ea_)); subst ec_; clear en_))
    have GB21 := Aside0.mk gb21
    have GG21 := Aside0.mk HG21
    clear gb21 gl21 HG21
    (first | simp only [add_plain] at hx124_0 | skip)
    (first | simp only [add_plain] at hx124_1 | skip)
    (first | simp only [add_plain] at hx126_0 | skip)
    (first | simp only [add_plain] at hx126_1 | skip)
    obtain ⟨ce21, hcl21, hM21, hcc21, hfr21⟩ := Kd.N_elem HO_2.out z31 (x5_2 : Int) p21 q21
    obtain ⟨ua21_0, uc21_0, rfl, ul21_0, ge21_0⟩ := k31_openF hM21
    have hx21_0 : World.cell? _ ⟨go21, (x5_2 : Int).toNat * 2, none⟩ = some (.slice ua21_0 ((rd_T31 l0 x5_2).f0).length uc21_0) := hcc21 0 _ rfl
    have hx21_1 : World.cell? _ ⟨go21, (x5_2 : Int).toNat * 2 + 1, none⟩ = some (.int .i64 ((rd_T31 l0 x5_2).f1)) := hcc21 1 _ rfl
    have hf21_0 : World.frozen? _ ⟨go21, (x5_2 : Int).toNat * 2, none⟩ = false := hfr21 0
    have hf21_1 : World.frozen? _ ⟨go21, (x5_2 : Int).toNat * 2 + 1, none⟩ = false := hfr21 1
    (try clear hM21); clear hcl21 hcc21 hfr21
    replace p21 := eq_true p21
    replace q21 := eq_true q21
    have HX25 := Aside0.mk (show Kd.N k31 31 _ w.heap.size (fun k_ => (w.heap.size ≤ k_) ∧ k_ ≠ gb118) (.slice (some ⟨go21, 0, none⟩) l0.length co23) l0 from (Kd.N_mono (HO_2.out) (fun k_ hk => ⟨hk.1, hk.2⟩)))
    obtain ⟨ce25, hcl25, hM25, hcc25, hfr25⟩ := Kd.N_elem HX25.out z31 (x5_2 : Int) (of_decide_eq_true ca_) (by have h_ : (x5_2 : Int) < ((l0.length : Int) : Int) := of_decide_eq_true ca_; first | exact h_ | (have e_ := (Kd.N_reads' HO_2.out).1; omega) | simpa using h_)
    obtain ⟨ua25_0, uc25_0, rfl, ul25_0, ge25_0⟩ := k31_openF hM25
    have HP25 := (Kd.N_seg HX25.out (x5_2 : Int) (of_decide_eq_true ca_) (by have h_ : (x5_2 : Int) < ((l0.length : Int) : Int) := of_decide_eq_true ca_; first | exact h_ | (have e_ := (Kd.N_reads' HO_2.out).1; omega) | simpa using h_) (seg := [.int .i64 (wrap64 (((rd_T31 l0 x5_2).f1) + a1_1))]) (j := 1) hcl25 hcc25 (show 2 ≤ 2 from by decide) (x' := (⟨(rd_T31 l0 x5_2).f0, wrap64 (((rd_T31 l0 x5_2).f1) + a1_1)⟩ : S31)) (k31_mkF _ _ (⟨(rd_T31 l0 x5_2).f0, wrap64 (((rd_T31 l0 x5_2).f1) + a1_1)⟩ : S31) ul25_0 ge25_0) (fun _ hk => hk)).1
    rw [← Ny127.out] at HP25
    have HQ25 := Aside0.mk HP25
    (try clear hM25); clear hcl25 hcc25 hfr25 HP25
    refine start_ (n := 13) (S := fun w' => w'.cell? ⟨gb118, 0, none⟩ = some (.slice A1_0 l1_0.length c1_0) ∧ w'.cell? ⟨gb118, 1, none⟩ = some (.int .i64 a1_1) ∧ w'.cell? ⟨go21, ((x5_2).toNat * 2), none⟩ = some (.slice A126_0 ((rd_T31 l0 x5_2).f0).length c126_0) ∧ w'.cell? ⟨go21, ((x5_2).toNat * 2) + 1, none⟩ = some (.int .i64 ((rd_T31 l0 x5_2).f1))) (ds := [12]) (bl 13 0) (by kernel_rfl) rfl rfl ⟨(blk_cell BK118.out 0).trans rfl, (blk_cell BK118.out 1).trans rfl, hx126_0, hx126_1⟩ (fun hHeld => ?_); refine with_tabW spec_l2Put.tab5 spec_l2Put.bits5 (fun HT_ HW_ => ?_)
    generalize w22.drew = w24 at HO_2 HL124_0 BK118 HR124_0 HB GG21 HL126_0 HQ25 HR126_0 hf21_0 hf21_1 hx124_0 hx124_1 hx126_0 hx126_1 hx21_0 hx21_1 hHeld ⊢
    refine pu_ 0 (some 38) (bl 13 1) HT_.out rfl ?_
    refine pu_ 1 (some 39) (bl 13 3) HT_.out rfl ?_
    refine pu_ 2 (some 40) (bl 13 7) HT_.out rfl ?_
    refine pu_ 3 (some 41) (bl 13 15) HT_.out rfl ?_
    refine pu_ 4 (some 42) (bl 13 31) HT_.out rfl ?_
    refine pu_ 5 (some 43) (bl 13 63) HT_.out rfl ?_
    refine pu_ 7 (some 45) (bl 13 191) HT_.out rfl ?_
    refine tw_ 6 (some 44) (bl 13 255) HT_.out HW_.out rfl hHeld (fun w' s_ => by obtain ⟨s0, s1, s2, s3⟩ := s_; go_simp; with_reducible rfl) ?_
    refine tw_ 8 (some 46) (bl 13 511) HT_.out HW_.out rfl hHeld (fun w' s_ => by obtain ⟨s0, s1, s2, s3⟩ := s_; go_simp; with_reducible rfl) ?_
    refine pu_ 9 (some 47) (bl 13 1023) HT_.out rfl ?_
    refine pu_ 10 (some 48) (bl 13 2047) HT_.out rfl ?_
    refine pu_ 11 (some 49) (bl 13 4095) HT_.out rfl ?_
    refine last_ (i := 12) (N := none) (bl 13 8191) rfl rfl (one_of HT_.out (by kernel_rfl)) (by decide) (fun K hK => ?_)
    refine skip_ (w1 := ?_) (by rfl) rfl ?_ ?_
    rotate_left
    ·go_simp
     rfl
    refine hK.out _ _ ?_
    clear hK K
    refine done_ (done_of HT_.out (by kernel_rfl)) ?_
    try go_wp2
    go_ret
    exact ⟨_, ce_, by refine cN_ ?_; exact Kd.N_mono HQ25.out (fun _ hk => hk.1), cB2_ GB21.out GE118.out⟩
   rw [if_neg c20] at H
   have c20b0 : (t125 == 0) = false := beq_eq_false_iff_ne.mpr c20
   have c20b1 : (t125 != 0) = true := bne_iff_ne.mpr c20
   obtain ⟨y128, hy_⟩ : ∃ y_ : List (S31), y_ = (([] : List (S31))) := ⟨_, rfl⟩
   replace H : (if x5_2 ≤ (l0.length : Int) then ((some (l0.take (x5_2 : Int).toNat : List (S31))).bind fun y131 => (if y128.length + y131.length < 4398046511104 then ((some (y128 ++ y131 : List (S31))).bind fun y136 => ((spec_l2Row.f l1_0).bind fun t139 => (if y136.length < 4398046511104 then ((some (y136 ++ [(⟨t139, a1_1⟩ : S31)] : List (S31))).bind fun y142 => ((some (l0.drop (x5_2 : Int).toNat : List (S31))).bind fun y145 => (if y142.length + y145.length < 4398046511104 then (some (y142 ++ y145)) else (none)))) else (none)))) else (none))) else (none)) = some r := yb_
   have Ny128 := Aside0.mk hy_
   clear hy_
   have c26b0 := eq_true (of_decide_eq_true ca_ : 0 ≤ x5_2)
   by_cases c27 : x5_2 ≤ (l0.length : Int)
   rotate_left
   ·rw [if_neg c27] at H
    exact absurd H (by simp)
   rw [if_pos c27] at H
   have c27b0 := eq_true c27
   have c27b1 : decide (x5_2 ≤ (l0.length : Int)) = true := decide_eq_true c27
   clear c27
   obtain ⟨y131, hy_⟩ : ∃ y_ : List (S31), y_ = (l0.take (x5_2 : Int).toNat) := ⟨_, rfl⟩
   replace H : (if y128.length + y131.length < 4398046511104 then ((some (y128 ++ y131 : List (S31))).bind fun y136 => ((spec_l2Row.f l1_0).bind fun t139 => (if y136.length < 4398046511104 then ((some (y136 ++ [(⟨t139, a1_1⟩ : S31)] : List (S31))).bind fun y142 => ((some (l0.drop (x5_2 : Int).toNat : List (S31))).bind fun y145 => (if y142.length + y145.length < 4398046511104 then (some (y142 ++ y145)) else (none)))) else (none)))) else (none)) = some r := yb_
   have Ny131 := Aside0.mk hy_
   clear hy_
   by_cases c28 : y128.length + y131.length < 4398046511104
   rotate_left
   ·rw [if_neg c28] at H
    exact absurd H (by simp)
   rw [if_pos c28] at H
   have LMc28 := Aside0.mk c28
   clear c28
   obtain ⟨y136, hy_⟩ : ∃ y_ : List (S31), y_ = (y128 ++ y131) := ⟨_, rfl⟩
   replace H : ((spec_l2Row.f l1_0).bind fun t139 => (if y136.length < 4398046511104 then ((some (y136 ++ [(⟨t139, a1_1⟩ : S31)] : List (S31))).bind fun y142 => ((some (l0.drop (x5_2 : Int).toNat : List (S31))).bind fun y145 => (if y142.length + y145.length < 4398046511104 then (some (y142 ++ y145)) else (none)))) else (none))) = some r := yb_
   have Ny136 := Aside0.mk hy_
   clear hy_
   obtain ⟨t139, A29, H⟩ := bnd_ H
   try dsimp only at H
   by_cases c30 : y136.length < 4398046511104
   rotate_left
   ·rw [if_neg c30] at H
    exact absurd H (by simp)
   rw [if_pos c30] at H
   have LMc30 := Aside0.mk c30
   clear c30
   obtain ⟨y142, hy_⟩ : ∃ y_ : List (S31), y_ = (y136 ++ [(⟨t139, a1_1⟩ : S31)]) := ⟨_, rfl⟩
   replace H : ((some (l0.drop (x5_2 : Int).toNat : List (S31))).bind fun y145 => (if y142.length + y145.length < 4398046511104 then (some (y142 ++ y145)) else (none))) = some r := yb_
   have Ny142 := Aside0.mk hy_
   clear hy_
   have c31b0 := eq_true (of_decide_eq_true ca_ : 0 ≤ x5_2)
   have c32b0 := eq_true (of_decide_eq_true ca_ : x5_2 ≤ (l0.length : Int))
   obtain ⟨y145, hy_⟩ : ∃ y_ : List (S31), y_ = (l0.drop (x5_2 : Int).toNat) := ⟨_, rfl⟩
   replace H : (if y142.length + y145.length < 4398046511104 then (some (y142 ++ y145)) else (none)) = some r := yb_
   have Ny145 := Aside0.mk hy_
   clear hy_
   by_cases c33 : y142.length + y145.length < 4398046511104
   rotate_left
   ·rw [if_neg c33] at H
    exact absurd H (by simp)
   rw [if_pos c33] at H
   have LMc33 := Aside0.mk c33
   clear c33
   obtain ⟨y150, hy_⟩ : ∃ y_ : List (S31), y_ = (y142 ++ y145) := ⟨_, rfl⟩
   replace H : (some y150) = some r := yb_
   have Ny150 := Aside0.mk hy_
   clear hy_
   obtain rfl := Option.some.inj H
   try go_wp2
   replace HO_2 := Aside0.mk (Kd.N_drew HO_2.out)
   replace BK118 := Aside0.mk (blk_drew BK118.out)
   replace HB := Aside0.mk (below_drew1 HB.out)
   obtain ⟨Ao35, co35, eo35⟩ := Kd.N_slice HO_2.out
   (first | subst eo35 | (injection eo35 with f1_ f2_ f3_; have f4_ := f1_.symm; have f5_ := f3_.symm; clear f1_ f2_ f3_; subst f4_; subst f5_))
   have p124 : 0 ≤ (x5_2 : Int) := of_decide_eq_true ca_
   have q124 : x5_2 < (l0.length : Int) := of_decide_eq_true ca_
   obtain ⟨ad124, A124_0, c124_0, e124, hx124_0, hx124_1, hl124_0, hi124_0⟩ := at_T31 (Kd.N_reads' HO_2.out).2.2 x5_2 p124 q124
   cases e124
   obtain ⟨ce124, hce124, hMe124, hcc124⟩ := Kd.N_get HO_2.out z31 x5_2 p124 (by first | exact q124 | exact of_decide_eq_true ca_ | (have e_ := (Kd.N_reads' HO_2.out).1; omega))
   obtain ⟨ua124_0, uc124_0, rfl, ul124_0, ge124_0⟩ := k31_openF hMe124
   have hv124_0 := hcc124 0 _ rfl
   rw [Nat.add_zero] at hv124_0
   replace hv124_0 := Option.some.inj (hv124_0.symm.trans hx124_0)
   injection hv124_0 with hva_ hvn_ hvc_
   rw [hva_] at ge124_0
   rw [hvc_] at ul124_0
   have HL124_0 := Aside0.mk (show Kd.V (Kd.int .i64) 2 _ w.heap.size _ _ ((rd_T31 l0 x5_2).f0) from Kd.V_mk ul124_0 ge124_0)
   clear hva_ hvn_ hvc_ ge124_0 ul124_0
   clear hcc124 hce124
   have HR124_0 := Aside0.mk hi124_0
   have HC124_0 := Aside0.mk hl124_0
   clear hi124_0 hl124_0
   replace p124 := eq_true p124
   replace q124 := eq_true q124
   refine start_ (n := 15) (S := fun w' => w'.cell? ⟨gb118, 0, none⟩ = some (.slice A1_0 l1_0.length c1_0) ∧ w'.cell? ⟨gb118, 1, none⟩ = some (.int .i64 a1_1) ∧ w'.cell? (ad124.add ((x5_2).toNat * 2)) = some (.slice A124_0 ((rd_T31 l0 x5_2).f0).length c124_0) ∧ w'.cell? ⟨(ad124.add ((x5_2).toNat * 2)).block, (ad124.add ((x5_2).toNat * 2)).off + 1, none⟩ = some (.int .i64 ((rd_T31 l0 x5_2).f1))) (ds := []) (bl 15 0) (by kernel_rfl) rfl rfl ⟨(blk_cell BK118.out 0).trans rfl, (blk_cell BK118.out 1).trans rfl, hx124_0, hx124_1⟩ (fun hHeld => ?_); refine with_tabW spec_l2Put.tab4 spec_l2Put.bits4 (fun HT_ HW_ => ?_)
   generalize wc.drew = w34 at HO_2 BK118 HB HL124_0 HR124_0 hx124_0 hx124_1 hHeld ⊢
   refine pu_ 0 (some 23) (bl 15 1) HT_.out rfl ?_
   refine pu_ 1 (some 24) (bl 15 3) HT_.out rfl ?_
   refine pu_ 2 (some 25) (bl 15 7) HT_.out rfl ?_
   refine pu_ 3 (some 26) (bl 15 15) HT_.out rfl ?_
   refine pu_ 4 (some 27) (bl 15 31) HT_.out rfl ?_
   refine pu_ 5 (some 28) (bl 15 63) HT_.out rfl ?_
   refine pu_ 6 (some 29) (bl 15 127) HT_.out rfl ?_
   refine pu_ 7 (some 30) (bl 15 255) HT_.out rfl ?_
   refine pu_ 8 (some 31) (bl 15 511) HT_.out rfl ?_
   refine pu_ 10 (some 33) (bl 15 1535) HT_.out rfl ?_
   refine tw_ 9 (some 32) (bl 15 2047) HT_.out HW_.out rfl hHeld (fun w' s_ => by obtain ⟨s0, s1, s2, s3⟩ := s_; go_simp; with_reducible rfl) ?_
   refine tw_ 11 (some 34) (bl 15 4095) HT_.out HW_.out rfl hHeld (fun w' s_ => by obtain ⟨s0, s1, s2, s3⟩ := s_; go_simp; with_reducible rfl) ?_
   refine on_ 12 (some 35) (bl 15 8191) HT_.out rfl (fun K hK => ?_)
   refine goes_ Tryd.func56 (by kernel_rfl) rfl #[.slice A124_0 ((rd_T31 l0 x5_2).f0).length c124_0, .slice A1_0 l1_0.length c1_0] (by rfl) rfl rfl cx_ ?_
   with_reducible refine (spec_CompareRows.calls kj2 _ _ ((rd_T31 l0 x5_2).f0) _ _ l1_0 t125 _ ?side1 ?side2 ?side3 ?side4 A19.out).mono ?_
   (case side1 => exact cC_ b6_6)
   (case side2 => exact HC124_0.out)
   (case side3 => exact b6_4)
   (case side4 => exact HC1_0.out)
   rintro e w' ⟨rfl, ⟨nd, rfl⟩⟩
   refine ⟨_, rfl, ?_⟩
   refine hK.out _ _ ⟨(blk_cell BK118.out 0).trans rfl, (blk_cell BK118.out 1).trans rfl, hHeld.2.2.1, hHeld.2.2.2⟩ (fun hHeld => ?_)
   clear hK K
   refine norm_ (a' := ?_) ?_ ?_
   rotate_left
   ·show Act.put _ (some 35) _ = _
    simp only [Act.put, List.setIfInBounds_toArray, List.set_cons_zero, List.set_cons_succ, i64_w, i32_w]
    rfl
   refine pu_ 13 (some 36) (bl 15 16383) HT_.out rfl ?_
   refine pu_ 14 (some 37) (bl 15 32767) HT_.out rfl ?_
   refine done_ (done_of HT_.out (by kernel_rfl)) ?_
   try go_wp2
   (try simp only [World.drewN_drewN]); (try (rw [drewN_self w34]; generalize hq_ : World.drewN w34 _ = w34; have n0_ : Aside0 (Kd.V (Kd.int .i64) 2 w34 w.heap.size (fun k_ => (w.heap.size ≤ k_) ∧ some k_ ≠ (.slice (some ad124) l0.length co35 : Value).ownBlock ∧ k_ ≠ gb118) (.slice A124_0 ((rd_T31 l0 x5_2).f0).length c124_0) ((rd_T31 l0 x5_2).f0)) := ⟨by rw [← hq_]; exact (by refine cV_ ?_; exact Kd.V_mono HL124_0.out (fun _ hk => ⟨hk.1.1, ⟨hk.2, hk.1.2⟩⟩))⟩; have n1_ : Aside0 (Kd.N k31 31 w34 w.heap.size (fun k_ => (w.heap.size ≤ k_) ∧ k_ ≠ gb118) (.slice (some ad124) l0.length co35) l0) := ⟨by rw [← hq_]; exact b6_3⟩; have n2_ : Aside0 (w34.heap[gb118]? = some (.cells #[.slice A1_0 l1_0.length c1_0, .int .i64 a1_1] 31 (0, 0))) := ⟨by rw [← hq_]; exact b6_1⟩; have n3_ : Aside0 (Below w.heap.size w w34) := ⟨by rw [← hq_]; exact b6_0⟩; have n4_ : Aside0 (Kd.C (Kd.int .i64) w34 A124_0 ((rd_T31 l0 x5_2).f0).length ((rd_T31 l0 x5_2).f0)) := ⟨by rw [← hq_]; exact b6_6⟩; clear HL124_0 HO_2 BK118 HB HR124_0 hq_; have HL124_0 := n0_; have HO_2 := n1_; have BK118 := n2_; have HB := n3_; have HR124_0 := n4_; clear n0_ n1_ n2_ n3_ n4_))
   replace HO_2 := Aside0.mk (Kd.N_drew HO_2.out)
   replace HL124_0 := Aside0.mk (Kd.V_drew HL124_0.out)
   replace BK118 := Aside0.mk (blk_drew BK118.out)
   replace HR124_0 := Aside0.mk (Kd.C_drew HR124_0.out)
   replace HB := Aside0.mk (below_drew1 HB.out)
   have q37 : (x5_2 : Int) ≤ ((l0.length : Int) : Int) := of_decide_eq_true ca_
   obtain ⟨i037, hi037, _, hsz37, _⟩ := info_parts info31
   have hroom37 : l0.length ≤ co35 := (Kd.N_reads' HO_2.out).2.1
   have hC37 : Kd.F k31 _ _ (some ad124) l0.length l0 := (Kd.V_at (base := w.heap.size) (Kd.N_V HO_2.out)).2.2
   have hcut37 := cut_to (P := Tryd.prog) 24 31 .i64 Tryd.underlying24 hi037 (some ad124) l0.length co35 x5_2 (of_decide_eq_true ca_) q37 hroom37
   have hr37 := Kd.F_take (m := (x5_2 : Int).toNat) hC37 (by omega)
   have hy37 : y131.length = (x5_2 : Int).toNat := (by rw [Ny131.out, List.length_take]; omega)
   rw [← Ny131.out] at hr37
   rw [← hy37] at hcut37
   have HO135 := Aside0.mk (show Kd.V k31 31 _ w.heap.size _ (.slice (some ad124) y131.length co35) y131 from Kd.V_mk (by omega) hr37)
   have HC135 := Aside0.mk (show y131.length ≤ co35 from by omega)
   clear hr37 hC37 hroom37 hi037 hsz37
   have KY37 := Aside0.mk hy37
   clear hy37
   replace q37 := eq_true q37
   have q38 : (x5_2 : Int) ≤ ((l0.length : Int) : Int) := of_decide_eq_true ca_
   obtain ⟨i038, hi038, _, hsz38, _⟩ := info_parts info31
   have hroom38 : l0.length ≤ co35 := (Kd.N_reads' HO_2.out).2.1
   have hC38 : Kd.F k31 _ _ (some ad124) l0.length l0 := (Kd.V_at (base := w.heap.size) (Kd.N_V HO_2.out)).2.2
   have q038 : (0 : Int) ≤ (x5_2 : Int) := of_decide_eq_true ca_
   have hcut38 := cut_from (P := Tryd.prog) 24 31 .i64 Tryd.underlying24 hi038 2 hsz38 (some ad124) l0.length co35 x5_2 q038 q38
   have hr38 := Kd.F_cut (m := (x5_2 : Int).toNat) (c := co35) hC38 (by omega) hroom38
   obtain ⟨A38, hA38⟩ : ∃ A1, A1 = (if co35 = (x5_2 : Int).toNat then (some ad124) else ((some ad124) : Option Addr).map (·.add ((x5_2 : Int).toNat * 2))) := ⟨_, rfl⟩
   obtain ⟨c38, hc38⟩ : ∃ c1, c1 = co35 - (x5_2 : Int).toNat := ⟨_, rfl⟩
   have hy38 : y145.length = l0.length - (x5_2 : Int).toNat := (by rw [Ny145.out, List.length_drop] <;> omega)
   rw [show (l0).drop (x5_2 : Int).toNat = y145 from Ny145.out.symm] at hr38
   replace hr38 : Kd.F k31 _ _ A38 y145.length y145 := (by rw [hA38]; exact hr38)
   rw [← hy38, ← hA38, ← hc38] at hcut38
   have HO149 := Aside0.mk (show Kd.V k31 31 _ w.heap.size _ (.slice A38 y145.length c38) y145 from Kd.V_mk (by rw [hy38, hc38]; exact Nat.sub_le_sub_right hroom38 _) hr38)
   have HC149 := Aside0.mk (show y145.length ≤ c38 from by rw [hy38, hc38]; exact Nat.sub_le_sub_right hroom38 _)
   clear hr38 hC38 hroom38 hi038 hsz38 hc38
   have KY38 := Aside0.mk hy38
   have KA38 := Aside0.mk hA38
   clear hy38 hA38
   replace q38 := eq_true q38
   refine start_ (n := 18) (S := fun w' => w'.cell? ⟨gb118, 0, none⟩ = some (.slice A1_0 l1_0.length c1_0) ∧ w'.cell? ⟨gb118, 1, none⟩ = some (.int .i64 a1_1)) (ds := []) (bl 18 0) (by kernel_rfl) rfl rfl ⟨(blk_cell BK118.out 0).trans rfl, (blk_cell BK118.out 1).trans rfl⟩ (fun hHeld => ?_); refine with_tabW spec_l2Put.tab7 spec_l2Put.bits7 (fun HT_ HW_ => ?_)
   generalize w34.drew = w36 at HO_2 HL124_0 BK118 HR124_0 HB HO135 HO149 hHeld ⊢
   refine pu_ 1 (some 52) (bl 18 2) HT_.out rfl ?_
   refine pu_ 2 (some 53) (bl 18 6) HT_.out rfl ?_
   refine pu_ 3 (some 54) (bl 18 14) HT_.out rfl ?_
   refine pu_ 5 (some 56) (bl 18 46) HT_.out rfl ?_
   refine pu_ 8 (some 59) (bl 18 302) HT_.out rfl ?_
   refine pu_ 13 (some 64) (bl 18 8494) HT_.out rfl ?_
   refine pu_ 14 (some 65) (bl 18 24878) HT_.out rfl ?_
   refine pu_ 15 (some 66) (bl 18 57646) HT_.out rfl ?_
   refine tw_ 6 (some 57) (bl 18 57710) HT_.out HW_.out rfl hHeld (fun w' s_ => by obtain ⟨s0, s1⟩ := s_; go_simp; with_reducible rfl) ?_
   refine tw_ 9 (some 60) (bl 18 58222) HT_.out HW_.out rfl hHeld (fun w' s_ => by obtain ⟨s0, s1⟩ := s_; go_simp; with_reducible rfl) ?_
   refine on_ 0 (some 51) (bl 18 58223) HT_.out rfl (fun K hK => ?_)
   refine Kd.N_lit_step k31 _ 31 ?hg (N' := 51) ?hd (xs := ([] : List (S31))) (inner := []) (ok := (fun k_ => (w.heap.size ≤ k_) ∧ some k_ ≠ (.slice (some ad124) l0.length co35 : Value).ownBlock ∧ k_ ≠ gb118)) (okp := (fun k_ => (w.heap.size ≤ k_) ∧ some k_ ≠ (.slice (some ad124) l0.length co35 : Value).ownBlock ∧ k_ ≠ gb118)) ?hr ?hp (fun _ hk => hk) ((show ∀ k_, w36.heap.size ≤ k_ → (fun k_ => (w.heap.size ≤ k_) ∧ some k_ ≠ (.slice (some ad124) l0.length co35 : Value).ownBlock ∧ k_ ≠ gb118) k_ from fun k_ hk => ⟨(Nat.le_trans (below_size b6_0) hk), Kd.fresh' (Kd.N_lt b6_3) k_ hk, Kd.freshB (g := gb118) (o := .cells #[.slice A1_0 l1_0.length c1_0, .int .i64 a1_1] 31 (0, 0)) b6_1 k_ hk⟩) _ (Nat.le_refl _)) (Below.refl _ _) (Nat.le_refl _) (by simp) ?_; (case hd => rfl); (case hg => rfl); (case hr => first | (go_simp; done) | (go_simp; rfl)); (case hp => exact (Reps.none _ _))
   intro v129 w39 ho40 hb hg_ hnew_
   clear hg_ hnew_
   (first | rw [← Ny128.out] at ho40 | (simp only [Int.reduceToNat] at ho40; rw [← Ny128.out] at ho40))
   replace HO_2 := Aside0.mk (Kd.N_elder' b6_3 (Kd.N_base ho40) hb)
   replace HL124_0 := Aside0.mk (Kd.V_elder' (cV_ HL124_0.out) (Kd.N_base ho40) hb)
   replace HO135 := Aside0.mk (Kd.V_elder' (cV_ HO135.out) (Kd.N_base ho40) hb)
   replace HO149 := Aside0.mk (Kd.V_elder' (cV_ HO149.out) (Kd.N_base ho40) hb)
   have HO130 := Aside0.mk (Kd.N_lower ho40 (below_size b6_0))
   replace BK118 := Aside0.mk (blk_below (g := gb118) (o := .cells #[.slice A1_0 l1_0.length c1_0, .int .i64 a1_1] 31 (0, 0)) b6_1 hb)
   replace HR124_0 := Aside0.mk (Kd.C_below b6_6 hb)
   replace HB := Aside0.mk (below_step b6_0 hb)
   clear hb ho40
   refine hK.out _ _ ⟨(blk_cell BK118.out 0).trans rfl, (blk_cell BK118.out 1).trans rfl⟩ (fun hHeld => ?_)
   clear hK K
   refine norm_ (a' := ?_) ?_ ?_
   rotate_left
   ·show Act.put _ (some 51) _ = _
    simp only [Act.put, List.setIfInBounds_toArray, List.set_cons_zero, List.set_cons_succ, i64_w, i32_w]
    rfl
   refine on_ 4 (some 55) (bl 18 58239) HT_.out rfl (fun K hK => ?_)
   refine Kd.N_append_rows_step k31 (w0 := w) w.heap.size (by rfl) (.tmp 51) (.tmp 54) 24 31 (.agg #[(.slice none 0 0), (.int .i64 0)]) 32 rfl Tryd.underlying24 info31 rfl (by decide) (by omega) v129 y128 y131 _ _ _ (fun k_ => (w.heap.size ≤ k_) ∧ k_ ≠ gb118) (fun k_ => ((fun k_ => (w.heap.size ≤ k_) ∧ k_ ≠ gb118)) k_ ∧ some k_ ≠ (v129 : Value).ownBlock) rfl rfl ?aO ?aR (fun _ hk => hk) ?aF ?aB ?aS ?aL ?_
   (case aR => exact (by exact (by skip; exact Kd.V_F (Kd.V_mono (ok' := (fun k_ => ((fun k_ => (w.heap.size ≤ k_) ∧ k_ ≠ gb118)) k_ ∧ some k_ ≠ (v129 : Value).ownBlock)) (HO135.out) (fun k_ hk => ⟨⟨hk.1.1, hk.1.2⟩, hk.2⟩)))))
   (case aB => exact b6_0)
   (case aF => exact b6_5)
   (case aO => exact (by exact (by refine cN_ ?_; exact Kd.N_mono HO130.out (fun _ hk => ⟨hk.1, hk.2.2⟩))))
   (case aS => exact (by exact (below_size b6_0)))
   (case aL => exact co_ LMc28.out)
   intro v137 w41 ho hb hg hat
   rw [← Ny136.out] at ho
   replace HO_2 := Aside0.mk (Kd.N_afterv (ok := (fun k_ => (w.heap.size ≤ k_) ∧ k_ ≠ gb118)) b6_3 hg hat)
   replace BK118 := Aside0.mk (blk_grown (g := gb118) (o := .cells #[.slice A1_0 l1_0.length c1_0, .int .i64 a1_1] 31 (0, 0)) b6_1 hg (Kd.N_away HO130.out (fun _ hk => hk.2.2)))
   replace HL124_0 := Aside0.mk (Kd.V_afterv (ok := (fun k_ => (w.heap.size ≤ k_) ∧ some k_ ≠ (.slice (some ad124) l0.length co35 : Value).ownBlock ∧ k_ ≠ gb118)) (by refine cV_ ?_; exact Kd.V_mono HL124_0.out (fun _ hk => by first | exact hk | exact ⟨⟨hk.1.1.1, ⟨hk.1.2, hk.1.1.2⟩⟩, hk.2⟩)) hg hat)
   replace HO135 := Aside0.mk (Kd.V_afterv (ok := (fun k_ => (w.heap.size ≤ k_) ∧ k_ ≠ gb118)) (cV_ HO135.out) hg hat)
   replace HO149 := Aside0.mk (Kd.V_afterv (ok := (fun k_ => (w.heap.size ≤ k_) ∧ k_ ≠ gb118)) (cV_ HO149.out) hg hat)
   replace HB := Aside0.mk (hb)
   have HO138 := Aside0.mk (ho)
   clear HO130
   clear ho hb hg hat
   refine hK.out _ _ ⟨(blk_cell BK118.out 0).trans rfl, (blk_cell BK118.out 1).trans rfl⟩ (fun hHeld => ?_)
   clear hK K
   refine norm_ (a' := ?_) ?_ ?_
   rotate_left
   ·show Act.put _ (some 55) _ = _
    simp only [Act.put, List.setIfInBounds_toArray, List.set_cons_zero, List.set_cons_succ, i64_w, i32_w]
    rfl
   refine on_ 7 (some 58) (bl 18 58367) HT_.out rfl (fun K hK => ?_)
   refine goes_ Tryd.func57 (by kernel_rfl) rfl #[.slice A1_0 l1_0.length c1_0] (by rfl) rfl rfl cx_ ?_
   with_reducible refine (spec_l2Row.calls _ _ l1_0 t139 _ ?side1 ?side2 A29.out).mono ?_
   (case side1 => exact b6_4)
   (case side2 => exact HC1_0.out)
   rintro e w42 ⟨v140, rfl, ho0, hb⟩
   refine ⟨_, rfl, ?_⟩
   replace HO_2 := Aside0.mk (Kd.N_elder' b6_3 (Kd.R_base ho0) hb)
   replace HL124_0 := Aside0.mk (Kd.V_elder' (cV_ HL124_0.out) (Kd.R_base ho0) hb)
   replace HO135 := Aside0.mk (Kd.V_elder' (cV_ HO135.out) (Kd.R_base ho0) hb)
   replace HO149 := Aside0.mk (Kd.V_elder' (cV_ HO149.out) (Kd.R_base ho0) hb)
   replace HO138 := Aside0.mk (Kd.N_elder' (cN_ HO138.out) (Kd.R_base ho0) hb)
   have HO141 := Aside0.mk (Kd.R_lower (Kd.R_newM (M := fun k_ => (w.heap.size ≤ k_)) ho0 (below_size b6_0) (fun k_ h_ => h_)) (below_size b6_0))
   replace BK118 := Aside0.mk (blk_below (g := gb118) (o := .cells #[.slice A1_0 l1_0.length c1_0, .int .i64 a1_1] 31 (0, 0)) b6_1 hb)
   replace HB := Aside0.mk (below_step b6_0 hb)
   (try clear hb)
   (try clear hb2)
   (try clear hk)
   (try clear hi)
   (try clear ho0)
   obtain ⟨Ao43, co43, eo43⟩ := Kd.R_slice HO141.out
   (first | subst eo43 | (injection eo43 with f1_ f2_ f3_; have f4_ := f1_.symm; have f5_ := f3_.symm; clear f1_ f2_ f3_; subst f4_; subst f5_))
   refine hK.out _ _ ⟨(blk_cell BK118.out 0).trans rfl, (blk_cell BK118.out 1).trans rfl⟩ (fun hHeld => ?_)
   clear hK K
   refine norm_ (a' := ?_) ?_ ?_
   rotate_left
   ·show Act.put _ (some 58) _ = _
    simp only [Act.put, List.setIfInBounds_toArray, List.set_cons_zero, List.set_cons_succ, i64_w, i32_w]
    rfl
   refine pu_ 10 (some 61) (bl 18 59391) HT_.out rfl ?_
   refine on_ 11 (some 62) (bl 18 61439) HT_.out rfl (fun K hK => ?_)
   refine value_ (w1 := ?_) (v := ?_) (by rfl) rfl ?_ ?_
   rotate_left 2
   ·go_simp
    constructor
    ·rfl
    ·rfl
   refine hK.out _ _ ⟨(blk_cell (blk_alloc BK118.out _) 0).trans rfl, (blk_cell (blk_alloc BK118.out _) 1).trans rfl⟩ (fun hHeld => ?_)
   clear hK K
   refine norm_ (a' := ?_) ?_ ?_
   rotate_left
   ·show Act.put _ (some 62) _ = _
    simp only [Act.put, List.setIfInBounds_toArray, List.set_cons_zero, List.set_cons_succ, i64_w, i32_w]
    rfl
   refine on_ 12 (some 63) (bl 18 65535) HT_.out rfl (fun K hK => ?_)
   refine Kd.N_append_step k31 (w0 := w) w.heap.size (by rfl) (.tmp 55) (.tmp 62) 24 31 (.agg #[(.slice none 0 0), (.int .i64 0)]) 32 rfl Tryd.underlying24 info31 rfl (by decide) (by omega) v137 y136 (⟨t139, a1_1⟩ : S31) [.slice Ao43 t139.length co43, .int .i64 a1_1] (fun k_ => (w.heap.size ≤ k_) ∧ k_ ≠ gb118) (fun k_ => ((fun k_ => (w.heap.size ≤ k_) ∧ k_ ≠ gb118)) k_ ∧ some k_ ≠ (v137 : Value).ownBlock) rfl rfl ?aP (fun _ hk => hk) ?aF ?aO ?aB ?aS ?aL ?_
   (case aP => exact (by exact (k31_mkF _ _ (⟨t139, a1_1⟩ : S31) (Kd.R_reads' (Kd.R_mono (ok' := (fun k_ => ((fun k_ => (w.heap.size ≤ k_) ∧ k_ ≠ gb118)) k_ ∧ some k_ ≠ (v137 : Value).ownBlock)) (Kd.R_types (Kd.R_apart' (HO141.out) (Kd.N_typed HO138.out) (by decide)) BK118.out (by decide)) (fun k_ hk => ⟨⟨hk.1.1.1, hk.2⟩, hk.1.2⟩))).2.1 (Kd.R_F (Kd.R_mono (ok' := (fun k_ => ((fun k_ => (w.heap.size ≤ k_) ∧ k_ ≠ gb118)) k_ ∧ some k_ ≠ (v137 : Value).ownBlock)) (Kd.R_types (Kd.R_apart' (HO141.out) (Kd.N_typed HO138.out) (by decide)) BK118.out (by decide)) (fun k_ hk => ⟨⟨hk.1.1.1, hk.2⟩, hk.1.2⟩))))))
   (case aB => exact b6_0)
   (case aF => exact b6_5)
   (case aO => exact (by exact (by refine cN_ ?_; exact Kd.N_mono HO138.out (fun _ hk => ⟨hk.1.1, hk.1.2⟩))))
   (case aS => exact (by exact (below_size b6_0)))
   (case aL => exact co_ LMc30.out)
   intro v143 w44 ho hb hg hat
   rw [← Ny142.out] at ho
   replace HO_2 := Aside0.mk (Kd.N_afterv (ok := (fun k_ => (w.heap.size ≤ k_) ∧ some k_ ≠ (.slice Ao43 t139.length co43 : Value).ownBlock ∧ k_ ≠ gb118)) (by refine cN_ ?_; exact Kd.N_mono HO_2.out (fun _ hk => ⟨⟨hk.1.1.1, ⟨hk.2, hk.1.1.2⟩⟩, hk.1.2⟩)) hg hat)
   replace BK118 := Aside0.mk (blk_grown (g := gb118) (o := .cells #[.slice A1_0 l1_0.length c1_0, .int .i64 a1_1] 31 (0, 0)) b6_1 hg (Kd.N_away HO138.out (fun _ hk => hk.1.2)))
   replace HL124_0 := Aside0.mk (Kd.V_afterv (ok := (fun k_ => (w.heap.size ≤ k_) ∧ some k_ ≠ (.slice (some ad124) l0.length co35 : Value).ownBlock ∧ some k_ ≠ (.slice Ao43 t139.length co43 : Value).ownBlock ∧ k_ ≠ gb118)) (by refine cV_ ?_; exact Kd.V_mono HL124_0.out (fun _ hk => ⟨⟨hk.1.1.1, ⟨hk.1.1.2.1, ⟨hk.2, hk.1.1.2.2⟩⟩⟩, hk.1.2⟩)) hg hat)
   replace HO135 := Aside0.mk (Kd.V_afterv (ok := (fun k_ => (w.heap.size ≤ k_) ∧ some k_ ≠ (.slice Ao43 t139.length co43 : Value).ownBlock ∧ k_ ≠ gb118)) (by refine cV_ ?_; exact Kd.V_mono HO135.out (fun _ hk => ⟨⟨hk.1.1.1, ⟨hk.2, hk.1.1.2⟩⟩, hk.1.2⟩)) hg hat)
   replace HO149 := Aside0.mk (Kd.V_afterv (ok := (fun k_ => (w.heap.size ≤ k_) ∧ some k_ ≠ (.slice Ao43 t139.length co43 : Value).ownBlock ∧ k_ ≠ gb118)) (by refine cV_ ?_; exact Kd.V_mono HO149.out (fun _ hk => ⟨⟨hk.1.1.1, ⟨hk.2, hk.1.1.2⟩⟩, hk.1.2⟩)) hg hat)
   replace HB := Aside0.mk (hb)
   have HO144 := Aside0.mk (ho)
   clear HO138
   clear HO141
   clear ho hb hg hat
   refine hK.out _ _ ⟨(blk_cell BK118.out 0).trans rfl, (blk_cell BK118.out 1).trans rfl⟩ (fun hHeld => ?_)
   clear hK K
   refine norm_ (a' := ?_) ?_ ?_
   rotate_left
   ·show Act.put _ (some 63) _ = _
    simp only [Act.put, List.setIfInBounds_toArray, List.set_cons_zero, List.set_cons_succ, i64_w, i32_w]
    rfl
   refine on_ 16 (some 67) (bl 18 131071) HT_.out rfl (fun K hK => ?_)
   refine Kd.N_append_rows_step k31 (w0 := w) w.heap.size (by rfl) (.tmp 63) (.tmp 66) 24 31 (.agg #[(.slice none 0 0), (.int .i64 0)]) 32 rfl Tryd.underlying24 info31 rfl (by decide) (by omega) v143 y142 y145 _ _ _ (fun k_ => (w.heap.size ≤ k_) ∧ k_ ≠ gb118) (fun k_ => ((fun k_ => (w.heap.size ≤ k_) ∧ k_ ≠ gb118)) k_ ∧ some k_ ≠ (v143 : Value).ownBlock) rfl rfl ?aO ?aR (fun _ hk => hk) ?aF ?aB ?aS ?aL ?_
   (case aR => exact (by exact (by skip; exact Kd.V_F (Kd.V_mono (ok' := (fun k_ => ((fun k_ => (w.heap.size ≤ k_) ∧ k_ ≠ gb118)) k_ ∧ some k_ ≠ (v143 : Value).ownBlock)) (HO149.out) (fun k_ hk => ⟨⟨hk.1.1, hk.1.2.2⟩, hk.2⟩)))))
   (case aB => exact b6_0)
   (case aF => exact b6_5)
   (case aO => exact (by exact cN_ HO144.out))
   (case aS => exact (by exact (below_size b6_0)))
   (case aL => exact co_ LMc33.out)
   intro v151 w45 ho hb hg hat
   rw [← Ny150.out] at ho
   replace HO_2 := Aside0.mk (Kd.N_afterv (ok := (fun k_ => (w.heap.size ≤ k_) ∧ k_ ≠ gb118)) (by refine cN_ ?_; exact Kd.N_mono HO_2.out (fun _ hk => ⟨⟨hk.1.1, hk.1.2.2⟩, hk.2⟩)) hg hat)
   replace BK118 := Aside0.mk (blk_grown (g := gb118) (o := .cells #[.slice A1_0 l1_0.length c1_0, .int .i64 a1_1] 31 (0, 0)) b6_1 hg (Kd.N_away HO144.out (fun _ hk => hk.2)))
   replace HL124_0 := Aside0.mk (Kd.V_afterv (ok := (fun k_ => (w.heap.size ≤ k_) ∧ some k_ ≠ (.slice (some ad124) l0.length co35 : Value).ownBlock ∧ k_ ≠ gb118)) (by refine cV_ ?_; exact Kd.V_mono HL124_0.out (fun _ hk => ⟨⟨hk.1.1, ⟨hk.1.2.1, hk.1.2.2.2⟩⟩, hk.2⟩)) hg hat)
   replace HO135 := Aside0.mk (Kd.V_afterv (ok := (fun k_ => (w.heap.size ≤ k_) ∧ k_ ≠ gb118)) (by refine cV_ ?_; exact Kd.V_mono HO135.out (fun _ hk => ⟨⟨hk.1.1, hk.1.2.2⟩, hk.2⟩)) hg hat)
   replace HO149 := Aside0.mk (Kd.V_afterv (ok := (fun k_ => (w.heap.size ≤ k_) ∧ k_ ≠ gb118)) (by refine cV_ ?_; exact Kd.V_mono HO149.out (fun _ hk => ⟨⟨hk.1.1, hk.1.2.2⟩, hk.2⟩)) hg hat)
   replace HB := Aside0.mk (hb)
   have HO152 := Aside0.mk (ho)
   clear HO144
   clear ho hb hg hat
   refine hK.out _ _ ⟨(blk_cell BK118.out 0).trans rfl, (blk_cell BK118.out 1).trans rfl⟩ (fun hHeld => ?_)
   clear hK K
   refine norm_ (a' := ?_) ?_ ?_
   rotate_left
   ·show Act.put _ (some 67) _ = _
    simp only [Act.put, List.setIfInBounds_toArray, List.set_cons_zero, List.set_cons_succ, i64_w, i32_w]
    rfl
   refine pu_ 17 (some 4) (bl 18 262143) HT_.out rfl ?_
   refine done_ (done_of HT_.out (by kernel_rfl)) ?_
   try go_wp2
   go_ret
   exact ⟨_, ce_, by refine cN_ ?_; exact Kd.N_mono HO152.out (fun _ hk => hk.1), cB1_ GE118.out⟩

end Go.Proofs.YthgmicingbjemaaDoor.PFnSums
