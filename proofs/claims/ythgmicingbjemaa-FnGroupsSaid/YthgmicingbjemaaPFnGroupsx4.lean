-- Written by fprint, a program of this session, out of Lean's own print of the translation. Lean checks it.
import Derived.Test.YthgmicingbjemaaDense
import Derived.Test.YthgmicingbjemaaPFnGroupsx0
import Derived.Test.YthgmicingbjemaaPFnGroupsx3
namespace Go.Proofs.Ythgmicingbjemaa.PFnGroups
open Go.RowKit Go.Proofs.YthgmicingbjemaaW.PrintWords Go.Proofs.YthgmicingbjemaaW.PrintLast Go.Proofs.YthgmicingbjemaaW.PrintMore
attribute [local go_sem] max2_int min2_int max_two min_two max_three min_three max_four min_four   -- for this text's walks alone
set_option linter.unusedVariables false
set_option linter.unusedSimpArgs false

theorem b4_0 {p : Prop} (h : p := by first | exact ⟨rfl, _, World.drewN_drewN _ _ _⟩ | exact ⟨rfl, _, Eq.trans (World.drewN_drewN _ _ _) (congrArg (World.drewN _) (Nat.add_assoc _ _ _))⟩) : p := h
theorem b4_2 {p : Prop} (h : p := by exact cC_ HR137_0.out) : p := h
theorem b4_3 {p : Prop} (h : p := by exact cC_ HR142_0.out) : p := h
theorem b4_4 {p : Prop} (h : p := by exact cC_ HR143_0.out) : p := h
/-! ### spec_SetFault: function 55 -/
mutual
def spec_SetFault.l0 : Nat → List (S42) → Int → Option (Int)
 | 0, _, _ => none
 | k + 1, x0, x3 => if x3 < (x0.length : Int) then (if 0 ≤ x3 then ((spec_RowFault.f k ((rd_T42 x0 x3).f0)).bind fun t138 => (if t138 = 0 then ((spec_l1Weight.f ((rd_T42 x0 x3).f1)).bind fun t140 => (if t140 = true then (spec_SetFault.j1 k x0 x3 (((rd_T42 x0 x3).f1) == 0)) else (spec_SetFault.j1 k x0 x3 true))) else (some t138))) else (none)) else (some 0)
def spec_SetFault.j1 : Nat → List (S42) → Int → Bool → Option (Int)
 | 0, _, _, _ => none
 | k + 1, x0, x3, x37 => if x37 = true then (some 3) else (if x3 > 0 then (if 0 ≤ x3 then (if x3 < (x0.length : Int) then (if 0 ≤ (wrap64 (x3 - 1)) then (if (wrap64 (x3 - 1)) < (x0.length : Int) then ((spec_CompareRows.f k ((rd_T42 x0 x3).f0) ((rd_T42 x0 (wrap64 (x3 - 1))).f0)).bind fun t144 => (if t144 ≤ 0 then (some 1) else (spec_SetFault.l0 k x0 (wrap64 (x3 + 1))))) else (none)) else (none)) else (none)) else (none)) else (spec_SetFault.l0 k x0 (wrap64 (x3 + 1))))
end
def spec_SetFault.f (k : Nat) (l0 : List (S42)) : Option (Int) := if (l0.length : Int) > 200 then (some 2) else (spec_SetFault.l0 k l0 0)
theorem spec_SetFault.mono_l : ∀ k, (∀ y0 y1, LeO (spec_SetFault.l0 k y0 y1) (spec_SetFault.l0 (k + 1) y0 y1)) ∧ (∀ y0 y1 y2, LeO (spec_SetFault.j1 k y0 y1 y2) (spec_SetFault.j1 (k + 1) y0 y1 y2))
 | 0 => ⟨fun _ _ r h => by simp [spec_SetFault.l0] at h, fun _ _ _ r h => by simp [spec_SetFault.j1] at h⟩
 | k + 1 => by
  obtain ⟨ih0, ih1⟩ := spec_SetFault.mono_l k
  refine ⟨?_, ?_⟩
  ·intro y0 y1
   unfold spec_SetFault.l0
   repeat' first
   | (with_reducible exact ih0 _ _)
   | (with_reducible exact ih1 _ _ _)
   | (with_reducible exact spec_CompareRows.mono _ _ _)
   | (with_reducible exact spec_RowFault.mono _ _)
   | (with_reducible exact LeO.refl _)
   | (with_reducible exact LeO.none _)
   | (with_reducible refine LeO.ite ?_ ?_)
   | (with_reducible refine LeO.bind ?_ (fun _ => ?_))
   | exact ih0 _ _
   | exact ih1 _ _ _
   | exact spec_CompareRows.mono _ _ _
   | exact spec_RowFault.mono _ _
   | exact LeO.none _
   | refine LeO.ite ?_ ?_
   | refine LeO.bind ?_ (fun _ => ?_)
  ·intro y0 y1 y2
   unfold spec_SetFault.j1
   repeat' first
   | (with_reducible exact ih0 _ _)
   | (with_reducible exact ih1 _ _ _)
   | (with_reducible exact spec_CompareRows.mono _ _ _)
   | (with_reducible exact spec_RowFault.mono _ _)
   | (with_reducible exact LeO.refl _)
   | (with_reducible exact LeO.none _)
   | (with_reducible refine LeO.ite ?_ ?_)
   | (with_reducible refine LeO.bind ?_ (fun _ => ?_))
   | exact ih0 _ _
   | exact ih1 _ _ _
   | exact spec_CompareRows.mono _ _ _
   | exact spec_RowFault.mono _ _
   | exact LeO.none _
   | refine LeO.ite ?_ ?_
   | refine LeO.bind ?_ (fun _ => ?_)
theorem spec_SetFault.mono : ∀ a0 k, LeO (spec_SetFault.f k a0) (spec_SetFault.f (k + 1) a0) := by
 intro a0 k
 obtain ⟨ih0, ih1⟩ := spec_SetFault.mono_l k
 unfold spec_SetFault.f
 repeat' first
   | (with_reducible exact ih0 _ _)
   | (with_reducible exact ih1 _ _ _)
   | (with_reducible exact spec_CompareRows.mono _ _ _)
   | (with_reducible exact spec_RowFault.mono _ _)
   | (with_reducible exact LeO.refl _)
   | (with_reducible exact LeO.none _)
   | (with_reducible refine LeO.ite ?_ ?_)
   | (with_reducible refine LeO.bind ?_ (fun _ => ?_))
   | exact ih0 _ _
   | exact ih1 _ _ _
   | exact spec_CompareRows.mono _ _ _
   | exact spec_RowFault.mono _ _
   | exact LeO.none _
   | refine LeO.ite ?_ ?_
   | refine LeO.bind ?_ (fun _ => ?_)
set_option maxHeartbeats 8000000 in
set_option maxRecDepth 100000 in
theorem spec_SetFault.calls (k : Nat) (A0 : Option Addr) (c0 : Nat) (l0 : List (S42)) (r : Int) (w : World) (hr0 : Kd.C k42 w A0 l0.length l0) (hc0 : l0.length ≤ c0) (h : spec_SetFault.f k l0 = some r) :
  Calls Try.prog 55 #[.slice A0 l0.length c0] w fun e w' => e = .returned (.int .i64 r) ∧ Drawn0 w w' := by
 have HR0 := Aside0.mk hr0
 have HC0 := Aside0.mk hc0
 clear hr0 hc0
 have H : (if (l0.length : Int) > 200 then (some 2) else (spec_SetFault.l0 k l0 0)) = some r := h
 clear h
 by_cases c2 : (l0.length : Int) > 200
 ·rw [if_pos c2] at H
  have c2b0 : decide (200 < (l0.length : Int)) = true := decide_eq_true c2
  have c2b1 : decide (200 < l0.length) = true := decide_eq_true (by omega)
  clear c2
  obtain rfl := Option.some.inj H
  go_enter Try.func55, Try.ntmps55
  go_wp2
  repeat (go_quiet (fail); try go_wp2)
  go_ret
  exact ⟨cs_, cD_⟩
 ·rw [if_neg c2] at H
  have c2b0 : decide (200 < (l0.length : Int)) = false := decide_eq_false c2
  have c2b1 : decide (200 < l0.length) = false := decide_eq_false (by omega)
  clear c2
  have H' := Aside0.mk H
  clear H
  go_enter Try.func55, Try.ntmps55
  go_wp2
  repeat (go_quiet (fail); try go_wp2)
  go_loopg [3] k (fun kq v3 w' => ∃ (x3_1 : Int), v3 = .int .i64 x3_1 ∧ Aside0 (spec_SetFault.l0 kq l0 x3_1 = some r) ∧ Aside0 (kq ≤ k) ∧ Drawn0 w w')
  case atStart => exact ⟨(0), cs_, H', ⟨Nat.le_refl _⟩, cD_⟩
  case round =>
   clear H'
   try clear c2
   try clear c2b0
   try clear c2b1
   try clear p2
   obtain ⟨x3_1, rfl, HA, HK1, ⟨m1, rfl⟩⟩ := hrel
   cases gk with
   | zero => exact absurd HA.out (by simp [spec_SetFault.l0])
   | succ k1 =>
    have H := HA.out
    clear HA
    simp only [spec_SetFault.l0] at H
    by_cases c3 : x3_1 < (l0.length : Int)
    ·rw [if_pos c3] at H
     have c3b0 : decide (x3_1 < (l0.length : Int)) = true := decide_eq_true c3
     clear c3
     by_cases c4 : 0 ≤ x3_1
     ·rw [if_pos c4] at H
      have c4b0 : decide (0 ≤ x3_1) = true := decide_eq_true c4
      clear c4
      obtain ⟨t138, A5, H⟩ := bnd_ H
      try dsimp only at H
      by_cases c6 : t138 = 0
      ·rw [if_pos c6] at H
       have c6b0 : (t138 == 0) = true := beq_iff_eq.mpr c6
       have c6b1 : (t138 != 0) = false := bne_eq_false_iff_eq.mpr c6
       clear c6
       have HC7 := Aside0.mk H
       clear H
       have p137 : 0 ≤ (x3_1 : Int) := of_decide_eq_true ca_
       have q137 : x3_1 < (l0.length : Int) := of_decide_eq_true ca_
       obtain ⟨ad137, A137_0, c137_0, e137, hx137_0, hx137_1, hl137_0, hi137_0⟩ := at_T42 HR0.out x3_1 p137 q137
       cases e137
       have HR137_0 := Aside0.mk hi137_0
       have HC137_0 := Aside0.mk hl137_0
       clear hi137_0 hl137_0
       replace p137 := eq_true p137
       replace q137 := eq_true q137
       go_upto_region 9 with (first | (go_at_call 44; (with_reducible refine (spec_RowFault.calls k1 _ _ ((rd_T42 l0 x3_1).f0) t138 _ ?side1 ?side2 A5.out).mono ?_); (case side1 => exact b4_2); (case side2 => exact HC137_0.out); rintro e w' ⟨rfl, ⟨nd, rfl⟩⟩; (try exact b4_0)))
       repeat (go_quiet (first | (go_at_call 44; (with_reducible refine (spec_RowFault.calls k1 _ _ ((rd_T42 l0 x3_1).f0) t138 _ ?side1 ?side2 A5.out).mono ?_); (case side1 => exact b4_2); (case side2 => exact HC137_0.out); rintro e w' ⟨rfl, ⟨nd, rfl⟩⟩; (try exact b4_0))); go_upto_region 9 with (first | (go_at_call 44; (with_reducible refine (spec_RowFault.calls k1 _ _ ((rd_T42 l0 x3_1).f0) t138 _ ?side1 ?side2 A5.out).mono ?_); (case side1 => exact b4_2); (case side2 => exact HC137_0.out); rintro e w' ⟨rfl, ⟨nd, rfl⟩⟩; (try exact b4_0))))
       (try simp only [Act.put, List.setIfInBounds_toArray, List.set_cons_zero, List.set_cons_succ])
       go_cut [37] (fun v37 wc => ∃ (kq : Nat) (x37_6 : Bool), v37 = .bool x37_6 ∧ Aside0 (spec_SetFault.j1 kq l0 x3_1 x37_6 = some r) ∧ Aside0 (kq ≤ k1) ∧ Drawn0 w wc)
       case first =>
        have H := HC7.out
        clear HC7
        obtain ⟨t140, A8, H⟩ := bnd_ H
        try dsimp only at H
        by_cases c9 : t140 = true
        ·subst c9
         rw [if_pos rfl] at H
         have H' := Aside0.mk H
         clear H
         have p139 : 0 ≤ (x3_1 : Int) := of_decide_eq_true ca_
         have q139 : x3_1 < (l0.length : Int) := of_decide_eq_true ca_
         obtain ⟨ad139, A139_0, c139_0, e139, hx139_0, hx139_1, hl139_0, hi139_0⟩ := at_T42 HR0.out x3_1 p139 q139
         obtain rfl : ad137 = ad139 := (by injection e139)
         have HR139_0 := Aside0.mk hi139_0
         have HC139_0 := Aside0.mk hl139_0
         clear hi139_0 hl139_0
         replace p139 := eq_true p139
         replace q139 := eq_true q139
         go_wp2_with (first | (go_at_call 45; (with_reducible refine (spec_l1Weight.calls ((rd_T42 l0 x3_1).f1) true _ A8.out).mono ?_); rintro e w' ⟨rfl, ⟨nd, rfl⟩⟩; (try exact b4_0); have p141 : 0 ≤ (x3_1 : Int) := of_decide_eq_true ca_; have q141 : x3_1 < (l0.length : Int) := of_decide_eq_true ca_; obtain ⟨ad141, A141_0, c141_0, e141, hx141_0, hx141_1, hl141_0, hi141_0⟩ := at_T42 HR0.out x3_1 p141 q141; obtain rfl : ad137 = ad141 := (by injection e141); have HR141_0 := Aside0.mk hi141_0; have HC141_0 := Aside0.mk hl141_0; clear hi141_0 hl141_0; replace p141 := eq_true p141; replace q141 := eq_true q141; have ea_ := Option.some.inj (hx139_0.symm.trans hx141_0); injection ea_ with ea_ en_ ec_; subst ea_; subst ec_; clear en_))
         repeat (go_quiet (first | (go_at_call 45; (with_reducible refine (spec_l1Weight.calls ((rd_T42 l0 x3_1).f1) true _ A8.out).mono ?_); rintro e w' ⟨rfl, ⟨nd, rfl⟩⟩; (try exact b4_0); have p141 : 0 ≤ (x3_1 : Int) := of_decide_eq_true ca_; have q141 : x3_1 < (l0.length : Int) := of_decide_eq_true ca_; obtain ⟨ad141, A141_0, c141_0, e141, hx141_0, hx141_1, hl141_0, hi141_0⟩ := at_T42 HR0.out x3_1 p141 q141; obtain rfl : ad137 = ad141 := (by injection e141); have HR141_0 := Aside0.mk hi141_0; have HC141_0 := Aside0.mk hl141_0; clear hi141_0 hl141_0; replace p141 := eq_true p141; replace q141 := eq_true q141; have ea_ := Option.some.inj (hx139_0.symm.trans hx141_0); injection ea_ with ea_ en_ ec_; subst ea_; subst ec_; clear en_)); try go_wp2_with (first | (go_at_call 45; (with_reducible refine (spec_l1Weight.calls ((rd_T42 l0 x3_1).f1) true _ A8.out).mono ?_); rintro e w' ⟨rfl, ⟨nd, rfl⟩⟩; (try exact b4_0); have p141 : 0 ≤ (x3_1 : Int) := of_decide_eq_true ca_; have q141 : x3_1 < (l0.length : Int) := of_decide_eq_true ca_; obtain ⟨ad141, A141_0, c141_0, e141, hx141_0, hx141_1, hl141_0, hi141_0⟩ := at_T42 HR0.out x3_1 p141 q141; obtain rfl : ad137 = ad141 := (by injection e141); have HR141_0 := Aside0.mk hi141_0; have HC141_0 := Aside0.mk hl141_0; clear hi141_0 hl141_0; replace p141 := eq_true p141; replace q141 := eq_true q141; have ea_ := Option.some.inj (hx139_0.symm.trans hx141_0); injection ea_ with ea_ en_ ec_; subst ea_; subst ec_; clear en_)))
         go_meet
         case rel => exact ⟨_, ((((rd_T42 l0 x3_1).f1) == 0)), cs_, H', ⟨by have := HK1.out; first | omega | exact Nat.le_refl _⟩, cD_⟩
        ·replace c9 := Bool.eq_false_iff.mpr c9
         subst c9
         rw [if_neg (show ¬ (false = true) by decide)] at H
         have H' := Aside0.mk H
         clear H
         have p139 : 0 ≤ (x3_1 : Int) := of_decide_eq_true ca_
         have q139 : x3_1 < (l0.length : Int) := of_decide_eq_true ca_
         obtain ⟨ad139, A139_0, c139_0, e139, hx139_0, hx139_1, hl139_0, hi139_0⟩ := at_T42 HR0.out x3_1 p139 q139
         obtain rfl : ad137 = ad139 := (by injection e139)
         have HR139_0 := Aside0.mk hi139_0
         have HC139_0 := Aside0.mk hl139_0
         clear hi139_0 hl139_0
         replace p139 := eq_true p139
         replace q139 := eq_true q139
         go_wp2_with (first | (go_at_call 45; (with_reducible refine (spec_l1Weight.calls ((rd_T42 l0 x3_1).f1) false _ A8.out).mono ?_); rintro e w' ⟨rfl, ⟨nd, rfl⟩⟩; (try exact b4_0)))
         repeat (go_quiet (first | (go_at_call 45; (with_reducible refine (spec_l1Weight.calls ((rd_T42 l0 x3_1).f1) false _ A8.out).mono ?_); rintro e w' ⟨rfl, ⟨nd, rfl⟩⟩; (try exact b4_0))); try go_wp2_with (first | (go_at_call 45; (with_reducible refine (spec_l1Weight.calls ((rd_T42 l0 x3_1).f1) false _ A8.out).mono ?_); rintro e w' ⟨rfl, ⟨nd, rfl⟩⟩; (try exact b4_0))))
         go_meet
         case rel => exact ⟨_, (true), cs_, H', ⟨by have := HK1.out; first | omega | exact Nat.le_refl _⟩, cD_⟩
       case rest =>
        clear HC7
        try clear c1
        try clear p1
        try clear q1
        try clear hx1
        try clear c2
        try clear c2b0
        try clear c2b1
        try clear p2
        try clear c3
        try clear c3b0
        try clear c4
        try clear c4b0
        try clear c5
        try clear c6
        try clear c6b0
        try clear c6b1
        try clear c9
        try clear hx137_0
        try clear hx137_1
        try clear hx139_0
        try clear hx139_1
        try clear hx141_0
        try clear hx141_1
        try clear p137
        try clear p139
        try clear p141
        try clear p2
        try clear q137
        try clear q139
        try clear q141
        obtain ⟨kq, x37_6, rfl, HA, HJ6, ⟨mc6, rfl⟩⟩ := hcut
        cases kq with
        | zero => exact absurd HA.out (by simp [spec_SetFault.j1])
        | succ kj6 =>
         have H := HA.out
         clear HA
         simp only [spec_SetFault.j1] at H
         by_cases c10 : x37_6 = true
         ·subst c10
          rw [if_pos rfl] at H
          obtain rfl := Option.some.inj H
          go_wp2
          repeat (go_quiet (fail); try go_wp2)
          go_ret
          exact ⟨cs_, cD_⟩
         ·replace c10 := Bool.eq_false_iff.mpr c10
          subst c10
          rw [if_neg (show ¬ (false = true) by decide)] at H
          by_cases c11 : x3_1 > 0
          ·rw [if_pos c11] at H
           have c11b0 : decide (0 < x3_1) = true := decide_eq_true c11
           clear c11
           by_cases c12 : 0 ≤ x3_1
           ·rw [if_pos c12] at H
            have c12b0 : decide (0 ≤ x3_1) = true := decide_eq_true c12
            clear c12
            by_cases c13 : x3_1 < (l0.length : Int)
            ·rw [if_pos c13] at H
             have c13b0 : decide (x3_1 < (l0.length : Int)) = true := decide_eq_true c13
             clear c13
             obtain ⟨ji14, hji14⟩ : ∃ j_ : Int, (wrap64 (x3_1 - 1)) = j_ := ⟨_, rfl⟩
             replace H : (if 0 ≤ (ji14) then (if (ji14) < (l0.length : Int) then ((spec_CompareRows.f kj6 ((rd_T42 l0 x3_1).f0) ((rd_T42 l0 (ji14)).f0)).bind fun t144 => (if t144 ≤ 0 then (some 1) else (spec_SetFault.l0 kj6 l0 (wrap64 (x3_1 + 1))))) else (none)) else (none)) = some r := by first | (rw [hji14] at H; exact H) | (simp only [hji14] at H ⊢; exact H)
             have hji14w : (IntKind.i64.wrap (x3_1 - 1)) = ji14 := (i64_w _).trans hji14
             by_cases c15 : 0 ≤ (ji14)
             ·rw [if_pos c15] at H
              have c15b0 : decide (0 ≤ (ji14)) = true := decide_eq_true c15
              clear c15
              by_cases c16 : (ji14) < (l0.length : Int)
              ·rw [if_pos c16] at H
               have c16b0 : decide ((ji14) < (l0.length : Int)) = true := decide_eq_true c16
               clear c16
               obtain ⟨t144, A17, H⟩ := bnd_ H
               try dsimp only at H
               by_cases c18 : t144 ≤ 0
               ·rw [if_pos c18] at H
                have c18b0 : decide (t144 ≤ 0) = true := decide_eq_true c18
                clear c18
                obtain rfl := Option.some.inj H
                have p142 : 0 ≤ (x3_1 : Int) := of_decide_eq_true ca_
                have q142 : x3_1 < (l0.length : Int) := of_decide_eq_true ca_
                obtain ⟨ad142, A142_0, c142_0, e142, hx142_0, hx142_1, hl142_0, hi142_0⟩ := at_T42 HR0.out x3_1 p142 q142
                obtain rfl : ad137 = ad142 := (by injection e142)
                have HR142_0 := Aside0.mk hi142_0
                have HC142_0 := Aside0.mk hl142_0
                clear hi142_0 hl142_0
                replace p142 := eq_true p142
                replace q142 := eq_true q142
                have p143 : 0 ≤ ((ji14) : Int) := of_decide_eq_true ca_
                have q143 : (ji14) < (l0.length : Int) := of_decide_eq_true ca_
                obtain ⟨ad143, A143_0, c143_0, e143, hx143_0, hx143_1, hl143_0, hi143_0⟩ := at_T42 HR0.out (ji14) p143 q143
                obtain rfl : ad137 = ad143 := (by injection e143)
                have HR143_0 := Aside0.mk hi143_0
                have HC143_0 := Aside0.mk hl143_0
                clear hi143_0 hl143_0
                replace p143 := eq_true p143
                replace q143 := eq_true q143
                go_wp2_with (first | (go_at_call 99; (with_reducible refine (spec_CompareRows.calls kj6 _ _ ((rd_T42 l0 x3_1).f0) _ _ ((rd_T42 l0 (ji14)).f0) t144 _ ?side1 ?side2 ?side3 ?side4 A17.out).mono ?_); (case side1 => exact b4_3); (case side2 => exact HC142_0.out); (case side3 => exact b4_4); (case side4 => exact HC143_0.out); rintro e w' ⟨rfl, ⟨nd, rfl⟩⟩; (try exact b4_0)))
                repeat (go_quiet (first | (go_at_call 99; (with_reducible refine (spec_CompareRows.calls kj6 _ _ ((rd_T42 l0 x3_1).f0) _ _ ((rd_T42 l0 (ji14)).f0) t144 _ ?side1 ?side2 ?side3 ?side4 A17.out).mono ?_); (case side1 => exact b4_3); (case side2 => exact HC142_0.out); (case side3 => exact b4_4); (case side4 => exact HC143_0.out); rintro e w' ⟨rfl, ⟨nd, rfl⟩⟩; (try exact b4_0))); try go_wp2_with (first | (go_at_call 99; (with_reducible refine (spec_CompareRows.calls kj6 _ _ ((rd_T42 l0 x3_1).f0) _ _ ((rd_T42 l0 (ji14)).f0) t144 _ ?side1 ?side2 ?side3 ?side4 A17.out).mono ?_); (case side1 => exact b4_3); (case side2 => exact HC142_0.out); (case side3 => exact b4_4); (case side4 => exact HC143_0.out); rintro e w' ⟨rfl, ⟨nd, rfl⟩⟩; (try exact b4_0))))
                go_ret
                exact ⟨by first | rfl | (simp; done) | (simp only [← hji14] <;> (first | rfl | simp)) | (simp [*]; done), cD_⟩
               ·rw [if_neg c18] at H
                have c18b0 : decide (t144 ≤ 0) = false := decide_eq_false c18
                clear c18
                have H' := Aside0.mk H
                clear H
                have p142 : 0 ≤ (x3_1 : Int) := of_decide_eq_true ca_
                have q142 : x3_1 < (l0.length : Int) := of_decide_eq_true ca_
                obtain ⟨ad142, A142_0, c142_0, e142, hx142_0, hx142_1, hl142_0, hi142_0⟩ := at_T42 HR0.out x3_1 p142 q142
                obtain rfl : ad137 = ad142 := (by injection e142)
                have HR142_0 := Aside0.mk hi142_0
                have HC142_0 := Aside0.mk hl142_0
                clear hi142_0 hl142_0
                replace p142 := eq_true p142
                replace q142 := eq_true q142
                have p143 : 0 ≤ ((ji14) : Int) := of_decide_eq_true ca_
                have q143 : (ji14) < (l0.length : Int) := of_decide_eq_true ca_
                obtain ⟨ad143, A143_0, c143_0, e143, hx143_0, hx143_1, hl143_0, hi143_0⟩ := at_T42 HR0.out (ji14) p143 q143
                obtain rfl : ad137 = ad143 := (by injection e143)
                have HR143_0 := Aside0.mk hi143_0
                have HC143_0 := Aside0.mk hl143_0
                clear hi143_0 hl143_0
                replace p143 := eq_true p143
                replace q143 := eq_true q143
                go_wp2_with (first | (go_at_call 99; (with_reducible refine (spec_CompareRows.calls kj6 _ _ ((rd_T42 l0 x3_1).f0) _ _ ((rd_T42 l0 (ji14)).f0) t144 _ ?side1 ?side2 ?side3 ?side4 A17.out).mono ?_); (case side1 => exact b4_3); (case side2 => exact HC142_0.out); (case side3 => exact b4_4); (case side4 => exact HC143_0.out); rintro e w' ⟨rfl, ⟨nd, rfl⟩⟩; (try exact b4_0)))
                repeat (go_quiet (first | (go_at_call 99; (with_reducible refine (spec_CompareRows.calls kj6 _ _ ((rd_T42 l0 x3_1).f0) _ _ ((rd_T42 l0 (ji14)).f0) t144 _ ?side1 ?side2 ?side3 ?side4 A17.out).mono ?_); (case side1 => exact b4_3); (case side2 => exact HC142_0.out); (case side3 => exact b4_4); (case side4 => exact HC143_0.out); rintro e w' ⟨rfl, ⟨nd, rfl⟩⟩; (try exact b4_0))); try go_wp2_with (first | (go_at_call 99; (with_reducible refine (spec_CompareRows.calls kj6 _ _ ((rd_T42 l0 x3_1).f0) _ _ ((rd_T42 l0 (ji14)).f0) t144 _ ?side1 ?side2 ?side3 ?side4 A17.out).mono ?_); (case side1 => exact b4_3); (case side2 => exact HC142_0.out); (case side3 => exact b4_4); (case side4 => exact HC143_0.out); rintro e w' ⟨rfl, ⟨nd, rfl⟩⟩; (try exact b4_0))))
                go_roundg kj6
                case measure => have := HK1.out; have := HJ6.out; omega
                case rel => exact ⟨(wrap64 (x3_1 + 1)), cs_, H', ⟨by have := HK1.out; have := HJ6.out; omega⟩, cD_⟩
              ·rw [if_neg c16] at H
               exact absurd H (by simp)
             ·rw [if_neg c15] at H
              exact absurd H (by simp)
            ·rw [if_neg c13] at H
             exact absurd H (by simp)
           ·rw [if_neg c12] at H
            exact absurd H (by simp)
          ·rw [if_neg c11] at H
           have c11b0 : decide (0 < x3_1) = false := decide_eq_false c11
           clear c11
           have H' := Aside0.mk H
           clear H
           go_wp2
           repeat (go_quiet (fail); try go_wp2)
           go_roundg kj6
           case measure => have := HK1.out; have := HJ6.out; omega
           case rel => exact ⟨(wrap64 (x3_1 + 1)), cs_, H', ⟨by have := HK1.out; have := HJ6.out; omega⟩, cD_⟩
      ·rw [if_neg c6] at H
       have c6b0 : (t138 == 0) = false := beq_eq_false_iff_ne.mpr c6
       have c6b1 : (t138 != 0) = true := bne_iff_ne.mpr c6
       obtain rfl := Option.some.inj H
       have p137 : 0 ≤ (x3_1 : Int) := of_decide_eq_true ca_
       have q137 : x3_1 < (l0.length : Int) := of_decide_eq_true ca_
       obtain ⟨ad137, A137_0, c137_0, e137, hx137_0, hx137_1, hl137_0, hi137_0⟩ := at_T42 HR0.out x3_1 p137 q137
       cases e137
       have HR137_0 := Aside0.mk hi137_0
       have HC137_0 := Aside0.mk hl137_0
       clear hi137_0 hl137_0
       replace p137 := eq_true p137
       replace q137 := eq_true q137
       go_wp2_with (first | (go_at_call 44; (with_reducible refine (spec_RowFault.calls k1 _ _ ((rd_T42 l0 x3_1).f0) t138 _ ?side1 ?side2 A5.out).mono ?_); (case side1 => exact b4_2); (case side2 => exact HC137_0.out); rintro e w' ⟨rfl, ⟨nd, rfl⟩⟩; (try exact b4_0)))
       repeat (go_quiet (first | (go_at_call 44; (with_reducible refine (spec_RowFault.calls k1 _ _ ((rd_T42 l0 x3_1).f0) t138 _ ?side1 ?side2 A5.out).mono ?_); (case side1 => exact b4_2); (case side2 => exact HC137_0.out); rintro e w' ⟨rfl, ⟨nd, rfl⟩⟩; (try exact b4_0))); try go_wp2_with (first | (go_at_call 44; (with_reducible refine (spec_RowFault.calls k1 _ _ ((rd_T42 l0 x3_1).f0) t138 _ ?side1 ?side2 A5.out).mono ?_); (case side1 => exact b4_2); (case side2 => exact HC137_0.out); rintro e w' ⟨rfl, ⟨nd, rfl⟩⟩; (try exact b4_0))))
       go_ret
       exact ⟨cs_, cD_⟩
     ·rw [if_neg c4] at H
      exact absurd H (by simp)
    ·rw [if_neg c3] at H
     have c3b0 : decide (x3_1 < (l0.length : Int)) = false := decide_eq_false c3
     clear c3
     obtain rfl := Option.some.inj H
     go_wp2
     repeat (go_quiet (fail); try go_wp2)
     go_ret
     exact ⟨cs_, cD_⟩

/-! ### spec_l2Row: function 101 -/
def spec_l2Row.f (l0 : List Int) : Option (List Int) := (some (([] : List Int) : List Int)).bind fun y145 => (if y145.length + l0.length < 17592186044416 then (some (y145 ++ l0)) else (none))
set_option maxHeartbeats 8000000 in
set_option maxRecDepth 100000 in
theorem spec_l2Row.calls (A0 : Option Addr) (c0 : Nat) (l0 : List Int) (r : List Int) (w : World) (hr0 : Kd.C (Kd.int .i64) w A0 l0.length l0) (hc0 : l0.length ≤ c0) (h : spec_l2Row.f l0 = some r) :
  Calls Try.prog 101 #[.slice A0 l0.length c0] w fun e w' => ∃ v0_ : Value, e = .returned (v0_) ∧ Kd.R (Kd.int .i64) 2 w' w.heap.size (fun _ => True) v0_ r ∧ Below w.heap.size w w' := by
 have HR0 := Aside0.mk hr0
 have HC0 := Aside0.mk hc0
 clear hr0 hc0
 have HB := Aside0.mk (Below.refl w.heap.size w)
 have H : ((some (([] : List Int) : List Int)).bind fun y145 => (if y145.length + l0.length < 17592186044416 then (some (y145 ++ l0)) else (none))) = some r := h
 clear h
 obtain ⟨y145, hy_⟩ : ∃ y_ : List Int, y_ = (([] : List Int)) := ⟨_, rfl⟩
 replace H : (if y145.length + l0.length < 17592186044416 then (some (y145 ++ l0)) else (none)) = some r := yb_
 have Ny145 := Aside0.mk hy_
 clear hy_
 by_cases c2 : y145.length + l0.length < 17592186044416
 ·rw [if_pos c2] at H
  have LMc2 := Aside0.mk c2
  clear c2
  obtain ⟨y148, hy_⟩ : ∃ y_ : List Int, y_ = (y145 ++ l0) := ⟨_, rfl⟩
  replace H : (some y148) = some r := yb_
  have Ny148 := Aside0.mk hy_
  clear hy_
  obtain rfl := Option.some.inj H
  go_enter Try.func101, Try.ntmps101
  go_wp2_with (first | ((with_reducible refine gate_dst (N := 3) rfl ?_); refine Kd.R_lit (Kd.int .i64) _ 2 ?hg (N := 3) ?hd (xs := ([] : List Int)) (inner := []) (ok := fun _ => True) (okp := fun _ => True) ?hr ?hp (fun _ hk => hk) trivial (Below.refl _ _) (Nat.le_refl _) (by simp) ?_; (case hd => rfl); (case hg => rfl); (case hr => first | (go_simp; done) | (go_simp; rfl)); (case hp => exact (Reps.none _ _)); intro v146 w3 ho4 hb hg_ hnew_; clear hg_ hnew_; (first | rw [← Ny145.out] at ho4 | (simp only [Int.reduceToNat] at ho4; rw [← Ny145.out] at ho4)); have HO147 := Aside0.mk (Kd.R_lower ho4 (below_size cB0_)); replace HB := Aside0.mk (below_step cB0_ hb); clear hb ho4) | ((with_reducible refine gate_builtin (b := .append) (xs := #[.tmp 3, .tmp 4]) rfl ?_); at_builtin; refine Kd.R_append_rows (Kd.int .i64) (w0 := w) w.heap.size rfl (.tmp 3) (.tmp 4) 40 2 (.int .i64 0) 8 rfl Try.underlying40 info2 rfl (by decide) (by omega) v146 y145 l0 _ _ _ (fun _ => True) (fun _ => False) rfl rfl ?aO ?aR (fun _ _ h => h) (fun _ h => h.elim) ?aF ?aB ?aS ?aL ?_; (case aR => exact cC_ (Kd.C_below HR0.out HB.out)); (case aB => exact (by exact cB0_)); (case aF => exact (fun _ _ => trivial)); (case aO => exact (by exact cR_ HO147.out)); (case aS => exact (by exact (below_size cB0_))); (case aL => exact co_ LMc2.out); intro v149 w5 ho hb hg hat; rw [← Ny148.out] at ho; replace HB := Aside0.mk (hb); have HO150 := Aside0.mk (ho); clear HO147; clear ho hb hg hat))
  go_ret
  exact ⟨_, ce_, cR_ HO150.out, cB0_⟩
 ·rw [if_neg c2] at H
  exact absurd H (by simp)

end Go.Proofs.Ythgmicingbjemaa.PFnGroups
