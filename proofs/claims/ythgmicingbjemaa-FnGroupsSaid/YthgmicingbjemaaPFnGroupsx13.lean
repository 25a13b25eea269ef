-- Written by fprint, a program of this session, out of Lean's own print of the translation. Lean checks it.
import Derived.Test.YthgmicingbjemaaPile
import Derived.Test.YthgmicingbjemaaDense
import Derived.Test.YthgmicingbjemaaShort
import Derived.Test.YthgmicingbjemaaPFnGroupsx0
import Derived.Test.YthgmicingbjemaaPFnGroupsx1
import Derived.Test.YthgmicingbjemaaPFnGroupsx2
import Derived.Test.YthgmicingbjemaaPFnGroupsx3
import Derived.Test.YthgmicingbjemaaPFnGroupsx6
import Derived.Test.YthgmicingbjemaaPFnGroupsx9
import Derived.Test.YthgmicingbjemaaPFnGroupsx10
import Derived.Test.YthgmicingbjemaaPFnGroupsx11
import Derived.Test.YthgmicingbjemaaPFnGroupsx12
namespace Go.Proofs.Ythgmicingbjemaa.PFnGroups
open Go.RowKit Go.Proofs.YthgmicingbjemaaW.PrintWords Go.Proofs.YthgmicingbjemaaW.PrintLast Go.Proofs.YthgmicingbjemaaW.PrintMore
attribute [local go_sem] max2_int min2_int max_two min_two max_three min_three max_four min_four   -- for this text's walks alone
set_option linter.unusedVariables false
set_option linter.unusedSimpArgs false

theorem tl0 {p : Prop} (h : p := by intro w' s_; obtain ⟨s0, s1, -, -⟩ := cells2 s_.out.at0; obtain ⟨s2, s3, -, -⟩ := cells2 s_.out.at3; obtain ⟨s4, s5, -, -⟩ := cells2 s_.out.at5; obtain ⟨s6, s7, -, -⟩ := cells2 s_.out.at7; obtain ⟨s8, s9, -, -⟩ := cells2 s_.out.at9; go_simp; with_reducible rfl) : p := h
theorem tl1 {p : Prop} (h : p := by intro w' s_; obtain ⟨s0, s1, -, -⟩ := cells2 s_.out.at0; obtain ⟨s2, s3, -, -⟩ := cells2 s_.out.at3; obtain ⟨s4, s5, -, -⟩ := cells2 s_.out.at5; obtain ⟨s6, s7, -, -⟩ := cells2 s_.out.at7; obtain ⟨s8, s9, -, -⟩ := cells2 s_.out.at9; obtain ⟨s10, s11, -, -⟩ := s_.out.at11.2; go_simp; with_reducible rfl) : p := h
/-- The first element's cells and row, as long as nobody writes there. -/
theorem elem0 {W : World} {lo n c : Nat} {ok : Nat → Prop} {A : Option Addr} {xs : List (S42)} (ho : Kd.N k42 42 W n ok (.slice A xs.length c) xs) (hok : ∀ k, ok k → lo ≤ k) (q : 0 < (xs.length : Int)) :
  ∃ ad A0 c0, A = some ad ∧ Held W lo W.heap.size (fun W => W.cell? ad = some (.slice A0 (rd_T42 xs 0).f0.length c0) ∧ W.cell? ⟨ad.block, ad.off + 1, none⟩ = some (.int .i64 (rd_T42 xs 0).f1) ∧ (Kd.int .i64).C W A0 (rd_T42 xs 0).f0.length (rd_T42 xs 0).f0 ∧ (rd_T42 xs 0).f0.length ≤ c0) := by
 have hH := Held.rowN ho hok
 have get : ∀ W3 : World, Kd.C k42 W3 A xs.length xs → ∃ ad A0 c0, A = some ad ∧ W3.cell? ad = some (.slice A0 (rd_T42 xs 0).f0.length c0) ∧ W3.cell? ⟨ad.block, ad.off + 1, none⟩ = some (.int .i64 (rd_T42 xs 0).f1) ∧ (rd_T42 xs 0).f0.length ≤ c0 ∧ (Kd.int .i64).C W3 A0 (rd_T42 xs 0).f0.length (rd_T42 xs 0).f0 := by
  intro W3 h
  obtain ⟨ad, A0, c0, h1, h2, h3, h4, h5⟩ := at_T42 h 0 (by omega) q
  rw [show (0 : Int).toNat = 0 from rfl, show 0 * 2 = 0 from rfl, Addr.add_zero'] at h2 h3
  exact ⟨ad, A0, c0, h1, h2, h3, h4, h5⟩
 obtain ⟨ad, A0, c0, rfl, h2, h3, h4, h5⟩ := get W hH.now.1
 refine ⟨ad, A0, c0, rfl, Nat.le_refl _, fun W3 hs hk => ?_⟩
 obtain ⟨ad', A0', c0', e, g2, g3, g4, g5⟩ := get W3 (hH.2 W3 hs hk).1
 cases e
 have hc : W3.cell? ad = W.cell? ad := World.cell?_of_block (hk _ (hok _ (ho.1 _ rfl)) (World.block_lt_of_cell? _ _ h2))
 rw [hc, h2] at g2
 cases g2
 exact ⟨hc.trans h2, g3, g5, g4⟩
theorem tl2 {p : Prop} (h : p := by intro w' s_; obtain ⟨s0, s1, -, -⟩ := cells2 s_.out.at0; obtain ⟨s2, s3, -, -⟩ := cells2 s_.out.at2; go_simp; with_reducible rfl) : p := h
/-! ### laws_FnGroups: function 8 -/
def laws_FnGroups.f (k : Nat) (l0 : List Int) : Option (Bool) := (laws_lwBig.f l0).bind fun t373 => (if t373 = true then (some true) else ((spec_DrawAddSets.f k l0).bind fun bt374 => ((impl_AddSets.f k bt374.1 bt374.2).bind fun bt380 => ((impl_AddSets.f k bt374.2 bt374.1).bind fun bt385 => (if bt380.1 = 0 then ((impl_NegateSet.f k bt374.2).bind fun bt394 => ((impl_AddSets.f k bt380.2 bt394.2).bind fun bt399 => ((impl_NegateSet.f k bt374.1).bind fun bt404 => ((impl_AddSets.f k bt374.1 bt404.2).bind fun bt408 => ((impl_SetFault.f k bt380.2).bind fun t413 => (if t413 = 0 then ((impl_SameSets.f k bt380.2 bt385.2).bind fun t414 => (if t414 = true then (if bt394.1 = 0 then (if bt399.1 = 0 then ((impl_SameSets.f k bt399.2 bt374.1).bind fun t415 => (if t415 = true then (if bt408.1 = 0 then (if (bt408.2.length : Int) = 0 then ((impl_TotalWeight.f k bt380.2).bind fun bt416 => ((impl_TotalWeight.f k bt374.1).bind fun bt418 => ((impl_TotalWeight.f k bt374.2).bind fun bt420 => (if bt416.2 = (wrap64 (bt418.2 + bt420.2)) then (if (bt374.1.length : Int) = 0 then (some true) else (if 0 < (bt374.1.length : Int) then ((impl_WeightOf.f k bt374.1 ((rd_T42 bt374.1 0).f0)).bind fun bt423 => (some (bt423.2 == ((rd_T42 bt374.1 0).f1)))) else (none))) else (some false))))) else (some false)) else (some false)) else (some false))) else (some false)) else (some false)) else (some false))) else (some false))))))) else ((spec_AddSets.f k bt374.1 bt374.2).bind fun bt390 => (if bt390.1 = bt380.1 then (some (bt385.1 != 0)) else (some false))))))))
theorem laws_FnGroups.mono : ∀ a0 k, LeO (laws_FnGroups.f k a0) (laws_FnGroups.f (k + 1) a0) := by
 intro a0 k
 unfold laws_FnGroups.f
 repeat' first
   | (with_reducible exact impl_AddSets.mono _ _ _)
   | (with_reducible exact impl_NegateSet.mono _ _)
   | (with_reducible exact impl_SameSets.mono _ _ _)
   | (with_reducible exact impl_SetFault.mono _ _)
   | (with_reducible exact impl_TotalWeight.mono _ _)
   | (with_reducible exact impl_WeightOf.mono _ _ _)
   | (with_reducible exact spec_AddSets.mono _ _ _)
   | (with_reducible exact spec_DrawAddSets.mono _ _)
   | (with_reducible exact LeO.refl _)
   | (with_reducible exact LeO.none _)
   | (with_reducible refine LeO.ite ?_ ?_)
   | (with_reducible refine LeO.bind ?_ (fun _ => ?_))
   | exact impl_AddSets.mono _ _ _
   | exact impl_NegateSet.mono _ _
   | exact impl_SameSets.mono _ _ _
   | exact impl_SetFault.mono _ _
   | exact impl_TotalWeight.mono _ _
   | exact impl_WeightOf.mono _ _ _
   | exact spec_AddSets.mono _ _ _
   | exact spec_DrawAddSets.mono _ _
   | exact LeO.none _
   | refine LeO.ite ?_ ?_
   | refine LeO.bind ?_ (fun _ => ?_)
def laws_FnGroups.T7 : Bool × List (List Nat × List Nat) := (true, [([], []), ([], []), ([0, 1], [0, 1]), ([2], [2]), ([], []), ([4], [4]), ([3, 5], [3, 5]), ([6, 2], [6]), ([7], [7]), ([8, 7], [7, 8]), ([9, 7], [7, 9]), ([7, 10], [7, 10]), ([11, 7, 0, 1, 2, 3, 4, 5, 6, 7, 8, 9, 10, 11], [11])])
def laws_FnGroups.B7 : List Nat := [0, 0, 3, 7, 0, 16, 63, 127, 255, 511, 1023, 2047, 4095]
theorem laws_FnGroups.tab7 : rtab .any (opsOf Try.f8 7) = laws_FnGroups.T7 := by kernel_rfl
theorem laws_FnGroups.bits7 : waitsOk laws_FnGroups.T7.2 laws_FnGroups.B7 = true := by kernel_rfl
def laws_FnGroups.T11 : Bool × List (List Nat × List Nat) := (true, [([], []), ([0], [0]), ([1], [1]), ([2], [2]), ([3, 2], [3]), ([4], [4]), ([5, 4], [4, 5]), ([4], [4]), ([7, 4], [4, 7]), ([6, 8, 4, 4], [4, 6, 8]), ([4, 9], [4, 9]), ([10, 9], [10]), ([11], [11]), ([12, 11], [11, 12]), ([13, 11], [11, 13]), ([11, 14], [11, 14]), ([15, 11], [15]), ([16], [16]), ([17, 16], [16, 17]), ([18, 16], [16, 18]), ([16, 19], [16, 19]), ([20, 16], [20]), ([21], [21]), ([22, 21], [21, 22]), ([21], [21]), ([23, 24, 21, 21], [21, 23, 24]), ([21, 25], [21, 25]), ([26, 25], [26]), ([27], [27]), ([28, 27], [27, 28]), ([29, 27], [27, 29]), ([27, 30], [27, 30]), ([31, 27], [31]), ([32], [32]), ([33, 32], [32, 33]), ([34, 32], [32, 34]), ([35, 32], [32, 35]), ([32, 36], [32, 36]), ([37, 32], [37]), ([38], [38]), ([39, 38], [38, 39]), ([40, 38, 38], [38, 40]), ([41, 38], [38, 41]), ([38], [38]), ([43, 41, 38], [38, 43]), ([44, 38], [38, 44]), ([38], [38]), ([46, 44, 38], [38, 46]), ([47, 38], [38, 47]), ([45, 48, 38], [38, 45, 48]), ([42, 49, 38], [38, 42, 49]), ([38, 50], [38, 50]), ([51, 47], [51]), ([52], [52]), ([53, 52], [52, 53]), ([54, 52], [52, 54]), ([55, 52, 52], [52, 55]), ([56], [56]), ([56], [56]), ([58, 56], [56, 58]), ([59, 56], [56, 59]), ([60, 56], [56, 60]), ([57, 61, 56, 56], [56, 57, 61]), ([62, 56], [56, 62]), ([56], [56]), ([64, 56], [56, 64]), ([65, 56], [56, 65]), ([66, 56], [56, 66]), ([63, 67, 56], [56, 63, 67]), ([56, 68, 52], [52, 56, 68]), ([52, 69], [52, 69]), ([70, 62, 0, 1, 2, 3, 4, 5, 6, 7, 8, 9, 10, 11, 12, 13, 14, 15, 16, 17, 18, 19, 20, 21, 22, 23, 24, 25, 26, 27, 28, 29, 30, 31, 32, 33, 34, 35, 36, 37, 38, 39, 40, 41, 42, 43, 44, 45, 46, 47, 48, 49, 50, 51, 52, 53, 54, 55, 56, 57, 58, 59, 60, 61, 62, 63, 64, 65, 66, 67, 68, 69, 70], [70])])
def laws_FnGroups.B11 : List Nat := [0, 1, 3, 7, 15, 31, 63, 31, 159, 511, 1023, 2047, 4095, 8191, 16383, 32767, 65535, 131071, 262143, 524287, 1048575, 2097151, 4194303, 8388607, 4194303, 33554431, 67108863, 134217727, 268435455, 536870911, 1073741823, 2147483647, 4294967295, 8589934591, 17179869183, 34359738367, 68719476735, 137438953471, 274877906943, 549755813887, 1099511627775, 2199023255551, 4398046511103, 549755813887, 13194139533311, 30786325577727, 549755813887, 101155069755391, 241892558110719, 558551906910207, 1125899906842623, 2251799813685247, 4503599627370495, 9007199254740991, 18014398509481983, 36028797018963967, 72057594037927935, 144115188075855871, 144115188075855871, 432345564227567615, 1008806316530991103, 2161727821137838079, 4611686018427387903, 9223372036854775807, 144115188075855871, 18590859261785407487, 55484347409204510719, 129271323704042717183, 295147905179352825855, 590295810358705651711, 1180591620717411303423, 2361183241434822606847]
theorem laws_FnGroups.tab11 : rtab .any (opsOf Try.f8 11) = laws_FnGroups.T11 := by kernel_rfl
theorem laws_FnGroups.bits11 : waitsOk laws_FnGroups.T11.2 laws_FnGroups.B11 = true := by kernel_rfl
set_option maxHeartbeats 8000000 in
set_option maxRecDepth 100000 in
theorem laws_FnGroups.calls (k : Nat) (A0 : Option Addr) (c0 : Nat) (l0 : List Int) (r : Bool) (w : World) (hr0 : Kd.C (Kd.int .u8) w A0 l0.length l0) (hc0 : l0.length ≤ c0) (h : laws_FnGroups.f k l0 = some r) (hr_ : r = true) :
  Calls Try.prog 8 #[.slice A0 l0.length c0] w fun e w' => e = .returned (.bool r) ∧ Below w.heap.size w w' := by
 have HRT_ := Aside0.mk hr_
 clear hr_
 have hfd26_0 : ∀ (x0_ x1_ : Value) (w_ : World), Sem.run Try.prog (Instr.field 26 (.agg #[x0_, x1_]) 0) w_ = .ok x0_ w_ := fun _ _ _ => by kernel_rfl
 have hfd26_1 : ∀ (x0_ x1_ : Value) (w_ : World), Sem.run Try.prog (Instr.field 26 (.agg #[x0_, x1_]) 1) w_ = .ok x1_ w_ := fun _ _ _ => by kernel_rfl
 have hfd55_1 : ∀ (x0_ x1_ : Value) (w_ : World), Sem.run Try.prog (Instr.field 55 (.agg #[x0_, x1_]) 1) w_ = .ok x1_ w_ := fun _ _ _ => by kernel_rfl
 have hu26 := Try.underlying26
 have HR0 := Aside0.mk hr0
 have HC0 := Aside0.mk hc0
 clear hr0 hc0
 have HP := Aside0.mk (Pl.start w)
 have H : ((laws_lwBig.f l0).bind fun t373 => (if t373 = true then (some true) else ((spec_DrawAddSets.f k l0).bind fun bt374 => ((impl_AddSets.f k bt374.1 bt374.2).bind fun bt380 => ((impl_AddSets.f k bt374.2 bt374.1).bind fun bt385 => (if bt380.1 = 0 then ((impl_NegateSet.f k bt374.2).bind fun bt394 => ((impl_AddSets.f k bt380.2 bt394.2).bind fun bt399 => ((impl_NegateSet.f k bt374.1).bind fun bt404 => ((impl_AddSets.f k bt374.1 bt404.2).bind fun bt408 => ((impl_SetFault.f k bt380.2).bind fun t413 => (if t413 = 0 then ((impl_SameSets.f k bt380.2 bt385.2).bind fun t414 => (if t414 = true then (if bt394.1 = 0 then (if bt399.1 = 0 then ((impl_SameSets.f k bt399.2 bt374.1).bind fun t415 => (if t415 = true then (if bt408.1 = 0 then (if (bt408.2.length : Int) = 0 then ((impl_TotalWeight.f k bt380.2).bind fun bt416 => ((impl_TotalWeight.f k bt374.1).bind fun bt418 => ((impl_TotalWeight.f k bt374.2).bind fun bt420 => (if bt416.2 = (wrap64 (bt418.2 + bt420.2)) then (if (bt374.1.length : Int) = 0 then (some true) else (if 0 < (bt374.1.length : Int) then ((impl_WeightOf.f k bt374.1 ((rd_T42 bt374.1 0).f0)).bind fun bt423 => (some (bt423.2 == ((rd_T42 bt374.1 0).f1)))) else (none))) else (some false))))) else (some false)) else (some false)) else (some false))) else (some false)) else (some false)) else (some false))) else (some false))))))) else ((spec_AddSets.f k bt374.1 bt374.2).bind fun bt390 => (if bt390.1 = bt380.1 then (some (bt385.1 != 0)) else (some false))))))))) = some r := h
 clear h
 obtain ⟨t373, A2, H⟩ := bnd_ H
 try dsimp only at H
 by_cases c3 : t373 = true
 ·subst c3
  rw [if_pos rfl] at H
  obtain rfl := Option.some.inj H
  go_enter Try.func8, Try.ntmps8
  go_wp2_with (first | (refine gl_ 22 (some 11) Try.func22 #[.slice A0 l0.length c0] ?_; (with_reducible refine (laws_lwBig.calls _ _ l0 true _ (Kd.C_below HR0.out HP.out.below) HC0.out A2.out).mono ?_); rintro e wd1 ⟨rfl, hd⟩; refine ⟨_, rfl, ?_⟩; have n_ := Aside0.mk (HP.out.call hd.below); clear HP hd; have HP := n_; clear n_))
  go_ret
  exact ⟨ce_, HP.out.below⟩
 ·replace c3 := Bool.eq_false_iff.mpr c3
  subst c3
  rw [if_neg (show ¬ (false = true) by decide)] at H
  obtain ⟨⟨t374, t377⟩, A4, H⟩ := bnd_ H
  try dsimp only at H
  obtain ⟨⟨t380, t381⟩, A5, H⟩ := bnd_ H
  try dsimp only at H
  obtain ⟨⟨t385, t386⟩, A6, H⟩ := bnd_ H
  try dsimp only at H
  by_cases c7 : t380 = 0
  ·rw [if_pos c7] at H
   have c7b0 : (t380 == 0) = true := beq_iff_eq.mpr c7
   have c7b1 : (t380 != 0) = false := bne_eq_false_iff_eq.mpr c7
   clear c7
   obtain ⟨⟨t394, t395⟩, A8, H⟩ := bnd_ H
   try dsimp only at H
   obtain ⟨⟨t399, t400⟩, A9, H⟩ := bnd_ H
   try dsimp only at H
   obtain ⟨⟨t404, t405⟩, A10, H⟩ := bnd_ H
   try dsimp only at H
   obtain ⟨⟨t408, t409⟩, A11, H⟩ := bnd_ H
   try dsimp only at H
   obtain ⟨t413, A12, H⟩ := bnd_ H
   try dsimp only at H
   by_cases c13 : t413 = 0
   ·rw [if_pos c13] at H
    have c13b0 : (t413 == 0) = true := beq_iff_eq.mpr c13
    have c13b1 : (t413 != 0) = false := bne_eq_false_iff_eq.mpr c13
    clear c13
    obtain ⟨t414, A14, H⟩ := bnd_ H
    try dsimp only at H
    by_cases c15 : t414 = true
    ·subst c15
     rw [if_pos rfl] at H
     by_cases c16 : t394 = 0
     ·rw [if_pos c16] at H
      have c16b0 : (t394 == 0) = true := beq_iff_eq.mpr c16
      have c16b1 : (t394 != 0) = false := bne_eq_false_iff_eq.mpr c16
      clear c16
      by_cases c17 : t399 = 0
      ·rw [if_pos c17] at H
       have c17b0 : (t399 == 0) = true := beq_iff_eq.mpr c17
       have c17b1 : (t399 != 0) = false := bne_eq_false_iff_eq.mpr c17
       clear c17
       obtain ⟨t415, A18, H⟩ := bnd_ H
       try dsimp only at H
       by_cases c19 : t415 = true
       ·subst c19
        rw [if_pos rfl] at H
        by_cases c20 : t408 = 0
        ·rw [if_pos c20] at H
         have c20b0 : (t408 == 0) = true := beq_iff_eq.mpr c20
         have c20b1 : (t408 != 0) = false := bne_eq_false_iff_eq.mpr c20
         clear c20
         by_cases c21 : (t409.length : Int) = 0
         ·rw [if_pos c21] at H
          have c21b0 : ((t409.length : Int) == 0) = true := beq_iff_eq.mpr c21
          have c21b1 : ((t409.length : Int) != 0) = false := bne_eq_false_iff_eq.mpr c21
          clear c21
          obtain ⟨⟨t416, t417⟩, A22, H⟩ := bnd_ H
          try dsimp only at H
          obtain ⟨⟨t418, t419⟩, A23, H⟩ := bnd_ H
          try dsimp only at H
          obtain ⟨⟨t420, t421⟩, A24, H⟩ := bnd_ H
          try dsimp only at H
          by_cases c25 : t417 = (wrap64 (t419 + t421))
          ·rw [if_pos c25] at H
           have c25b0 : (t417 == (wrap64 (t419 + t421))) = true := beq_iff_eq.mpr c25
           have c25b1 : (t417 != (wrap64 (t419 + t421))) = false := bne_eq_false_iff_eq.mpr c25
           clear c25
           by_cases c26 : (t374.length : Int) = 0
           ·rw [if_pos c26] at H
            have c26b0 : ((t374.length : Int) == 0) = true := beq_iff_eq.mpr c26
            have c26b1 : ((t374.length : Int) != 0) = false := bne_eq_false_iff_eq.mpr c26
            clear c26
            obtain rfl := Option.some.inj H
            go_enter Try.func8, Try.ntmps8
            try go_wp2_with (first | (refine gl_ 22 (some 11) Try.func22 #[.slice A0 l0.length c0] ?_; (with_reducible refine (laws_lwBig.calls _ _ l0 false _ (Kd.C_below HR0.out HP.out.below) HC0.out A2.out).mono ?_); rintro e wd1 ⟨rfl, hd⟩; refine ⟨_, rfl, ?_⟩; have n_ := Aside0.mk (HP.out.call hd.below); clear HP hd; have HP := n_; clear n_) | (refine gl_ 35 (some 14) Try.func35 #[.slice A0 l0.length c0] ?_; (with_reducible refine (spec_DrawAddSets.calls k _ _ l0 t374 t377 _ (Kd.C_below HR0.out HP.out.below) HC0.out A4.out).mono ?_); rintro e w27 ⟨v375, v378, rfl, ho0, ho1, hb⟩; refine ⟨_, rfl, ?_⟩; obtain ⟨Ao28, co28, eo_⟩ := Kd.N_slice ho0; subst eo_; obtain ⟨Ao29, co29, eo_⟩ := Kd.N_slice ho1; subst eo_; have n_ := Aside0.mk (HP.out.newNN hb ho0 ho1 (fun _ hk => hk.1) (fun _ hk => hk.1)); clear HP hb ho0 ho1; have HP := n_; clear n_) | (refine gl_ 34 (some 19) Try.func34 #[.slice Ao28 t374.length co28, .slice Ao29 t377.length co29] ?_; (with_reducible refine (impl_AddSets.calls k _ _ t374 _ _ t377 t380 t381 _ HP.out.at0.1.1 HP.out.at0.1.2 HP.out.at0.2.1 HP.out.at0.2.2 A5.out).mono ?_); rintro e w30 ⟨v382, rfl, ho0, hb⟩; refine ⟨_, rfl, ?_⟩; obtain ⟨Ao33, co33, eo_⟩ := Kd.S_slice ho0; subst eo_; have n_ := Aside0.mk (HP.out.newS hb ho0); clear HP hb ho0; have HP := n_; clear n_) | ((with_reducible refine gate_dst (N := 5) rfl ?_); (try (refine gate_guard (by rfl) ?_; dsimp only)); refine box_event ?hg (N := 5) ?hd (cs := #[.int .i64 0, .slice none 0 0]) (t := 26) ?hr ?_; (case hd => rfl); (case hg => rfl); (case hr => first | (go_simp; done) | (go_simp; rfl)); intro gb384 hg w31 hbox hb; have HX := Aside0.mk (And.intro hg (And.intro hbox hb)); obtain ⟨hcz32_0, hcz32_1, hfz32_0, hfz32_1⟩ := cells2 hbox; clear hb hbox hg) | (refine gl_ 34 (some 22) Try.func34 #[.slice Ao29 t377.length co29, .slice Ao28 t374.length co28] ?_; refine (HP.out.box2 HX.out).atCall ?_; intro wb5 hp_; clear HP HX; have HP := Aside0.mk hp_; clear hp_; (with_reducible refine (impl_AddSets.calls k _ _ t377 _ _ t374 t385 t386 _ HP.out.at2.2.1 HP.out.at2.2.2 HP.out.at2.1.1 HP.out.at2.1.2 A6.out).mono ?_); rintro e w34 ⟨v387, rfl, ho0, hb⟩; refine ⟨_, rfl, ?_⟩; obtain ⟨Ao38, co38, eo_⟩ := Kd.S_slice ho0; subst eo_; have n_ := Aside0.mk (HP.out.newS hb ho0); clear HP hb ho0; have HP := n_; clear n_) | ((with_reducible refine gate_dst (N := 6) rfl ?_); (try (refine gate_guard (by rfl) ?_; dsimp only)); refine box_event ?hg (N := 6) ?hd (cs := #[.int .i64 0, .slice none 0 0]) (t := 26) ?hr ?_; (case hd => rfl); (case hg => rfl); (case hr => first | (go_simp; done) | (go_simp; rfl)); intro gb389 hg w35 hbox hb; have HX := Aside0.mk (And.intro hg (And.intro hbox hb)); have hnb36 := (Pl.ne hg HP.out.at1).2; have hnc36 := (Pl.ne hg HP.out.at1).1; obtain ⟨hcz37_0, hcz37_1, hfz37_0, hfz37_1⟩ := cells2 hbox; obtain ⟨hcz39_0, hcz39_1, hfz39_0, hfz39_1⟩ := cells2 (HP.out.call hb).at1; clear hb hbox hg) | (refine gl_ 36 (some 39) Try.func36 #[.slice Ao29 t377.length co29] ?_; refine (HP.out.box2 HX.out).atCall ?_; intro wb7 hp_; clear HP HX; have HP := Aside0.mk hp_; clear hp_; (with_reducible refine (impl_NegateSet.calls k _ _ t377 t394 t395 _ HP.out.at4.2.1 HP.out.at4.2.2 A8.out).mono ?_); rintro e w40 ⟨v396, rfl, ho0, hb⟩; refine ⟨_, rfl, ?_⟩; obtain ⟨Ao45, co45, eo_⟩ := Kd.S_slice ho0; subst eo_; have n_ := Aside0.mk (HP.out.newS hb ho0); clear HP hb ho0; have HP := n_; clear n_) | ((with_reducible refine gate_dst (N := 7) rfl ?_); (try (refine gate_guard (by rfl) ?_; dsimp only)); refine box_event ?hg (N := 7) ?hd (cs := #[.int .i64 0, .slice none 0 0]) (t := 26) ?hr ?_; (case hd => rfl); (case hg => rfl); (case hr => first | (go_simp; done) | (go_simp; rfl)); intro gb398 hg w41 hbox hb; have HX := Aside0.mk (And.intro hg (And.intro hbox hb)); have hnb42 := (Pl.ne hg HP.out.at3).2; have hnc42 := (Pl.ne hg HP.out.at3).1; have hnb43 := (Pl.ne hg HP.out.at1).2; have hnc43 := (Pl.ne hg HP.out.at1).1; obtain ⟨hcz44_0, hcz44_1, hfz44_0, hfz44_1⟩ := cells2 hbox; obtain ⟨hcz46_0, hcz46_1, hfz46_0, hfz46_1⟩ := cells2 (HP.out.call hb).at3; clear hb hbox hg) | (refine gl_ 34 (some 44) Try.func34 #[.slice Ao33 t381.length co33, .slice Ao45 t395.length co45] ?_; refine (HP.out.box2 HX.out).atCall ?_; intro wb9 hp_; clear HP HX; have HP := Aside0.mk hp_; clear hp_; (with_reducible refine (impl_AddSets.calls k _ _ t381 _ _ t395 t399 t400 _ HP.out.at5.1 HP.out.at5.2 HP.out.at1.1 HP.out.at1.2 A9.out).mono ?_); rintro e w47 ⟨v401, rfl, ho0, hb⟩; refine ⟨_, rfl, ?_⟩; obtain ⟨Ao53, co53, eo_⟩ := Kd.S_slice ho0; subst eo_; have n_ := Aside0.mk (HP.out.newS hb ho0); clear HP hb ho0; have HP := n_; clear n_) | ((with_reducible refine gate_dst (N := 8) rfl ?_); (try (refine gate_guard (by rfl) ?_; dsimp only)); refine box_event ?hg (N := 8) ?hd (cs := #[.int .i64 0, .slice none 0 0]) (t := 26) ?hr ?_; (case hd => rfl); (case hg => rfl); (case hr => first | (go_simp; done) | (go_simp; rfl)); intro gb403 hg w48 hbox hb; have HX := Aside0.mk (And.intro hg (And.intro hbox hb)); have hnb49 := (Pl.ne hg HP.out.at5).2; have hnc49 := (Pl.ne hg HP.out.at5).1; have hnb50 := (Pl.ne hg HP.out.at3).2; have hnc50 := (Pl.ne hg HP.out.at3).1; have hnb51 := (Pl.ne hg HP.out.at1).2; have hnc51 := (Pl.ne hg HP.out.at1).1; obtain ⟨hcz52_0, hcz52_1, hfz52_0, hfz52_1⟩ := cells2 hbox; clear hb hbox hg) | (refine gl_ 36 (some 47) Try.func36 #[.slice Ao28 t374.length co28] ?_; refine (HP.out.box2 HX.out).atCall ?_; intro wb11 hp_; clear HP HX; have HP := Aside0.mk hp_; clear hp_; (with_reducible refine (impl_NegateSet.calls k _ _ t374 t404 t405 _ HP.out.at8.1.1 HP.out.at8.1.2 A10.out).mono ?_); rintro e w54 ⟨v406, rfl, ho0, hb⟩; refine ⟨_, rfl, ?_⟩; obtain ⟨Ao55, co55, eo_⟩ := Kd.S_slice ho0; subst eo_; have n_ := Aside0.mk (HP.out.newS hb ho0); clear HP hb ho0; have HP := n_; clear n_) | (refine gl_ 34 (some 49) Try.func34 #[.slice Ao28 t374.length co28, .slice Ao55 t405.length co55] ?_; (with_reducible refine (impl_AddSets.calls k _ _ t374 _ _ t405 t408 t409 _ HP.out.at9.1.1 HP.out.at9.1.2 HP.out.at0.1 HP.out.at0.2 A11.out).mono ?_); rintro e w56 ⟨v410, rfl, ho0, hb⟩; refine ⟨_, rfl, ?_⟩; obtain ⟨Ao63, co63, eo_⟩ := Kd.S_slice ho0; subst eo_; have n_ := Aside0.mk (HP.out.newS hb ho0); clear HP hb ho0; have HP := n_; clear n_) | ((with_reducible refine gate_dst (N := 9) rfl ?_); (try (refine gate_guard (by rfl) ?_; dsimp only)); refine box_event ?hg (N := 9) ?hd (cs := #[.int .i64 0, .slice none 0 0]) (t := 26) ?hr ?_; (case hd => rfl); (case hg => rfl); (case hr => first | (go_simp; done) | (go_simp; rfl)); intro gb412 hg w57 hbox hb; have HX := Aside0.mk (And.intro hg (And.intro hbox hb)); have hnb58 := (Pl.ne hg HP.out.at8).2; have hnc58 := (Pl.ne hg HP.out.at8).1; have hnb59 := (Pl.ne hg HP.out.at6).2; have hnc59 := (Pl.ne hg HP.out.at6).1; have hnb60 := (Pl.ne hg HP.out.at4).2; have hnc60 := (Pl.ne hg HP.out.at4).1; have hnb61 := (Pl.ne hg HP.out.at2).2; have hnc61 := (Pl.ne hg HP.out.at2).1; obtain ⟨hcz62_0, hcz62_1, hfz62_0, hfz62_1⟩ := cells2 hbox; clear hb hbox hg))
            refine (HP.out.box2 HX.out).atRegion ?_
            intro wr258 hp_
            clear HP HX
            have HP := Aside0.mk hp_
            clear hp_
            refine start_ (n := 72) (S := fun w' => Aside0 (Pl w w' _)) (ds := []) (bl 72 0) (by kernel_rfl) rfl rfl ⟨HP.out.drew⟩ (fun hp_ => ?_); refine with_tabW laws_FnGroups.tab11 laws_FnGroups.bits11 (fun HT_ HW_ => ?_)
            clear HP
            generalize wr258.drew = wr258d at hp_ ⊢
            have HP := hp_
            clear hp_
            refine pu_ 0 (some 50) (bl 72 1) HT_.out rfl ?_
            refine tw_ 1 (some 51) (bl 72 3) HT_.out HW_.out rfl HP tl0 ?_
            refine on_ 2 (some 52) (bl 72 7) HT_.out rfl (fun K hK => ?_)
            refine goes_ Try.func26 (by kernel_rfl) rfl #[.slice Ao33 t381.length co33] (by rfl) rfl rfl cx_ ?_
            with_reducible refine (impl_SetFault.calls k _ _ t381 t413 _ HP.out.at10.1 HP.out.at10.2 A12.out).mono ?_
            rintro e w66 ⟨rfl, hb⟩
            refine ⟨_, rfl, ?_⟩
            have n_ := Aside0.mk (HP.out.call hb)
            clear HP hb
            have HP := n_
            clear n_
            refine hK.out _ _ HP (fun hp_ => ?_)
            clear hK K HP
            have HP := hp_
            clear hp_
            refine nm_ (some 52) ?_
            refine pu_ 3 (some 53) (bl 72 15) HT_.out rfl ?_
            refine pu_ 4 (some 54) (bl 72 31) HT_.out rfl ?_
            refine pu_ 5 (some 55) (bl 72 63) HT_.out rfl ?_
            refine pu_ 7 (some 57) (bl 72 191) HT_.out rfl ?_
            refine tw_ 6 (some 56) (bl 72 255) HT_.out HW_.out rfl HP tl0 ?_
            refine tw_ 8 (some 58) (bl 72 511) HT_.out HW_.out rfl HP tl0 ?_
            refine on_ 9 (some 59) (bl 72 1023) HT_.out rfl (fun K hK => ?_)
            refine goes_ Try.func27 (by kernel_rfl) rfl #[.slice Ao33 t381.length co33, .slice Ao38 t386.length co38] (by rfl) rfl rfl cx_ ?_
            with_reducible refine (impl_SameSets.calls k _ _ t381 _ _ t386 true _ HP.out.at10.1 HP.out.at10.2 HP.out.at8.1 HP.out.at8.2 A14.out).mono ?_
            rintro e w67 ⟨rfl, hb⟩
            refine ⟨_, rfl, ?_⟩
            have n_ := Aside0.mk (HP.out.call hb)
            clear HP hb
            have HP := n_
            clear n_
            refine hK.out _ _ HP (fun hp_ => ?_)
            clear hK K HP
            have HP := hp_
            clear hp_
            refine nm_ (some 59) ?_
            refine pu_ 10 (some 60) (bl 72 2047) HT_.out rfl ?_
            refine pu_ 11 (some 61) (bl 72 4095) HT_.out rfl ?_
            refine pu_ 12 (some 62) (bl 72 8191) HT_.out rfl ?_
            refine tw_ 13 (some 63) (bl 72 16383) HT_.out HW_.out rfl HP tl0 ?_
            refine pu_ 14 (some 64) (bl 72 32767) HT_.out rfl ?_
            refine pu_ 15 (some 65) (bl 72 65535) HT_.out rfl ?_
            refine pu_ 16 (some 66) (bl 72 131071) HT_.out rfl ?_
            refine pu_ 17 (some 67) (bl 72 262143) HT_.out rfl ?_
            refine tw_ 18 (some 68) (bl 72 524287) HT_.out HW_.out rfl HP tl0 ?_
            refine pu_ 19 (some 69) (bl 72 1048575) HT_.out rfl ?_
            refine pu_ 20 (some 70) (bl 72 2097151) HT_.out rfl ?_
            refine pu_ 21 (some 71) (bl 72 4194303) HT_.out rfl ?_
            refine pu_ 22 (some 72) (bl 72 8388607) HT_.out rfl ?_
            refine pu_ 24 (some 74) (bl 72 25165823) HT_.out rfl ?_
            refine tw_ 23 (some 73) (bl 72 33554431) HT_.out HW_.out rfl HP tl0 ?_
            refine on_ 25 (some 75) (bl 72 67108863) HT_.out rfl (fun K hK => ?_)
            refine goes_ Try.func27 (by kernel_rfl) rfl #[.slice Ao53 t400.length co53, .slice Ao28 t374.length co28] (by rfl) rfl rfl cx_ ?_
            with_reducible refine (impl_SameSets.calls k _ _ t400 _ _ t374 true _ HP.out.at4.1 HP.out.at4.2 HP.out.at11.1.1 HP.out.at11.1.2 A18.out).mono ?_
            rintro e w68 ⟨rfl, hb⟩
            refine ⟨_, rfl, ?_⟩
            have n_ := Aside0.mk (HP.out.call hb)
            clear HP hb
            have HP := n_
            clear n_
            refine hK.out _ _ HP (fun hp_ => ?_)
            clear hK K HP
            have HP := hp_
            clear hp_
            refine nm_ (some 75) ?_
            refine pu_ 26 (some 76) (bl 72 134217727) HT_.out rfl ?_
            refine pu_ 27 (some 77) (bl 72 268435455) HT_.out rfl ?_
            refine pu_ 28 (some 78) (bl 72 536870911) HT_.out rfl ?_
            refine tw_ 29 (some 79) (bl 72 1073741823) HT_.out HW_.out rfl HP tl0 ?_
            refine pu_ 30 (some 80) (bl 72 2147483647) HT_.out rfl ?_
            refine pu_ 31 (some 81) (bl 72 4294967295) HT_.out rfl ?_
            refine pu_ 32 (some 82) (bl 72 8589934591) HT_.out rfl ?_
            refine pu_ 33 (some 83) (bl 72 17179869183) HT_.out rfl ?_
            refine tw_ 34 (some 84) (bl 72 34359738367) HT_.out HW_.out rfl HP tl0 ?_
            refine pu_ 35 (some 85) (bl 72 68719476735) HT_.out rfl ?_
            refine pu_ 36 (some 86) (bl 72 137438953471) HT_.out rfl ?_
            refine pu_ 37 (some 87) (bl 72 274877906943) HT_.out rfl ?_
            refine pu_ 38 (some 88) (bl 72 549755813887) HT_.out rfl ?_
            refine pu_ 39 (some 89) (bl 72 1099511627775) HT_.out rfl ?_
            refine pu_ 43 (some 93) (bl 72 9895604649983) HT_.out rfl ?_
            refine pu_ 46 (some 96) (bl 72 80264348827647) HT_.out rfl ?_
            refine tw_ 40 (some 90) (bl 72 81363860455423) HT_.out HW_.out rfl HP tl0 ?_
            refine on_ 41 (some 91) (bl 72 83562883710975) HT_.out rfl (fun K hK => ?_)
            refine goes_ Try.func37 (by kernel_rfl) rfl #[.slice Ao33 t381.length co33] (by rfl) rfl rfl cx_ ?_
            with_reducible refine (impl_TotalWeight.calls k _ _ t381 t416 t417 _ HP.out.at10.1 HP.out.at10.2 A22.out).mono ?_
            rintro e w69 ⟨rfl, hb⟩
            refine ⟨_, rfl, ?_⟩
            have n_ := Aside0.mk (HP.out.call hb)
            clear HP hb
            have HP := n_
            clear n_
            refine hK.out _ _ HP (fun hp_ => ?_)
            clear hK K HP
            have HP := hp_
            clear hp_
            refine nm_ (some 91) ?_
            refine pu_ 42 (some 92) (bl 72 87960930222079) HT_.out rfl ?_
            refine on_ 44 (some 94) (bl 72 105553116266495) HT_.out rfl (fun K hK => ?_)
            refine goes_ Try.func37 (by kernel_rfl) rfl #[.slice Ao28 t374.length co28] (by rfl) rfl rfl cx_ ?_
            with_reducible refine (impl_TotalWeight.calls k _ _ t374 t418 t419 _ HP.out.at11.1.1 HP.out.at11.1.2 A23.out).mono ?_
            rintro e w70 ⟨rfl, hb⟩
            refine ⟨_, rfl, ?_⟩
            have n_ := Aside0.mk (HP.out.call hb)
            clear HP hb
            have HP := n_
            clear n_
            refine hK.out _ _ HP (fun hp_ => ?_)
            clear hK K HP
            have HP := hp_
            clear hp_
            refine nm_ (some 94) ?_
            refine pu_ 45 (some 95) (bl 72 140737488355327) HT_.out rfl ?_
            refine on_ 47 (some 97) (bl 72 281474976710655) HT_.out rfl (fun K hK => ?_)
            refine goes_ Try.func37 (by kernel_rfl) rfl #[.slice Ao29 t377.length co29] (by rfl) rfl rfl cx_ ?_
            with_reducible refine (impl_TotalWeight.calls k _ _ t377 t420 t421 _ HP.out.at11.2.1 HP.out.at11.2.2 A24.out).mono ?_
            rintro e w71 ⟨rfl, hb⟩
            refine ⟨_, rfl, ?_⟩
            have n_ := Aside0.mk (HP.out.call hb)
            clear HP hb
            have HP := n_
            clear n_
            refine hK.out _ _ HP (fun hp_ => ?_)
            clear hK K HP
            have HP := hp_
            clear hp_
            refine nm_ (some 97) ?_
            refine pu_ 48 (some 98) (bl 72 562949953421311) HT_.out rfl ?_
            refine pu_ 49 (some 99) (bl 72 1125899906842623) HT_.out rfl ?_
            refine pu_ 50 (some 100) (bl 72 2251799813685247) HT_.out rfl ?_
            refine pu_ 51 (some 101) (bl 72 4503599627370495) HT_.out rfl ?_
            refine pu_ 52 (some 102) (bl 72 9007199254740991) HT_.out rfl ?_
            refine pu_ 53 (some 103) (bl 72 18014398509481983) HT_.out rfl ?_
            refine pu_ 54 (some 104) (bl 72 36028797018963967) HT_.out rfl ?_
            refine pu_ 55 (some 105) (bl 72 72057594037927935) HT_.out rfl ?_
            refine pu_ 56 (some 106) (bl 72 144115188075855871) HT_.out rfl ?_
            refine un_ 57 (some 107) (bl 72 288230376151711743) HT_.out rfl ?_
            refine un_ 58 (some 108) (bl 72 576460752303423487) HT_.out rfl ?_
            refine un_ 59 (some 109) (bl 72 1152921504606846975) HT_.out rfl ?_
            refine un_ 60 (some 110) (bl 72 2305843009213693951) HT_.out rfl ?_
            refine un_ 61 (some 111) (bl 72 4611686018427387903) HT_.out rfl ?_
            refine un_ 62 (some 112) (bl 72 9223372036854775807) HT_.out rfl ?_
            refine un_ 63 (some 113) (bl 72 18446744073709551615) HT_.out rfl ?_
            refine un_ 64 (some 114) (bl 72 36893488147419103231) HT_.out rfl ?_
            refine un_ 65 (some 115) (bl 72 73786976294838206463) HT_.out rfl ?_
            refine un_ 66 (some 116) (bl 72 147573952589676412927) HT_.out rfl ?_
            refine un_ 67 (some 117) (bl 72 295147905179352825855) HT_.out rfl ?_
            refine un_ 68 (some 118) (bl 72 590295810358705651711) HT_.out rfl ?_
            refine pu_ 69 (some 119) (bl 72 1180591620717411303423) HT_.out rfl ?_
            refine pu_ 70 (some 120) (bl 72 2361183241434822606847) HT_.out rfl ?_
            refine pu_ 71 (some 2) (bl 72 4722366482869645213695) HT_.out rfl ?_
            refine done_ (done_of HT_.out (by kernel_rfl)) ?_
            try go_wp2
            go_ret
            exact ⟨ce_, HP.out.below⟩
           ·rw [if_neg c26] at H
            have c26b0 : ((t374.length : Int) == 0) = false := beq_eq_false_iff_ne.mpr c26
            have c26b1 : ((t374.length : Int) != 0) = true := bne_iff_ne.mpr c26
            have c26b2 : ¬ (t374 = []) := fun h_ => c26 (by rw [h_]; rfl)
            by_cases c72 : 0 < (t374.length : Int)
            ·rw [if_pos c72] at H
             have c72b0 : decide (0 < (t374.length : Int)) = true := decide_eq_true c72
             have c72b1 : decide (0 < t374.length) = true := decide_eq_true (by omega)
             have Qt374 := Aside0.mk c72
             clear c72
             obtain ⟨⟨t423, t424⟩, A73, H⟩ := bnd_ H
             try dsimp only at H
             obtain rfl := Option.some.inj H
             go_enter Try.func8, Try.ntmps8
             try go_wp2_with (first | (refine gl_ 22 (some 11) Try.func22 #[.slice A0 l0.length c0] ?_; (with_reducible refine (laws_lwBig.calls _ _ l0 false _ (Kd.C_below HR0.out HP.out.below) HC0.out A2.out).mono ?_); rintro e wd1 ⟨rfl, hd⟩; refine ⟨_, rfl, ?_⟩; have n_ := Aside0.mk (HP.out.call hd.below); clear HP hd; have HP := n_; clear n_) | (refine gl_ 35 (some 14) Try.func35 #[.slice A0 l0.length c0] ?_; (with_reducible refine (spec_DrawAddSets.calls k _ _ l0 t374 t377 _ (Kd.C_below HR0.out HP.out.below) HC0.out A4.out).mono ?_); rintro e w74 ⟨v375, v378, rfl, ho0, ho1, hb⟩; refine ⟨_, rfl, ?_⟩; obtain ⟨Ao_, co75, eo_⟩ := Kd.N_slice ho0; subst eo_; obtain ⟨Ao76, co76, eo_⟩ := Kd.N_slice ho1; subst eo_; obtain ⟨ad422, A422_0, c422_0, eo_, hE⟩ := elem0 ho0 (fun _ hk => hk.1) Qt374.out; subst eo_; have n_ := Aside0.mk (HP.out.push hb (((Held.rowN ho0 (fun _ hk => hk.1)).both (Held.rowN ho1 (fun _ hk => hk.1))).both hE)); clear hE; clear HP hb ho0 ho1; have HP := n_; clear n_) | (refine gl_ 34 (some 19) Try.func34 #[.slice (some ad422) t374.length co75, .slice Ao76 t377.length co76] ?_; (with_reducible refine (impl_AddSets.calls k _ _ t374 _ _ t377 t380 t381 _ HP.out.at0.1.1.1 HP.out.at0.1.1.2 HP.out.at0.1.2.1 HP.out.at0.1.2.2 A5.out).mono ?_); rintro e w77 ⟨v382, rfl, ho0, hb⟩; refine ⟨_, rfl, ?_⟩; obtain ⟨Ao80, co80, eo_⟩ := Kd.S_slice ho0; subst eo_; have n_ := Aside0.mk (HP.out.newS hb ho0); clear HP hb ho0; have HP := n_; clear n_) | ((with_reducible refine gate_dst (N := 5) rfl ?_); (try (refine gate_guard (by rfl) ?_; dsimp only)); refine box_event ?hg (N := 5) ?hd (cs := #[.int .i64 0, .slice none 0 0]) (t := 26) ?hr ?_; (case hd => rfl); (case hg => rfl); (case hr => first | (go_simp; done) | (go_simp; rfl)); intro gb384 hg w78 hbox hb; have HX := Aside0.mk (And.intro hg (And.intro hbox hb)); obtain ⟨hcz79_0, hcz79_1, hfz79_0, hfz79_1⟩ := cells2 hbox; clear hb hbox hg) | (refine gl_ 34 (some 22) Try.func34 #[.slice Ao76 t377.length co76, .slice (some ad422) t374.length co75] ?_; refine (HP.out.box2 HX.out).atCall ?_; intro wb5 hp_; clear HP HX; have HP := Aside0.mk hp_; clear hp_; (with_reducible refine (impl_AddSets.calls k _ _ t377 _ _ t374 t385 t386 _ HP.out.at2.1.2.1 HP.out.at2.1.2.2 HP.out.at2.1.1.1 HP.out.at2.1.1.2 A6.out).mono ?_); rintro e w81 ⟨v387, rfl, ho0, hb⟩; refine ⟨_, rfl, ?_⟩; obtain ⟨Ao85, co85, eo_⟩ := Kd.S_slice ho0; subst eo_; have n_ := Aside0.mk (HP.out.newS hb ho0); clear HP hb ho0; have HP := n_; clear n_) | ((with_reducible refine gate_dst (N := 6) rfl ?_); (try (refine gate_guard (by rfl) ?_; dsimp only)); refine box_event ?hg (N := 6) ?hd (cs := #[.int .i64 0, .slice none 0 0]) (t := 26) ?hr ?_; (case hd => rfl); (case hg => rfl); (case hr => first | (go_simp; done) | (go_simp; rfl)); intro gb389 hg w82 hbox hb; have HX := Aside0.mk (And.intro hg (And.intro hbox hb)); have hnb83 := (Pl.ne hg HP.out.at1).2; have hnc83 := (Pl.ne hg HP.out.at1).1; obtain ⟨hcz84_0, hcz84_1, hfz84_0, hfz84_1⟩ := cells2 hbox; obtain ⟨hcz86_0, hcz86_1, hfz86_0, hfz86_1⟩ := cells2 (HP.out.call hb).at1; clear hb hbox hg) | (refine gl_ 36 (some 39) Try.func36 #[.slice Ao76 t377.length co76] ?_; refine (HP.out.box2 HX.out).atCall ?_; intro wb7 hp_; clear HP HX; have HP := Aside0.mk hp_; clear hp_; (with_reducible refine (impl_NegateSet.calls k _ _ t377 t394 t395 _ HP.out.at4.1.2.1 HP.out.at4.1.2.2 A8.out).mono ?_); rintro e w87 ⟨v396, rfl, ho0, hb⟩; refine ⟨_, rfl, ?_⟩; obtain ⟨Ao92, co92, eo_⟩ := Kd.S_slice ho0; subst eo_; have n_ := Aside0.mk (HP.out.newS hb ho0); clear HP hb ho0; have HP := n_; clear n_) | ((with_reducible refine gate_dst (N := 7) rfl ?_); (try (refine gate_guard (by rfl) ?_; dsimp only)); refine box_event ?hg (N := 7) ?hd (cs := #[.int .i64 0, .slice none 0 0]) (t := 26) ?hr ?_; (case hd => rfl); (case hg => rfl); (case hr => first | (go_simp; done) | (go_simp; rfl)); intro gb398 hg w88 hbox hb; have HX := Aside0.mk (And.intro hg (And.intro hbox hb)); have hnb89 := (Pl.ne hg HP.out.at3).2; have hnc89 := (Pl.ne hg HP.out.at3).1; have hnb90 := (Pl.ne hg HP.out.at1).2; have hnc90 := (Pl.ne hg HP.out.at1).1; obtain ⟨hcz91_0, hcz91_1, hfz91_0, hfz91_1⟩ := cells2 hbox; obtain ⟨hcz93_0, hcz93_1, hfz93_0, hfz93_1⟩ := cells2 (HP.out.call hb).at3; clear hb hbox hg) | (refine gl_ 34 (some 44) Try.func34 #[.slice Ao80 t381.length co80, .slice Ao92 t395.length co92] ?_; refine (HP.out.box2 HX.out).atCall ?_; intro wb9 hp_; clear HP HX; have HP := Aside0.mk hp_; clear hp_; (with_reducible refine (impl_AddSets.calls k _ _ t381 _ _ t395 t399 t400 _ HP.out.at5.1 HP.out.at5.2 HP.out.at1.1 HP.out.at1.2 A9.out).mono ?_); rintro e w94 ⟨v401, rfl, ho0, hb⟩; refine ⟨_, rfl, ?_⟩; obtain ⟨Ao100, co100, eo_⟩ := Kd.S_slice ho0; subst eo_; have n_ := Aside0.mk (HP.out.newS hb ho0); clear HP hb ho0; have HP := n_; clear n_) | ((with_reducible refine gate_dst (N := 8) rfl ?_); (try (refine gate_guard (by rfl) ?_; dsimp only)); refine box_event ?hg (N := 8) ?hd (cs := #[.int .i64 0, .slice none 0 0]) (t := 26) ?hr ?_; (case hd => rfl); (case hg => rfl); (case hr => first | (go_simp; done) | (go_simp; rfl)); intro gb403 hg w95 hbox hb; have HX := Aside0.mk (And.intro hg (And.intro hbox hb)); have hnb96 := (Pl.ne hg HP.out.at5).2; have hnc96 := (Pl.ne hg HP.out.at5).1; have hnb97 := (Pl.ne hg HP.out.at3).2; have hnc97 := (Pl.ne hg HP.out.at3).1; have hnb98 := (Pl.ne hg HP.out.at1).2; have hnc98 := (Pl.ne hg HP.out.at1).1; obtain ⟨hcz99_0, hcz99_1, hfz99_0, hfz99_1⟩ := cells2 hbox; clear hb hbox hg) | (refine gl_ 36 (some 47) Try.func36 #[.slice (some ad422) t374.length co75] ?_; refine (HP.out.box2 HX.out).atCall ?_; intro wb11 hp_; clear HP HX; have HP := Aside0.mk hp_; clear hp_; (with_reducible refine (impl_NegateSet.calls k _ _ t374 t404 t405 _ HP.out.at8.1.1.1 HP.out.at8.1.1.2 A10.out).mono ?_); rintro e w101 ⟨v406, rfl, ho0, hb⟩; refine ⟨_, rfl, ?_⟩; obtain ⟨Ao102, co102, eo_⟩ := Kd.S_slice ho0; subst eo_; have n_ := Aside0.mk (HP.out.newS hb ho0); clear HP hb ho0; have HP := n_; clear n_) | (refine gl_ 34 (some 49) Try.func34 #[.slice (some ad422) t374.length co75, .slice Ao102 t405.length co102] ?_; (with_reducible refine (impl_AddSets.calls k _ _ t374 _ _ t405 t408 t409 _ HP.out.at9.1.1.1 HP.out.at9.1.1.2 HP.out.at0.1 HP.out.at0.2 A11.out).mono ?_); rintro e w103 ⟨v410, rfl, ho0, hb⟩; refine ⟨_, rfl, ?_⟩; obtain ⟨Ao110, co110, eo_⟩ := Kd.S_slice ho0; subst eo_; have n_ := Aside0.mk (HP.out.newS hb ho0); clear HP hb ho0; have HP := n_; clear n_) | ((with_reducible refine gate_dst (N := 9) rfl ?_); (try (refine gate_guard (by rfl) ?_; dsimp only)); refine box_event ?hg (N := 9) ?hd (cs := #[.int .i64 0, .slice none 0 0]) (t := 26) ?hr ?_; (case hd => rfl); (case hg => rfl); (case hr => first | (go_simp; done) | (go_simp; rfl)); intro gb412 hg w104 hbox hb; have HX := Aside0.mk (And.intro hg (And.intro hbox hb)); have hnb105 := (Pl.ne hg HP.out.at8).2; have hnc105 := (Pl.ne hg HP.out.at8).1; have hnb106 := (Pl.ne hg HP.out.at6).2; have hnc106 := (Pl.ne hg HP.out.at6).1; have hnb107 := (Pl.ne hg HP.out.at4).2; have hnc107 := (Pl.ne hg HP.out.at4).1; have hnb108 := (Pl.ne hg HP.out.at2).2; have hnc108 := (Pl.ne hg HP.out.at2).1; obtain ⟨hcz109_0, hcz109_1, hfz109_0, hfz109_1⟩ := cells2 hbox; clear hb hbox hg))
             have p422 : 0 ≤ (0 : Int) := (by omega)
             have q422 : 0 < (t374.length : Int) := of_decide_eq_true ca_
             have qi422 : (0 < t374.length) = True := eq_true (by omega)
             replace p422 := eq_true p422
             replace q422 := eq_true q422
             refine (HP.out.box2 HX.out).atRegion ?_
             intro wr439 hp_
             clear HP HX
             have HP := Aside0.mk hp_
             clear hp_
             refine start_ (n := 72) (S := fun w' => Aside0 (Pl w w' _)) (ds := []) (bl 72 0) (by kernel_rfl) rfl rfl ⟨HP.out.drew⟩ (fun hp_ => ?_); refine with_tabW laws_FnGroups.tab11 laws_FnGroups.bits11 (fun HT_ HW_ => ?_)
             clear HP
             generalize wr439.drew = wr439d at hp_ ⊢
             have HP := hp_
             clear hp_
             refine pu_ 0 (some 50) (bl 72 1) HT_.out rfl ?_
             refine tw_ 1 (some 51) (bl 72 3) HT_.out HW_.out rfl HP tl1 ?_
             refine on_ 2 (some 52) (bl 72 7) HT_.out rfl (fun K hK => ?_)
             refine goes_ Try.func26 (by kernel_rfl) rfl #[.slice Ao80 t381.length co80] (by rfl) rfl rfl cx_ ?_
             with_reducible refine (impl_SetFault.calls k _ _ t381 t413 _ HP.out.at10.1 HP.out.at10.2 A12.out).mono ?_
             rintro e w113 ⟨rfl, hb⟩
             refine ⟨_, rfl, ?_⟩
             have n_ := Aside0.mk (HP.out.call hb)
             clear HP hb
             have HP := n_
             clear n_
             refine hK.out _ _ HP (fun hp_ => ?_)
             clear hK K HP
             have HP := hp_
             clear hp_
             refine nm_ (some 52) ?_
             refine pu_ 3 (some 53) (bl 72 15) HT_.out rfl ?_
             refine pu_ 4 (some 54) (bl 72 31) HT_.out rfl ?_
             refine pu_ 5 (some 55) (bl 72 63) HT_.out rfl ?_
             refine pu_ 7 (some 57) (bl 72 191) HT_.out rfl ?_
             refine tw_ 6 (some 56) (bl 72 255) HT_.out HW_.out rfl HP tl1 ?_
             refine tw_ 8 (some 58) (bl 72 511) HT_.out HW_.out rfl HP tl1 ?_
             refine on_ 9 (some 59) (bl 72 1023) HT_.out rfl (fun K hK => ?_)
             refine goes_ Try.func27 (by kernel_rfl) rfl #[.slice Ao80 t381.length co80, .slice Ao85 t386.length co85] (by rfl) rfl rfl cx_ ?_
             with_reducible refine (impl_SameSets.calls k _ _ t381 _ _ t386 true _ HP.out.at10.1 HP.out.at10.2 HP.out.at8.1 HP.out.at8.2 A14.out).mono ?_
             rintro e w114 ⟨rfl, hb⟩
             refine ⟨_, rfl, ?_⟩
             have n_ := Aside0.mk (HP.out.call hb)
             clear HP hb
             have HP := n_
             clear n_
             refine hK.out _ _ HP (fun hp_ => ?_)
             clear hK K HP
             have HP := hp_
             clear hp_
             refine nm_ (some 59) ?_
             refine pu_ 10 (some 60) (bl 72 2047) HT_.out rfl ?_
             refine pu_ 11 (some 61) (bl 72 4095) HT_.out rfl ?_
             refine pu_ 12 (some 62) (bl 72 8191) HT_.out rfl ?_
             refine tw_ 13 (some 63) (bl 72 16383) HT_.out HW_.out rfl HP tl1 ?_
             refine pu_ 14 (some 64) (bl 72 32767) HT_.out rfl ?_
             refine pu_ 15 (some 65) (bl 72 65535) HT_.out rfl ?_
             refine pu_ 16 (some 66) (bl 72 131071) HT_.out rfl ?_
             refine pu_ 17 (some 67) (bl 72 262143) HT_.out rfl ?_
             refine tw_ 18 (some 68) (bl 72 524287) HT_.out HW_.out rfl HP tl1 ?_
             refine pu_ 19 (some 69) (bl 72 1048575) HT_.out rfl ?_
             refine pu_ 20 (some 70) (bl 72 2097151) HT_.out rfl ?_
             refine pu_ 21 (some 71) (bl 72 4194303) HT_.out rfl ?_
             refine pu_ 22 (some 72) (bl 72 8388607) HT_.out rfl ?_
             refine pu_ 24 (some 74) (bl 72 25165823) HT_.out rfl ?_
             refine tw_ 23 (some 73) (bl 72 33554431) HT_.out HW_.out rfl HP tl1 ?_
             refine on_ 25 (some 75) (bl 72 67108863) HT_.out rfl (fun K hK => ?_)
             refine goes_ Try.func27 (by kernel_rfl) rfl #[.slice Ao100 t400.length co100, .slice (some ad422) t374.length co75] (by rfl) rfl rfl cx_ ?_
             with_reducible refine (impl_SameSets.calls k _ _ t400 _ _ t374 true _ HP.out.at4.1 HP.out.at4.2 HP.out.at11.1.1.1 HP.out.at11.1.1.2 A18.out).mono ?_
             rintro e w115 ⟨rfl, hb⟩
             refine ⟨_, rfl, ?_⟩
             have n_ := Aside0.mk (HP.out.call hb)
             clear HP hb
             have HP := n_
             clear n_
             refine hK.out _ _ HP (fun hp_ => ?_)
             clear hK K HP
             have HP := hp_
             clear hp_
             refine nm_ (some 75) ?_
             refine pu_ 26 (some 76) (bl 72 134217727) HT_.out rfl ?_
             refine pu_ 27 (some 77) (bl 72 268435455) HT_.out rfl ?_
             refine pu_ 28 (some 78) (bl 72 536870911) HT_.out rfl ?_
             refine tw_ 29 (some 79) (bl 72 1073741823) HT_.out HW_.out rfl HP tl1 ?_
             refine pu_ 30 (some 80) (bl 72 2147483647) HT_.out rfl ?_
             refine pu_ 31 (some 81) (bl 72 4294967295) HT_.out rfl ?_
             refine pu_ 32 (some 82) (bl 72 8589934591) HT_.out rfl ?_
             refine pu_ 33 (some 83) (bl 72 17179869183) HT_.out rfl ?_
             refine tw_ 34 (some 84) (bl 72 34359738367) HT_.out HW_.out rfl HP tl1 ?_
             refine pu_ 35 (some 85) (bl 72 68719476735) HT_.out rfl ?_
             refine pu_ 36 (some 86) (bl 72 137438953471) HT_.out rfl ?_
             refine pu_ 37 (some 87) (bl 72 274877906943) HT_.out rfl ?_
             refine pu_ 38 (some 88) (bl 72 549755813887) HT_.out rfl ?_
             refine pu_ 39 (some 89) (bl 72 1099511627775) HT_.out rfl ?_
             refine pu_ 43 (some 93) (bl 72 9895604649983) HT_.out rfl ?_
             refine pu_ 46 (some 96) (bl 72 80264348827647) HT_.out rfl ?_
             refine tw_ 40 (some 90) (bl 72 81363860455423) HT_.out HW_.out rfl HP tl1 ?_
             refine on_ 41 (some 91) (bl 72 83562883710975) HT_.out rfl (fun K hK => ?_)
             refine goes_ Try.func37 (by kernel_rfl) rfl #[.slice Ao80 t381.length co80] (by rfl) rfl rfl cx_ ?_
             with_reducible refine (impl_TotalWeight.calls k _ _ t381 t416 t417 _ HP.out.at10.1 HP.out.at10.2 A22.out).mono ?_
             rintro e w116 ⟨rfl, hb⟩
             refine ⟨_, rfl, ?_⟩
             have n_ := Aside0.mk (HP.out.call hb)
             clear HP hb
             have HP := n_
             clear n_
             refine hK.out _ _ HP (fun hp_ => ?_)
             clear hK K HP
             have HP := hp_
             clear hp_
             refine nm_ (some 91) ?_
             refine pu_ 42 (some 92) (bl 72 87960930222079) HT_.out rfl ?_
             refine on_ 44 (some 94) (bl 72 105553116266495) HT_.out rfl (fun K hK => ?_)
             refine goes_ Try.func37 (by kernel_rfl) rfl #[.slice (some ad422) t374.length co75] (by rfl) rfl rfl cx_ ?_
             with_reducible refine (impl_TotalWeight.calls k _ _ t374 t418 t419 _ HP.out.at11.1.1.1 HP.out.at11.1.1.2 A23.out).mono ?_
             rintro e w117 ⟨rfl, hb⟩
             refine ⟨_, rfl, ?_⟩
             have n_ := Aside0.mk (HP.out.call hb)
             clear HP hb
             have HP := n_
             clear n_
             refine hK.out _ _ HP (fun hp_ => ?_)
             clear hK K HP
             have HP := hp_
             clear hp_
             refine nm_ (some 94) ?_
             refine pu_ 45 (some 95) (bl 72 140737488355327) HT_.out rfl ?_
             refine on_ 47 (some 97) (bl 72 281474976710655) HT_.out rfl (fun K hK => ?_)
             refine goes_ Try.func37 (by kernel_rfl) rfl #[.slice Ao76 t377.length co76] (by rfl) rfl rfl cx_ ?_
             with_reducible refine (impl_TotalWeight.calls k _ _ t377 t420 t421 _ HP.out.at11.1.2.1 HP.out.at11.1.2.2 A24.out).mono ?_
             rintro e w118 ⟨rfl, hb⟩
             refine ⟨_, rfl, ?_⟩
             have n_ := Aside0.mk (HP.out.call hb)
             clear HP hb
             have HP := n_
             clear n_
             refine hK.out _ _ HP (fun hp_ => ?_)
             clear hK K HP
             have HP := hp_
             clear hp_
             refine nm_ (some 97) ?_
             refine pu_ 48 (some 98) (bl 72 562949953421311) HT_.out rfl ?_
             refine pu_ 49 (some 99) (bl 72 1125899906842623) HT_.out rfl ?_
             refine pu_ 50 (some 100) (bl 72 2251799813685247) HT_.out rfl ?_
             refine pu_ 51 (some 101) (bl 72 4503599627370495) HT_.out rfl ?_
             refine pu_ 52 (some 102) (bl 72 9007199254740991) HT_.out rfl ?_
             refine pu_ 53 (some 103) (bl 72 18014398509481983) HT_.out rfl ?_
             refine pu_ 54 (some 104) (bl 72 36028797018963967) HT_.out rfl ?_
             refine pu_ 55 (some 105) (bl 72 72057594037927935) HT_.out rfl ?_
             refine pu_ 56 (some 106) (bl 72 144115188075855871) HT_.out rfl ?_
             refine pu_ 57 (some 107) (bl 72 288230376151711743) HT_.out rfl ?_
             refine pu_ 58 (some 108) (bl 72 576460752303423487) HT_.out rfl ?_
             refine pu_ 59 (some 109) (bl 72 1152921504606846975) HT_.out rfl ?_
             refine pu_ 60 (some 110) (bl 72 2305843009213693951) HT_.out rfl ?_
             refine pu_ 64 (some 114) (bl 72 20752587082923245567) HT_.out rfl ?_
             refine pu_ 65 (some 115) (bl 72 57646075230342348799) HT_.out rfl ?_
             refine pu_ 66 (some 116) (bl 72 131433051525180555263) HT_.out rfl ?_
             refine tw_ 61 (some 111) (bl 72 133738894534394249215) HT_.out HW_.out rfl HP tl1 ?_
             refine tw_ 67 (some 117) (bl 72 281312847124070662143) HT_.out HW_.out rfl HP tl1 ?_
             refine on_ 62 (some 112) (bl 72 285924533142498050047) HT_.out rfl (fun K hK => ?_)
             refine goes_ Try.func38 (by kernel_rfl) rfl #[.slice (some ad422) t374.length co75, .slice A422_0 ((rd_T42 t374 0).f0).length c422_0] (by rfl) rfl rfl cx_ ?_
             with_reducible refine (impl_WeightOf.calls k _ _ t374 _ _ ((rd_T42 t374 0).f0) t423 t424 _ HP.out.at11.1.1.1 HP.out.at11.1.1.2 HP.out.at11.2.2.2.1 HP.out.at11.2.2.2.2 A73.out).mono ?_
             rintro e w119 ⟨rfl, hb⟩
             refine ⟨_, rfl, ?_⟩
             have n_ := Aside0.mk (HP.out.call hb)
             clear HP hb
             have HP := n_
             clear n_
             refine hK.out _ _ HP (fun hp_ => ?_)
             clear hK K HP
             have HP := hp_
             clear hp_
             refine nm_ (some 112) ?_
             refine pu_ 63 (some 113) (bl 72 295147905179352825855) HT_.out rfl ?_
             refine pu_ 68 (some 118) (bl 72 590295810358705651711) HT_.out rfl ?_
             refine pu_ 69 (some 119) (bl 72 1180591620717411303423) HT_.out rfl ?_
             refine pu_ 70 (some 120) (bl 72 2361183241434822606847) HT_.out rfl ?_
             refine pu_ 71 (some 2) (bl 72 4722366482869645213695) HT_.out rfl ?_
             refine done_ (done_of HT_.out (by kernel_rfl)) ?_
             try go_wp2
             go_ret
             exact ⟨ce_, HP.out.below⟩
            ·rw [if_neg c72] at H
             exact absurd H (by simp)
          ·rw [if_neg c25] at H
           have c25b0 : (t417 == (wrap64 (t419 + t421))) = false := beq_eq_false_iff_ne.mpr c25
           have c25b1 : (t417 != (wrap64 (t419 + t421))) = true := bne_iff_ne.mpr c25
           exact absurd ((Option.some.inj H).trans HRT_.out) (by decide)
         ·rw [if_neg c21] at H
          have c21b0 : ((t409.length : Int) == 0) = false := beq_eq_false_iff_ne.mpr c21
          have c21b1 : ((t409.length : Int) != 0) = true := bne_iff_ne.mpr c21
          have c21b2 : ¬ (t409 = []) := fun h_ => c21 (by rw [h_]; rfl)
          exact absurd ((Option.some.inj H).trans HRT_.out) (by decide)
        ·rw [if_neg c20] at H
         have c20b0 : (t408 == 0) = false := beq_eq_false_iff_ne.mpr c20
         have c20b1 : (t408 != 0) = true := bne_iff_ne.mpr c20
         exact absurd ((Option.some.inj H).trans HRT_.out) (by decide)
       ·replace c19 := Bool.eq_false_iff.mpr c19
        subst c19
        rw [if_neg (show ¬ (false = true) by decide)] at H
        exact absurd ((Option.some.inj H).trans HRT_.out) (by decide)
      ·rw [if_neg c17] at H
       have c17b0 : (t399 == 0) = false := beq_eq_false_iff_ne.mpr c17
       have c17b1 : (t399 != 0) = true := bne_iff_ne.mpr c17
       exact absurd ((Option.some.inj H).trans HRT_.out) (by decide)
     ·rw [if_neg c16] at H
      have c16b0 : (t394 == 0) = false := beq_eq_false_iff_ne.mpr c16
      have c16b1 : (t394 != 0) = true := bne_iff_ne.mpr c16
      exact absurd ((Option.some.inj H).trans HRT_.out) (by decide)
    ·replace c15 := Bool.eq_false_iff.mpr c15
     subst c15
     rw [if_neg (show ¬ (false = true) by decide)] at H
     exact absurd ((Option.some.inj H).trans HRT_.out) (by decide)
   ·rw [if_neg c13] at H
    have c13b0 : (t413 == 0) = false := beq_eq_false_iff_ne.mpr c13
    have c13b1 : (t413 != 0) = true := bne_iff_ne.mpr c13
    exact absurd ((Option.some.inj H).trans HRT_.out) (by decide)
  ·rw [if_neg c7] at H
   have c7b0 : (t380 == 0) = false := beq_eq_false_iff_ne.mpr c7
   have c7b1 : (t380 != 0) = true := bne_iff_ne.mpr c7
   obtain ⟨⟨t390, t391⟩, A454, H⟩ := bnd_ H
   try dsimp only at H
   by_cases c455 : t390 = t380
   ·rw [if_pos c455] at H
    have c455b0 : (t390 == t380) = true := beq_iff_eq.mpr c455
    have c455b1 : (t390 != t380) = false := bne_eq_false_iff_eq.mpr c455
    clear c455
    obtain rfl := Option.some.inj H
    go_enter Try.func8, Try.ntmps8
    try go_wp2_with (first | (refine gl_ 22 (some 11) Try.func22 #[.slice A0 l0.length c0] ?_; (with_reducible refine (laws_lwBig.calls _ _ l0 false _ (Kd.C_below HR0.out HP.out.below) HC0.out A2.out).mono ?_); rintro e wd1 ⟨rfl, hd⟩; refine ⟨_, rfl, ?_⟩; have n_ := Aside0.mk (HP.out.call hd.below); clear HP hd; have HP := n_; clear n_) | (refine gl_ 35 (some 14) Try.func35 #[.slice A0 l0.length c0] ?_; (with_reducible refine (spec_DrawAddSets.calls k _ _ l0 t374 t377 _ (Kd.C_below HR0.out HP.out.below) HC0.out A4.out).mono ?_); rintro e w456 ⟨v375, v378, rfl, ho0, ho1, hb⟩; refine ⟨_, rfl, ?_⟩; obtain ⟨Ao457, co457, eo_⟩ := Kd.N_slice ho0; subst eo_; obtain ⟨Ao458, co458, eo_⟩ := Kd.N_slice ho1; subst eo_; have n_ := Aside0.mk (HP.out.newNN hb ho0 ho1 (fun _ hk => hk.1) (fun _ hk => hk.1)); clear HP hb ho0 ho1; have HP := n_; clear n_) | (refine gl_ 34 (some 19) Try.func34 #[.slice Ao457 t374.length co457, .slice Ao458 t377.length co458] ?_; (with_reducible refine (impl_AddSets.calls k _ _ t374 _ _ t377 t380 t381 _ HP.out.at0.1.1 HP.out.at0.1.2 HP.out.at0.2.1 HP.out.at0.2.2 A5.out).mono ?_); rintro e w459 ⟨v382, rfl, ho0, hb⟩; refine ⟨_, rfl, ?_⟩; obtain ⟨Ao462, co462, eo_⟩ := Kd.S_slice ho0; subst eo_; have n_ := Aside0.mk (HP.out.newS hb ho0); clear HP hb ho0; have HP := n_; clear n_) | ((with_reducible refine gate_dst (N := 5) rfl ?_); (try (refine gate_guard (by rfl) ?_; dsimp only)); refine box_event ?hg (N := 5) ?hd (cs := #[.int .i64 0, .slice none 0 0]) (t := 26) ?hr ?_; (case hd => rfl); (case hg => rfl); (case hr => first | (go_simp; done) | (go_simp; rfl)); intro gb384 hg w460 hbox hb; have HX := Aside0.mk (And.intro hg (And.intro hbox hb)); obtain ⟨hcz461_0, hcz461_1, hfz461_0, hfz461_1⟩ := cells2 hbox; clear hb hbox hg) | (refine gl_ 34 (some 22) Try.func34 #[.slice Ao458 t377.length co458, .slice Ao457 t374.length co457] ?_; refine (HP.out.box2 HX.out).atCall ?_; intro wb5 hp_; clear HP HX; have HP := Aside0.mk hp_; clear hp_; (with_reducible refine (impl_AddSets.calls k _ _ t377 _ _ t374 t385 t386 _ HP.out.at2.2.1 HP.out.at2.2.2 HP.out.at2.1.1 HP.out.at2.1.2 A6.out).mono ?_); rintro e w463 ⟨v387, rfl, ho0, hb⟩; refine ⟨_, rfl, ?_⟩; obtain ⟨Ao467, co467, eo_⟩ := Kd.S_slice ho0; subst eo_; have n_ := Aside0.mk (HP.out.newS hb ho0); clear HP hb ho0; have HP := n_; clear n_) | ((with_reducible refine gate_dst (N := 6) rfl ?_); (try (refine gate_guard (by rfl) ?_; dsimp only)); refine box_event ?hg (N := 6) ?hd (cs := #[.int .i64 0, .slice none 0 0]) (t := 26) ?hr ?_; (case hd => rfl); (case hg => rfl); (case hr => first | (go_simp; done) | (go_simp; rfl)); intro gb389 hg w464 hbox hb; have HX := Aside0.mk (And.intro hg (And.intro hbox hb)); have hnb465 := (Pl.ne hg HP.out.at1).2; have hnc465 := (Pl.ne hg HP.out.at1).1; obtain ⟨hcz466_0, hcz466_1, hfz466_0, hfz466_1⟩ := cells2 hbox; obtain ⟨hcz468_0, hcz468_1, hfz468_0, hfz468_1⟩ := cells2 (HP.out.call hb).at1; clear hb hbox hg))
    refine (HP.out.box2 HX.out).atRegion ?_
    intro wr678 hp_
    clear HP HX
    have HP := Aside0.mk hp_
    clear hp_
    refine start_ (n := 13) (S := fun w' => Aside0 (Pl w w' _)) (ds := []) (bl 13 0) (by kernel_rfl) rfl rfl ⟨HP.out.drew⟩ (fun hp_ => ?_); refine with_tabW laws_FnGroups.tab7 laws_FnGroups.bits7 (fun HT_ HW_ => ?_)
    clear HP
    generalize wr678.drew = wr678d at hp_ ⊢
    have HP := hp_
    clear hp_
    refine pu_ 0 (some 26) (bl 13 1) HT_.out rfl ?_
    refine pu_ 1 (some 27) (bl 13 3) HT_.out rfl ?_
    refine pu_ 4 (some 30) (bl 13 19) HT_.out rfl ?_
    refine tw_ 5 (some 31) (bl 13 51) HT_.out HW_.out rfl HP tl2 ?_
    refine on_ 2 (some 28) (bl 13 55) HT_.out rfl (fun K hK => ?_)
    refine goes_ Try.func33 (by kernel_rfl) rfl #[.slice Ao457 t374.length co457, .slice Ao458 t377.length co458] (by rfl) rfl rfl cx_ ?_
    with_reducible refine (spec_AddSets.calls k _ _ t374 _ _ t377 t390 t391 _ HP.out.at4.1.1 HP.out.at4.1.2 HP.out.at4.2.1 HP.out.at4.2.2 A454.out).mono ?_
    rintro e w471 ⟨v392, rfl, ho0, hb⟩
    refine ⟨_, rfl, ?_⟩
    have n_ := Aside0.mk (HP.out.call hb)
    clear HP hb ho0
    have HP := n_
    clear n_
    refine hK.out _ _ HP (fun hp_ => ?_)
    clear hK K HP
    have HP := hp_
    clear hp_
    refine nm_ (some 28) ?_
    refine pu_ 3 (some 29) (bl 13 63) HT_.out rfl ?_
    refine pu_ 6 (some 32) (bl 13 127) HT_.out rfl ?_
    refine pu_ 7 (some 33) (bl 13 255) HT_.out rfl ?_
    refine pu_ 8 (some 34) (bl 13 511) HT_.out rfl ?_
    refine tw_ 9 (some 35) (bl 13 1023) HT_.out HW_.out rfl HP tl2 ?_
    refine pu_ 10 (some 36) (bl 13 2047) HT_.out rfl ?_
    refine pu_ 11 (some 37) (bl 13 4095) HT_.out rfl ?_
    refine pu_ 12 (some 2) (bl 13 8191) HT_.out rfl ?_
    refine done_ (done_of HT_.out (by kernel_rfl)) ?_
    try go_wp2
    go_ret
    exact ⟨ce_, HP.out.below⟩
   ·rw [if_neg c455] at H
    have c455b0 : (t390 == t380) = false := beq_eq_false_iff_ne.mpr c455
    have c455b1 : (t390 != t380) = true := bne_iff_ne.mpr c455
    exact absurd ((Option.some.inj H).trans HRT_.out) (by decide)
/-- THE ONE PURE STATEMENT of laws_FnGroups: yours. -/
def laws_FnGroups.Pure : Prop := ∀ (l0 : List Int), l0.length ≤ maxLen → l0.length * 1 ≤ 140737488351232 → (∀ x ∈ l0, (Lit.int .u8 x).wf = true) → ∃ k, laws_FnGroups.f k l0 = some true
theorem laws_FnGroups.walk (P : laws_FnGroups.Pure) (a0 : Option Addr) (len0 cap0 : Nat) (z0 : List Int) (w : World) (w0 : (a0 = none ∧ len0 = 0 ∧ cap0 = 0 ∧ z0 = []) ∨ ∃ x, a0 = some x ∧ len0 ≤ cap0 ∧ cap0 ≤ maxLen ∧ z0.length = cap0 ∧ (∀ i, i < z0.length → w.cell? (x.add i) = some (.int .u8 (z0.getD i 0))) ∧ ∀ n ∈ z0, (Lit.int .u8 n).wf = true) (y0 : len0 * 1 ≤ 140737488351232) :
  Calls Try.prog 8 #[.slice a0 len0 cap0] w fun e w' => e = .returned (.bool true) ∧ Below w.heap.size w w' := by
 obtain ⟨l0, rfl, hr0, hm0, hw0, hc0⟩ := ReadsInt.ofRowC w0
 obtain ⟨k, h⟩ := P l0 hm0 y0 hw0
 refine (laws_FnGroups.calls k _ _ l0 true w (Kd.C_of_reads (d := (0 : Int)) (h1 := fun _ => rfl) hr0) hc0 h rfl).mono ?_
 rintro e w' ⟨rfl, hd⟩
 exact ⟨rfl, hd⟩

end Go.Proofs.Ythgmicingbjemaa.PFnGroups
