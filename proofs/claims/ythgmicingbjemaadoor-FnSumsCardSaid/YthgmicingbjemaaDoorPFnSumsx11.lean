-- Written by fprint, a program of this session, out of Lean's own print of the translation. Lean checks it.
import Derived.Test.YthgmicingbjemaaDoorPile
import Derived.Test.YthgmicingbjemaaDoorDense
import Derived.Test.YthgmicingbjemaaDoorShort
import Derived.Test.YthgmicingbjemaaDoorPFnSumsx0
import Derived.Test.YthgmicingbjemaaDoorPFnSumsx1
import Derived.Test.YthgmicingbjemaaDoorPFnSumsx2
import Derived.Test.YthgmicingbjemaaDoorPFnSumsx5
import Derived.Test.YthgmicingbjemaaDoorPFnSumsx7
import Derived.Test.YthgmicingbjemaaDoorPFnSumsx8
import Derived.Test.YthgmicingbjemaaDoorPFnSumsx9
import Derived.Test.YthgmicingbjemaaDoorPFnSumsx10
namespace Go.Proofs.YthgmicingbjemaaDoor.PFnSums
open Go.RowKit Go.Proofs.YthgmicingbjemaaDoorW.PrintWords Go.Proofs.YthgmicingbjemaaDoorW.PrintLast Go.Proofs.YthgmicingbjemaaDoorW.PrintMore
attribute [local go_sem] max2_int min2_int max_two min_two max_three min_three max_four min_four   -- for this text's walks alone
set_option linter.unusedVariables false
set_option linter.unusedSimpArgs false

theorem b11_15 {p : Prop} (h : p := by refine cN_ ?_; exact (Kd.N_mono (Kd.N_far (p := ⟨gb354, 1, none⟩) (Kd.N_far (p := ⟨gb354, 0, none⟩) (Kd.N_mono HO353.out (fun k_ hk => (⟨hk, hk.2⟩ : _ ∧ k_ ≠ gb354))) (fun _ hk => hk.2) (.int .i64 t350)) (fun _ hk => hk.2) (.slice Ao13 t351.length co13)) (fun _ h_ => h_.1))) : p := h
theorem tl0 {p : Prop} (h : p := by intro w' s_; obtain ⟨s0, s1, -, -⟩ := cells2 s_.out.at0; obtain ⟨s2, s3, -, -⟩ := cells2 s_.out.at2.2.2.2.1; obtain ⟨s4, s5, -, -⟩ := cells2 s_.out.at2.2.2.2.2; go_simp; with_reducible rfl) : p := h
theorem tl1 {p : Prop} (h : p := by intro w' s_; obtain ⟨s0, s1, -, -⟩ := cells2 s_.out.at0; go_simp; with_reducible rfl) : p := h
/-! ### laws_FnSums: function 3 -/
def laws_FnSums.l0 : Nat → List (S31) → Int → Int → Int → List (S31) → Int → List (S31) → Option (Bool)
 | 0, _, _, _, _, _, _, _ => none
 | k + 1, x3, x6, x7, x355000, x355001, x364000, x364001 => if x7 < (x3.length : Int) then (if 0 ≤ x7 then (laws_FnSums.l0 k x3 (wrap64 (x6 + ((rd_T31 x3 x7).f1))) (wrap64 (x7 + 1)) x355000 x355001 x364000 x364001) else (none)) else ((impl_ScaleSet.f k x355001 2).bind fun bt365 => ((impl_SetFault.f k x355001).bind fun t370 => (if t370 = 0 then (if x364000 = 0 then ((impl_SameSets.f k x364001 x355001).bind fun t371 => (if t371 = true then ((impl_TotalWeight.f k x355001).bind fun bt372 => (if bt372.2 = x6 then (if bt365.1 = 8 then ((impl_SetText.f k x355001).bind fun t374 => (some ((t374.toList == ([] : List UInt8)) == ((x355001.length : Int) == 0)))) else (if bt365.1 = 0 then (if (bt365.2.length : Int) = (x355001.length : Int) then ((impl_SetText.f k x355001).bind fun t375 => (some ((t375.toList == ([] : List UInt8)) == ((x355001.length : Int) == 0)))) else (some false)) else (some false))) else (some false))) else (some false))) else (some false)) else (some false))))
def laws_FnSums.f (k : Nat) (l0 : List Int) : Option (Bool) := (laws_lwBig.f l0).bind fun t346 => (if t346 = true then (some true) else ((spec_DrawConsolidate.f k l0).bind fun t347 => ((impl_Consolidate.f k t347).bind fun bt350 => (if bt350.1 = 0 then ((impl_Consolidate.f k bt350.2).bind fun bt359 => (laws_FnSums.l0 k t347 0 0 bt350.1 bt350.2 bt359.1 bt359.2)) else ((spec_Consolidate.f k t347).bind fun bt355 => (some (bt355.1 == bt350.1)))))))
theorem laws_FnSums.mono_l : ∀ k, (∀ y0 y1 y2 y3 y4 y5 y6, LeO (laws_FnSums.l0 k y0 y1 y2 y3 y4 y5 y6) (laws_FnSums.l0 (k + 1) y0 y1 y2 y3 y4 y5 y6))
 | 0 => fun _ _ _ _ _ _ _ r h => by simp [laws_FnSums.l0] at h
 | k + 1 => by
  have ih0 := laws_FnSums.mono_l k
  ·intro y0 y1 y2 y3 y4 y5 y6
   unfold laws_FnSums.l0
   repeat' first
   | (with_reducible exact ih0 _ _ _ _ _ _ _)
   | (with_reducible exact impl_Consolidate.mono _ _)
   | (with_reducible exact impl_SameSets.mono _ _ _)
   | (with_reducible exact impl_ScaleSet.mono _ _ _)
   | (with_reducible exact impl_SetFault.mono _ _)
   | (with_reducible exact impl_SetText.mono _ _)
   | (with_reducible exact impl_TotalWeight.mono _ _)
   | (with_reducible exact spec_Consolidate.mono _ _)
   | (with_reducible exact spec_DrawConsolidate.mono _ _)
   | (with_reducible exact LeO.refl _)
   | (with_reducible exact LeO.none _)
   | (with_reducible refine LeO.ite ?_ ?_)
   | (with_reducible refine LeO.bind ?_ (fun _ => ?_))
   | exact ih0 _ _ _ _ _ _ _
   | exact impl_Consolidate.mono _ _
   | exact impl_SameSets.mono _ _ _
   | exact impl_ScaleSet.mono _ _ _
   | exact impl_SetFault.mono _ _
   | exact impl_SetText.mono _ _
   | exact impl_TotalWeight.mono _ _
   | exact spec_Consolidate.mono _ _
   | exact spec_DrawConsolidate.mono _ _
   | exact LeO.none _
   | refine LeO.ite ?_ ?_
   | refine LeO.bind ?_ (fun _ => ?_)
theorem laws_FnSums.mono : ∀ a0 k, LeO (laws_FnSums.f k a0) (laws_FnSums.f (k + 1) a0) := by
 intro a0 k
 have ih0 := laws_FnSums.mono_l k
 unfold laws_FnSums.f
 repeat' first
   | (with_reducible exact ih0 _ _ _ _ _ _ _)
   | (with_reducible exact impl_Consolidate.mono _ _)
   | (with_reducible exact impl_SameSets.mono _ _ _)
   | (with_reducible exact impl_ScaleSet.mono _ _ _)
   | (with_reducible exact impl_SetFault.mono _ _)
   | (with_reducible exact impl_SetText.mono _ _)
   | (with_reducible exact impl_TotalWeight.mono _ _)
   | (with_reducible exact spec_Consolidate.mono _ _)
   | (with_reducible exact spec_DrawConsolidate.mono _ _)
   | (with_reducible exact LeO.refl _)
   | (with_reducible exact LeO.none _)
   | (with_reducible refine LeO.ite ?_ ?_)
   | (with_reducible refine LeO.bind ?_ (fun _ => ?_))
   | exact ih0 _ _ _ _ _ _ _
   | exact impl_Consolidate.mono _ _
   | exact impl_SameSets.mono _ _ _
   | exact impl_ScaleSet.mono _ _ _
   | exact impl_SetFault.mono _ _
   | exact impl_SetText.mono _ _
   | exact impl_TotalWeight.mono _ _
   | exact spec_Consolidate.mono _ _
   | exact spec_DrawConsolidate.mono _ _
   | exact LeO.none _
   | refine LeO.ite ?_ ?_
   | refine LeO.bind ?_ (fun _ => ?_)
def laws_FnSums.T14 : Bool × List (List Nat × List Nat) := (true, [([], []), ([0], [0]), ([1], [1]), ([2], [2]), ([3, 2], [3]), ([4], [4]), ([5, 4], [4, 5]), ([6, 4], [4, 6]), ([4, 7], [4, 7]), ([8, 4], [8]), ([9], [9]), ([10, 9], [9, 10]), ([9], [9]), ([12, 9], [9, 12]), ([11, 13, 9, 9], [9, 11, 13]), ([9, 14], [9, 14]), ([15, 14], [15]), ([16], [16]), ([17, 16], [16, 17]), ([18, 16, 16], [16, 18]), ([19, 16], [16, 19]), ([16], [16]), ([20, 21, 16], [16, 20, 21]), ([16, 22], [16, 22]), ([23, 19], [23]), ([24], [24]), ([25, 24], [24, 25]), ([26, 24], [24, 26]), ([27, 24, 24], [24, 27]), ([28], [28]), ([29, 28], [28, 29]), ([30, 28], [28, 30]), ([31, 28, 28], [28, 31]), ([32], [32]), ([33, 32], [32, 33]), ([34, 32], [32, 34]), ([32], [32]), ([36, 32], [32, 36]), ([37, 32], [32, 37]), ([35, 38, 32], [32, 35, 38]), ([32, 39, 28], [28, 32, 39]), ([28, 40, 24], [24, 28, 40]), ([24, 41], [24, 41]), ([42, 32], [42]), ([43], [43]), ([44, 43], [43, 44]), ([45, 43, 43], [43, 45]), ([46, 43], [43, 46]), ([43], [43]), ([48, 43], [43, 48]), ([49, 43], [43, 49]), ([50, 43], [43, 50]), ([47, 51, 43], [43, 47, 51]), ([43, 52], [43, 52]), ([53, 46, 0, 1, 2, 3, 4, 5, 6, 7, 8, 9, 10, 11, 12, 13, 14, 15, 16, 17, 18, 19, 20, 21, 22, 23, 24, 25, 26, 27, 28, 29, 30, 31, 32, 33, 34, 35, 36, 37, 38, 39, 40, 41, 42, 43, 44, 45, 46, 47, 48, 49, 50, 51, 52, 53], [53])])
def laws_FnSums.B14 : List Nat := [0, 1, 3, 7, 15, 31, 63, 127, 255, 511, 1023, 2047, 1023, 5119, 16383, 32767, 65535, 131071, 262143, 524287, 1048575, 131071, 4194303, 8388607, 16777215, 33554431, 67108863, 134217727, 268435455, 536870911, 1073741823, 2147483647, 4294967295, 8589934591, 17179869183, 34359738367, 8589934591, 77309411327, 214748364799, 549755813887, 1099511627775, 2199023255551, 4398046511103, 8796093022207, 17592186044415, 35184372088831, 70368744177663, 140737488355327, 17592186044415, 299067162755071, 862017116176383, 1987917023019007, 4503599627370495, 9007199254740991, 18014398509481983]
theorem laws_FnSums.tab14 : rtab .any (opsOf Tryd.f3 14) = laws_FnSums.T14 := by kernel_rfl
theorem laws_FnSums.bits14 : waitsOk laws_FnSums.T14.2 laws_FnSums.B14 = true := by kernel_rfl
set_option maxHeartbeats 8000000 in
set_option maxRecDepth 100000 in
theorem laws_FnSums.calls (k : Nat) (A0 : Option Addr) (c0 : Nat) (l0 : List Int) (r : Bool) (w : World) (hr0 : Kd.C (Kd.int .u8) w A0 l0.length l0) (hc0 : l0.length ≤ c0) (htab_ : Tab.Tab w) (h : laws_FnSums.f k l0 = some r) (hr_ : r = true) :
  Calls Tryd.prog 3 #[.slice A0 l0.length c0] w fun e w' => e = .returned (.bool r) ∧ Below w.heap.size w w' := by
 have HRT_ := Aside0.mk hr_
 clear hr_
 have HTB_ := Aside0.mk htab_
 clear htab_
 have hfd27_0 : ∀ (x0_ x1_ : Value) (w_ : World), Sem.run Tryd.prog (Instr.field 27 (.agg #[x0_, x1_]) 0) w_ = .ok x0_ w_ := fun _ _ _ => by kernel_rfl
 have hfd36_1 : ∀ (x0_ x1_ : Value) (w_ : World), Sem.run Tryd.prog (Instr.field 36 (.agg #[x0_, x1_]) 1) w_ = .ok x1_ w_ := fun _ _ _ => by kernel_rfl
 have hu27 := Tryd.underlying27
 have HR0 := Aside0.mk hr0
 have HC0 := Aside0.mk hc0
 clear hr0 hc0
 have HP := Aside0.mk (Pl.start w)
 have HB := Aside0.mk (Below.refl w.heap.size w)
 have H : ((laws_lwBig.f l0).bind fun t346 => (if t346 = true then (some true) else ((spec_DrawConsolidate.f k l0).bind fun t347 => ((impl_Consolidate.f k t347).bind fun bt350 => (if bt350.1 = 0 then ((impl_Consolidate.f k bt350.2).bind fun bt359 => (laws_FnSums.l0 k t347 0 0 bt350.1 bt350.2 bt359.1 bt359.2)) else ((spec_Consolidate.f k t347).bind fun bt355 => (some (bt355.1 == bt350.1)))))))) = some r := h
 clear h
 obtain ⟨t346, A2, H⟩ := bnd_ H
 try dsimp only at H
 by_cases c3 : t346 = true
 ·subst c3
  rw [if_pos rfl] at H
  obtain rfl := Option.some.inj H
  go_enter Tryd.func3, Tryd.ntmps3
  go_wp2_with (first | (refine gl_ 4 (some 10) Tryd.func4 #[.slice A0 l0.length c0] ?_; (with_reducible refine (laws_lwBig.calls _ _ l0 true _ (Kd.C_below HR0.out HP.out.below) HC0.out A2.out).mono ?_); rintro e wd1 ⟨rfl, hd⟩; refine ⟨_, rfl, ?_⟩; have n_ := Aside0.mk (HP.out.call hd.below); clear HP hd; have HP := n_; clear n_))
  go_ret
  exact ⟨ce_, HP.out.below⟩
 ·replace c3 := Bool.eq_false_iff.mpr c3
  subst c3
  rw [if_neg (show ¬ (false = true) by decide)] at H
  obtain ⟨t347, A4, H⟩ := bnd_ H
  try dsimp only at H
  obtain ⟨⟨t350, t351⟩, A5, H⟩ := bnd_ H
  try dsimp only at H
  by_cases c6 : t350 = 0
  ·rw [if_pos c6] at H
   have c6b0 : (t350 == 0) = true := beq_iff_eq.mpr c6
   have c6b1 : (t350 != 0) = false := bne_eq_false_iff_eq.mpr c6
   clear c6
   obtain ⟨⟨t359, t360⟩, A7, H⟩ := bnd_ H
   try dsimp only at H
   have H' := Aside0.mk H
   clear H
   go_enter Tryd.func3, Tryd.ntmps3
   go_wp2_with (first | (refine gl_ 4 (some 10) Tryd.func4 #[.slice A0 l0.length c0] ?_; (with_reducible refine (laws_lwBig.calls _ _ l0 false _ ?side1 ?side2 A2.out).mono ?_); (case side1 => exact cC_ HR0.out); (case side2 => exact HC0.out); rintro e w' ⟨rfl, ⟨nd, rfl⟩⟩; refine ⟨_, rfl, ?_⟩) | (refine gl_ 5 (some 12) Tryd.func5 #[.slice A0 l0.length c0] ?_; (with_reducible refine (spec_DrawConsolidate.calls k _ _ l0 t347 _ ?side1 ?side2 A4.out).mono ?_); (case side1 => exact cC_ HR0.out); (case side2 => exact HC0.out); rintro e w8 ⟨v348, rfl, ho0, hb⟩; refine ⟨_, rfl, ?_⟩; have HO349 := Aside0.mk (Kd.N_lower (Kd.N_mono (ok' := fun k_ => True) ho0 (fun k_ hk_ => trivial)) (below_size cB0_)); replace HB := Aside0.mk (below_step cB0_ hb); (try clear hb); (try clear hb2); (try clear hk); (try clear hi); (try clear ho0); obtain ⟨Ao9, co9, eo9⟩ := Kd.N_slice HO349.out; subst eo9) | (refine gl_ 6 (some 14) Tryd.func6 #[.slice Ao9 t347.length co9] ?_; (with_reducible refine (impl_Consolidate.calls k _ _ t347 t350 t351 _ ?side1 ?side2 A5.out).mono ?_); (case side1 => exact cC_ ((Kd.N_reads' HO349.out).2.2)); (case side2 => exact (Kd.N_reads' HO349.out).2.1); rintro e w10 ⟨v352, rfl, ho0, hb⟩; refine ⟨_, rfl, ?_⟩; have HO353 := Aside0.mk (Kd.N_lower (Kd.N_mono (ok' := fun k_ => some k_ ≠ (.slice Ao9 t347.length co9 : Value).ownBlock) (Kd.S_N (Kd.S_bound ho0)) (fun k_ hk_ => (Kd.fresh' (Kd.N_lt (cN_ HO349.out)) k_ hk_.2.1))) (below_size cB0_)); replace HO349 := Aside0.mk (Kd.N_elder' (cN_ HO349.out) (Kd.S_base ho0) hb); replace HB := Aside0.mk (below_step cB0_ hb); (try clear hb); (try clear hb2); (try clear hk); (try clear hi); (try clear ho0)) | ((with_reducible refine gate_dst (N := 4) rfl ?_); (try (refine gate_guard (by rfl) ?_; dsimp only)); refine box_event ?hg (N := 4) ?hd (cs := #[.int .i64 0, .slice none 0 0]) (t := 27) ?hr ?_; (case hd => rfl); (case hg => rfl); (case hr => first | (go_simp; done) | (go_simp; rfl)); intro gb354 hg w11 hbox hb; replace HO349 := Aside0.mk (Kd.N_below (Kd.N_elderB (cN_ HO349.out) gb354 (Nat.le_of_eq hg.symm)) hb); replace HO353 := Aside0.mk (Kd.N_below (Kd.N_elderB (cN_ HO353.out) gb354 (Nat.le_of_eq hg.symm)) hb); have BK354 := Aside0.mk (hbox); have GW354 := Aside0.mk ((by rw [hg]; exact (below_size cB0_) : w.heap.size ≤ gb354)); have GE354 := Aside0.mk ((by rw [hg]; exact (below_size cB0_) : w.heap.size ≤ gb354)); replace HB := Aside0.mk (below_step cB0_ hb); clear hb hbox hg; obtain ⟨hcz12_0, hcz12_1, hfz12_0, hfz12_1⟩ := cells2 BK354.out; obtain ⟨Ao13, co13, eo13⟩ := Kd.N_slice HO353.out; subst eo13) | (refine gl_ 6 (some 26) Tryd.func6 #[.slice Ao13 t351.length co13] ?_; (with_reducible refine (impl_Consolidate.calls k _ _ t351 t359 t360 _ ?side1 ?side2 A7.out).mono ?_); (case side1 => refine (Kd.N_reads' (e := 31) (base := w.heap.size) (ok := fun k_ => (some k_ ≠ (.slice Ao9 t347.length co9 : Value).ownBlock ∧ k_ ≠ gb354)) (n := t351.length) (c := co13) ?_).2.2; exact b11_15); (case side2 => exact (Kd.N_reads' HO353.out).2.1); rintro e w14 ⟨v361, rfl, ho0, hb⟩; refine ⟨_, rfl, ?_⟩; have HO362 := Aside0.mk (Kd.N_lower (Kd.N_mono (ok' := fun k_ => some k_ ≠ (.slice Ao9 t347.length co9 : Value).ownBlock ∧ some k_ ≠ (.slice Ao13 t351.length co13 : Value).ownBlock ∧ k_ ≠ gb354) (Kd.S_N (Kd.S_bound ho0)) (fun k_ hk_ => ⟨(Kd.fresh' (Kd.N_lt (by refine cN_ ?_; exact (Kd.N_mono (Kd.N_far (p := ⟨gb354, 1, none⟩) (Kd.N_far (p := ⟨gb354, 0, none⟩) (Kd.N_mono HO349.out (fun k_ hk => (⟨hk, hk.2⟩ : _ ∧ k_ ≠ gb354))) (fun _ hk => hk.2) (.int .i64 t350)) (fun _ hk => hk.2) (.slice Ao13 t351.length co13)) (fun _ h_ => h_.1)))) k_ hk_.2.1), (Kd.fresh' (Kd.N_lt b11_15) k_ hk_.2.1), (Kd.freshB (g := gb354) (o := .cells #[.int .i64 t350, .slice Ao13 t351.length co13] 27 (0, 0)) (by refine cO_ ?_; refine blk_put (cs := #[.int .i64 t350, .slice none 0 0]) ?_ 1 _ rfl; refine cO_ ?_; refine blk_put (cs := #[.int .i64 0, .slice none 0 0]) ?_ 0 _ rfl; refine cO_ ?_; exact BK354.out) k_ hk_.2.1)⟩)) (below_size (cB1_ GE354.out))); replace HO349 := Aside0.mk (Kd.N_elder' (by refine cN_ ?_; exact (Kd.N_mono (Kd.N_far (p := ⟨gb354, 1, none⟩) (Kd.N_far (p := ⟨gb354, 0, none⟩) (Kd.N_mono HO349.out (fun k_ hk => (⟨hk, hk.2⟩ : _ ∧ k_ ≠ gb354))) (fun _ hk => hk.2) (.int .i64 t350)) (fun _ hk => hk.2) (.slice Ao13 t351.length co13)) (fun _ h_ => h_.1))) (Kd.S_base ho0) hb); replace HO353 := Aside0.mk (Kd.N_elder' b11_15 (Kd.S_base ho0) hb); replace BK354 := Aside0.mk (blk_below (g := gb354) (o := .cells #[.int .i64 t350, .slice Ao13 t351.length co13] 27 (0, 0)) (by refine cO_ ?_; refine blk_put (cs := #[.int .i64 t350, .slice none 0 0]) ?_ 1 _ rfl; refine cO_ ?_; refine blk_put (cs := #[.int .i64 0, .slice none 0 0]) ?_ 0 _ rfl; refine cO_ ?_; exact BK354.out) hb); replace HB := Aside0.mk (below_step (cB1_ GE354.out) hb); (try clear hb); (try clear hb2); (try clear hk); (try clear hi); (try clear ho0)) | ((with_reducible refine gate_dst (N := 5) rfl ?_); (try (refine gate_guard (by rfl) ?_; dsimp only)); refine box_event ?hg (N := 5) ?hd (cs := #[.int .i64 0, .slice none 0 0]) (t := 27) ?hr ?_; (case hd => rfl); (case hg => rfl); (case hr => first | (go_simp; done) | (go_simp; rfl)); intro gb363 hg w15 hbox hb; replace HO349 := Aside0.mk (Kd.N_below (Kd.N_elderB (cN_ HO349.out) gb363 (Nat.le_of_eq hg.symm)) hb); replace HO353 := Aside0.mk (Kd.N_below (Kd.N_elderB (cN_ HO353.out) gb363 (Nat.le_of_eq hg.symm)) hb); replace HO362 := Aside0.mk (Kd.N_below (Kd.N_elderB (cN_ HO362.out) gb363 (Nat.le_of_eq hg.symm)) hb); have BK363 := Aside0.mk (hbox); have GW363 := Aside0.mk ((by rw [hg]; exact (below_size (cB1_ GE354.out)) : w.heap.size ≤ gb363)); have GE363 := Aside0.mk ((by rw [hg]; exact (below_size (cB1_ GE354.out)) : w.heap.size ≤ gb363)); replace HB := Aside0.mk (below_step (cB1_ GE354.out) hb); have NB354_363 := Aside0.mk ((by rw [hg]; exact Nat.ne_of_lt (blk_lt (g := gb354) (o := .cells #[.int .i64 t350, .slice Ao13 t351.length co13] 27 (0, 0)) (cO_ BK354.out)) : gb354 ≠ gb363)); have NB363_354 := Aside0.mk ((by rw [hg]; exact Nat.ne_of_gt (blk_lt (g := gb354) (o := .cells #[.int .i64 t350, .slice Ao13 t351.length co13] 27 (0, 0)) (cO_ BK354.out)) : gb363 ≠ gb354)); replace BK354 := Aside0.mk (blk_below (g := gb354) (o := .cells #[.int .i64 t350, .slice Ao13 t351.length co13] 27 (0, 0)) (cO_ BK354.out) hb); clear hb hbox hg; have hnb16 := NB363_354.out; have hnc16 := NB354_363.out; obtain ⟨hcz17_0, hcz17_1, hfz17_0, hfz17_1⟩ := cells2 BK363.out; obtain ⟨Ao18, co18, eo18⟩ := Kd.N_slice HO362.out; subst eo18))
   go_loopg [6, 7] k (fun kq v6 v7 w' => ∃ (x6_1 : Int) (x7_1 : Int), v6 = .int .i64 x6_1 ∧ v7 = .int .i64 x7_1 ∧ Aside0 (laws_FnSums.l0 kq t347 x6_1 x7_1 t350 t351 t359 t360 = some r) ∧ Aside0 (kq ≤ k) ∧ Aside0 (Kd.N k31 31 w' w.heap.size (fun k_ => some k_ ≠ ((.slice Ao13 t351.length co13) : Value).ownBlock ∧ some k_ ≠ ((.slice Ao18 t360.length co18) : Value).ownBlock ∧ k_ ≠ gb354 ∧ k_ ≠ gb363) (.slice Ao9 t347.length co9) t347) ∧ Aside0 (Kd.N k31 31 w' w.heap.size (fun k_ => some k_ ≠ ((.slice Ao9 t347.length co9) : Value).ownBlock ∧ some k_ ≠ ((.slice Ao18 t360.length co18) : Value).ownBlock ∧ k_ ≠ gb354 ∧ k_ ≠ gb363) (.slice Ao13 t351.length co13) t351) ∧ Aside0 (Kd.N k31 31 w' w.heap.size (fun k_ => some k_ ≠ ((.slice Ao9 t347.length co9) : Value).ownBlock ∧ some k_ ≠ ((.slice Ao13 t351.length co13) : Value).ownBlock ∧ k_ ≠ gb354 ∧ k_ ≠ gb363) (.slice Ao18 t360.length co18) t360) ∧ Aside0 (w'.heap[gb354]? = some (.cells #[.int .i64 t350, (.slice Ao13 t351.length co13)] 27 (0, 0))) ∧ Aside0 (w'.heap[gb363]? = some (.cells #[.int .i64 t359, (.slice Ao18 t360.length co18)] 27 (0, 0))) ∧ Aside0 (Below w.heap.size w w'))
   case atStart => exact ⟨(0), (0), cs_, cs_, H', ⟨Nat.le_refl _⟩, ⟨by refine cN_ ?_; exact Kd.N_mono (Kd.N_far (p := ⟨gb363, 1, none⟩) (Kd.N_far (p := ⟨gb363, 0, none⟩) (Kd.N_mono HO349.out (fun k_ hk => (⟨hk, hk.2⟩ : _ ∧ k_ ≠ gb363))) (fun _ hk => hk.2) (.int .i64 t359)) (fun _ hk => hk.2) (.slice Ao18 t360.length co18)) (fun _ hk => ⟨hk.1.1.1.1.2, ⟨hk.1.1.2, ⟨hk.1.1.1.2, hk.1.2⟩⟩⟩)⟩, ⟨by refine cN_ ?_; exact Kd.N_mono (Kd.N_far (p := ⟨gb363, 1, none⟩) (Kd.N_far (p := ⟨gb363, 0, none⟩) (Kd.N_mono HO353.out (fun k_ hk => (⟨hk, hk.2⟩ : _ ∧ k_ ≠ gb363))) (fun _ hk => hk.2) (.int .i64 t359)) (fun _ hk => hk.2) (.slice Ao18 t360.length co18)) (fun _ hk => ⟨hk.1.1.1.1, ⟨hk.1.1.2, ⟨hk.1.1.1.2, hk.1.2⟩⟩⟩)⟩, ⟨by refine cN_ ?_; exact Kd.N_mono (Kd.N_far (p := ⟨gb363, 1, none⟩) (Kd.N_far (p := ⟨gb363, 0, none⟩) (Kd.N_mono HO362.out (fun k_ hk => (⟨hk, hk.2⟩ : _ ∧ k_ ≠ gb363))) (fun _ hk => hk.2) (.int .i64 t359)) (fun _ hk => hk.2) (.slice Ao18 t360.length co18)) (fun _ hk => ⟨hk.1.1.1, ⟨hk.1.1.2.1, ⟨hk.1.1.2.2, hk.1.2⟩⟩⟩)⟩, ⟨by refine cO_ ?_; refine blk_far ?_ NB354_363.out _; refine cO_ ?_; refine blk_far ?_ NB354_363.out _; refine cO_ ?_; exact BK354.out⟩, ⟨by refine cO_ ?_; refine blk_put (cs := #[.int .i64 t359, .slice none 0 0]) ?_ 1 _ rfl; refine cO_ ?_; refine blk_put (cs := #[.int .i64 0, .slice none 0 0]) ?_ 0 _ rfl; refine cO_ ?_; exact BK363.out⟩, ⟨cB2_ GE354.out GE363.out⟩⟩
   case round =>
    clear H'
    try clear c1
    try clear p2
    try clear c3
    try clear c4
    try clear c5
    try clear c6
    try clear c6b0
    try clear c6b1
    try clear c16
    try clear hcz12_0
    try clear hcz12_1
    try clear hcz17_0
    try clear hcz17_1
    try clear hfz12_0
    try clear hfz12_1
    try clear hfz17_0
    try clear hfz17_1
    obtain ⟨x6_1, x7_1, rfl, rfl, HA, HK1, HO_3, HO_355001, HO_364001, BK354, BK363, HB⟩ := hrel
    cases gk with
    | zero => exact absurd HA.out (by simp [laws_FnSums.l0])
    | succ k1 =>
     have H := HA.out
     clear HA
     simp only [laws_FnSums.l0] at H
     by_cases c19 : x7_1 < (t347.length : Int)
     ·rw [if_pos c19] at H
      have c19b0 : decide (x7_1 < (t347.length : Int)) = true := decide_eq_true c19
      clear c19
      by_cases c20 : 0 ≤ x7_1
      ·rw [if_pos c20] at H
       have c20b0 : decide (0 ≤ x7_1) = true := decide_eq_true c20
       clear c20
       have H' := Aside0.mk H
       clear H
       have p364 : 0 ≤ (x7_1 : Int) := of_decide_eq_true ca_
       have q364 : x7_1 < (t347.length : Int) := of_decide_eq_true ca_
       obtain ⟨ad364, A364_0, c364_0, e364, hx364_0, hx364_1, hl364_0, hi364_0⟩ := at_T31 (Kd.N_reads' HO_3.out).2.2 x7_1 p364 q364
       cases e364
       obtain ⟨ce364, hce364, hMe364, hcc364⟩ := Kd.N_get HO_3.out z31 x7_1 p364 (by first | exact q364 | exact of_decide_eq_true ca_ | (have e_ := (Kd.N_reads' HO_3.out).1; omega))
       obtain ⟨ua364_0, uc364_0, rfl, ul364_0, ge364_0⟩ := k31_openF hMe364
       have hv364_0 := hcc364 0 _ rfl
       rw [Nat.add_zero] at hv364_0
       replace hv364_0 := Option.some.inj (hv364_0.symm.trans hx364_0)
       injection hv364_0 with hva_ hvn_ hvc_
       rw [hva_] at ge364_0
       rw [hvc_] at ul364_0
       have HL364_0 := Aside0.mk (show Kd.V (Kd.int .i64) 2 _ w.heap.size _ _ ((rd_T31 t347 x7_1).f0) from Kd.V_mk ul364_0 ge364_0)
       clear hva_ hvn_ hvc_ ge364_0 ul364_0
       clear hcc364 hce364
       have HR364_0 := Aside0.mk hi364_0
       have HC364_0 := Aside0.mk hl364_0
       clear hi364_0 hl364_0
       replace p364 := eq_true p364
       replace q364 := eq_true q364
       go_wp2
       go_roundg k1
       case measure => have := HK1.out; omega
       case rel => exact ⟨(wrap64 (x6_1 + ((rd_T31 t347 x7_1).f1))), (wrap64 (x7_1 + 1)), cs_, cs_, H', ⟨co_ HK1.out⟩, ⟨cN_ HO_3.out⟩, ⟨cN_ HO_355001.out⟩, ⟨cN_ HO_364001.out⟩, ⟨cO_ BK354.out⟩, ⟨cO_ BK363.out⟩, ⟨cB2_ GE354.out GE363.out⟩⟩
      ·rw [if_neg c20] at H
       exact absurd H (by simp)
     ·rw [if_neg c19] at H
      have c19b0 : decide (x7_1 < (t347.length : Int)) = false := decide_eq_false c19
      clear c19
      obtain ⟨⟨t365, t366⟩, A21, H⟩ := bnd_ H
      try dsimp only at H
      obtain ⟨t370, A22, H⟩ := bnd_ H
      try dsimp only at H
      by_cases c23 : t370 = 0
      ·rw [if_pos c23] at H
       have c23b0 : (t370 == 0) = true := beq_iff_eq.mpr c23
       have c23b1 : (t370 != 0) = false := bne_eq_false_iff_eq.mpr c23
       clear c23
       by_cases c24 : t359 = 0
       ·rw [if_pos c24] at H
        have c24b0 : (t359 == 0) = true := beq_iff_eq.mpr c24
        have c24b1 : (t359 != 0) = false := bne_eq_false_iff_eq.mpr c24
        clear c24
        obtain ⟨t371, A25, H⟩ := bnd_ H
        try dsimp only at H
        by_cases c26 : t371 = true
        ·subst c26
         rw [if_pos rfl] at H
         obtain ⟨⟨t372, t373⟩, A27, H⟩ := bnd_ H
         try dsimp only at H
         by_cases c28 : t373 = x6_1
         ·rw [if_pos c28] at H
          have c28b0 : (t373 == x6_1) = true := beq_iff_eq.mpr c28
          have c28b1 : (t373 != x6_1) = false := bne_eq_false_iff_eq.mpr c28
          clear c28
          by_cases c29 : t365 = 8
          ·rw [if_pos c29] at H
           have c29b0 : (t365 == 8) = true := beq_iff_eq.mpr c29
           have c29b1 : (t365 != 8) = false := bne_eq_false_iff_eq.mpr c29
           clear c29
           obtain ⟨t374, A30, H⟩ := bnd_ H
           try dsimp only at H
           obtain rfl := Option.some.inj H
           have HP := Aside0.mk (Pl.all HB.out ((Held.row0 HO_3.out).both ((Held.row0 HO_355001.out).both ((Held.row0 HO_364001.out).both ((Held.blk BK354.out).both (Held.blk BK363.out))))))
           clear HB HO_3 HO_355001 HO_364001 BK354 BK363
           have hnb31 := NB354_363.out
           have hnc31 := NB363_354.out
           obtain ⟨hcz32_0, hcz32_1, hfz32_0, hfz32_1⟩ := cells2 HP.out.at0.2.2.2.1
           try go_wp2_with (first | (refine gl_ 8 (some 42) Tryd.func8 #[.slice Ao13 t351.length co13, .int .i64 2] ?_; (with_reducible refine (impl_ScaleSet.calls k1 _ _ t351 2 t365 t366 _ HP.out.at0.2.1.1 HP.out.at0.2.1.2 A21.out).mono ?_); rintro e w33 ⟨v367, rfl, ho0, hb⟩; refine ⟨_, rfl, ?_⟩; obtain ⟨Ao38, co38, eo_⟩ := Kd.S_slice ho0; subst eo_; have n_ := Aside0.mk (HP.out.newS hb ho0); clear HP hb ho0; have HP := n_; clear n_) | ((with_reducible refine gate_dst (N := 8) rfl ?_); (try (refine gate_guard (by rfl) ?_; dsimp only)); refine box_event ?hg (N := 8) ?hd (cs := #[.int .i64 0, .slice none 0 0]) (t := 27) ?hr ?_; (case hd => rfl); (case hg => rfl); (case hr => first | (go_simp; done) | (go_simp; rfl)); intro gb369 hg w34 hbox hb; have HX := Aside0.mk (And.intro hg (And.intro hbox hb)); have hnb35 := (Pl.ne hg HP.out.at1.2.2.2.1).2; have hnc35 := (Pl.ne hg HP.out.at1.2.2.2.1).1; have hnb36 := (Pl.ne hg HP.out.at1.2.2.2.2).2; have hnc36 := (Pl.ne hg HP.out.at1.2.2.2.2).1; obtain ⟨hcz37_0, hcz37_1, hfz37_0, hfz37_1⟩ := cells2 hbox; clear hb hbox hg))
           refine (HP.out.box2 HX.out).atRegion ?_
           intro wr283 hp_
           clear HP HX
           have HP := Aside0.mk hp_
           clear hp_
           refine start_ (n := 55) (S := fun w' => Aside0 (Pl w w' _)) (ds := []) (bl 55 0) (by kernel_rfl) rfl rfl ⟨HP.out.drew⟩ (fun hp_ => ?_); refine with_tabW laws_FnSums.tab14 laws_FnSums.bits14 (fun HT_ HW_ => ?_)
           clear HP
           generalize wr283.drew = wr283d at hp_ ⊢
           have HP := hp_
           clear hp_
           refine pu_ 0 (some 43) (bl 55 1) HT_.out rfl ?_
           refine tw_ 1 (some 44) (bl 55 3) HT_.out HW_.out rfl HP tl0 ?_
           refine on_ 2 (some 45) (bl 55 7) HT_.out rfl (fun K hK => ?_)
           refine goes_ Tryd.func9 (by kernel_rfl) rfl #[.slice Ao13 t351.length co13] (by rfl) rfl rfl cx_ ?_
           with_reducible refine (impl_SetFault.calls k1 _ _ t351 t370 _ HP.out.at2.2.1.1 HP.out.at2.2.1.2 A22.out).mono ?_
           rintro e w41 ⟨rfl, hb⟩
           refine ⟨_, rfl, ?_⟩
           have n_ := Aside0.mk (HP.out.call hb)
           clear HP hb
           have HP := n_
           clear n_
           refine hK.out _ _ HP (fun hp_ => ?_)
           clear hK K HP
           have HP := hp_
           clear hp_
           refine nm_ (some 45) ?_
           refine pu_ 3 (some 46) (bl 55 15) HT_.out rfl ?_
           refine pu_ 4 (some 47) (bl 55 31) HT_.out rfl ?_
           refine pu_ 5 (some 48) (bl 55 63) HT_.out rfl ?_
           refine tw_ 6 (some 49) (bl 55 127) HT_.out HW_.out rfl HP tl0 ?_
           refine pu_ 7 (some 50) (bl 55 255) HT_.out rfl ?_
           refine pu_ 8 (some 51) (bl 55 511) HT_.out rfl ?_
           refine pu_ 9 (some 52) (bl 55 1023) HT_.out rfl ?_
           refine pu_ 10 (some 53) (bl 55 2047) HT_.out rfl ?_
           refine pu_ 12 (some 55) (bl 55 6143) HT_.out rfl ?_
           refine tw_ 11 (some 54) (bl 55 8191) HT_.out HW_.out rfl HP tl0 ?_
           refine tw_ 13 (some 56) (bl 55 16383) HT_.out HW_.out rfl HP tl0 ?_
           refine on_ 14 (some 57) (bl 55 32767) HT_.out rfl (fun K hK => ?_)
           refine goes_ Tryd.func10 (by kernel_rfl) rfl #[.slice Ao18 t360.length co18, .slice Ao13 t351.length co13] (by rfl) rfl rfl cx_ ?_
           with_reducible refine (impl_SameSets.calls k1 _ _ t360 _ _ t351 true _ HP.out.at2.2.2.1.1 HP.out.at2.2.2.1.2 HP.out.at2.2.1.1 HP.out.at2.2.1.2 A25.out).mono ?_
           rintro e w42 ⟨rfl, hb⟩
           refine ⟨_, rfl, ?_⟩
           have n_ := Aside0.mk (HP.out.call hb)
           clear HP hb
           have HP := n_
           clear n_
           refine hK.out _ _ HP (fun hp_ => ?_)
           clear hK K HP
           have HP := hp_
           clear hp_
           refine nm_ (some 57) ?_
           refine pu_ 15 (some 58) (bl 55 65535) HT_.out rfl ?_
           refine pu_ 16 (some 59) (bl 55 131071) HT_.out rfl ?_
           refine pu_ 17 (some 60) (bl 55 262143) HT_.out rfl ?_
           refine pu_ 21 (some 64) (bl 55 2359295) HT_.out rfl ?_
           refine tw_ 18 (some 61) (bl 55 2621439) HT_.out HW_.out rfl HP tl0 ?_
           refine on_ 19 (some 62) (bl 55 3145727) HT_.out rfl (fun K hK => ?_)
           refine goes_ Tryd.func11 (by kernel_rfl) rfl #[.slice Ao13 t351.length co13] (by rfl) rfl rfl cx_ ?_
           with_reducible refine (impl_TotalWeight.calls k1 _ _ t351 t372 t373 _ HP.out.at2.2.1.1 HP.out.at2.2.1.2 A27.out).mono ?_
           rintro e w43 ⟨rfl, hb⟩
           refine ⟨_, rfl, ?_⟩
           have n_ := Aside0.mk (HP.out.call hb)
           clear HP hb
           have HP := n_
           clear n_
           refine hK.out _ _ HP (fun hp_ => ?_)
           clear hK K HP
           have HP := hp_
           clear hp_
           refine nm_ (some 62) ?_
           refine pu_ 20 (some 63) (bl 55 4194303) HT_.out rfl ?_
           refine pu_ 22 (some 65) (bl 55 8388607) HT_.out rfl ?_
           refine pu_ 23 (some 66) (bl 55 16777215) HT_.out rfl ?_
           refine pu_ 24 (some 67) (bl 55 33554431) HT_.out rfl ?_
           refine pu_ 25 (some 68) (bl 55 67108863) HT_.out rfl ?_
           refine tw_ 26 (some 69) (bl 55 134217727) HT_.out HW_.out rfl HP tl0 ?_
           refine pu_ 27 (some 70) (bl 55 268435455) HT_.out rfl ?_
           refine pu_ 28 (some 71) (bl 55 536870911) HT_.out rfl ?_
           refine un_ 29 (some 72) (bl 55 1073741823) HT_.out rfl ?_
           refine un_ 30 (some 73) (bl 55 2147483647) HT_.out rfl ?_
           refine un_ 31 (some 74) (bl 55 4294967295) HT_.out rfl ?_
           refine un_ 32 (some 75) (bl 55 8589934591) HT_.out rfl ?_
           refine un_ 33 (some 76) (bl 55 17179869183) HT_.out rfl ?_
           refine un_ 34 (some 77) (bl 55 34359738367) HT_.out rfl ?_
           refine un_ 35 (some 78) (bl 55 68719476735) HT_.out rfl ?_
           refine un_ 36 (some 79) (bl 55 137438953471) HT_.out rfl ?_
           refine un_ 37 (some 80) (bl 55 274877906943) HT_.out rfl ?_
           refine un_ 38 (some 81) (bl 55 549755813887) HT_.out rfl ?_
           refine un_ 39 (some 82) (bl 55 1099511627775) HT_.out rfl ?_
           refine un_ 40 (some 83) (bl 55 2199023255551) HT_.out rfl ?_
           refine pu_ 41 (some 84) (bl 55 4398046511103) HT_.out rfl ?_
           refine pu_ 42 (some 85) (bl 55 8796093022207) HT_.out rfl ?_
           refine pu_ 43 (some 86) (bl 55 17592186044415) HT_.out rfl ?_
           refine pu_ 44 (some 87) (bl 55 35184372088831) HT_.out rfl ?_
           refine pu_ 48 (some 91) (bl 55 316659348799487) HT_.out rfl ?_
           refine tw_ 45 (some 88) (bl 55 351843720888319) HT_.out HW_.out rfl HP tl0 ?_
           refine tw_ 49 (some 92) (bl 55 914793674309631) HT_.out HW_.out rfl HP tl0 ?_
           refine pu_ 50 (some 93) (bl 55 2040693581152255) HT_.out rfl ?_
           refine pu_ 51 (some 94) (bl 55 4292493394837503) HT_.out rfl ?_
           refine on_ 46 (some 89) (bl 55 4362862139015167) HT_.out rfl (fun K hK => ?_)
           refine goes_ Tryd.func12 (by kernel_rfl) rfl #[.slice Ao13 t351.length co13] (by rfl) rfl rfl cx_ ?_
           with_reducible refine (impl_SetText.calls k1 _ _ t351 t374 _ HP.out.at2.2.1.1 HP.out.at2.2.1.2 (Tab.tabB HTB_.out HP.out.below) A30.out).mono ?_
           rintro e w44 ⟨rfl, hb⟩
           refine ⟨_, rfl, ?_⟩
           have n_ := Aside0.mk (HP.out.call hb)
           clear HP hb
           have HP := n_
           clear n_
           refine hK.out _ _ HP (fun hp_ => ?_)
           clear hK K HP
           have HP := hp_
           clear hp_
           refine nm_ (some 89) ?_
           refine pu_ 47 (some 90) (bl 55 4503599627370495) HT_.out rfl ?_
           refine pu_ 52 (some 95) (bl 55 9007199254740991) HT_.out rfl ?_
           refine pu_ 53 (some 96) (bl 55 18014398509481983) HT_.out rfl ?_
           refine pu_ 54 (some 2) (bl 55 36028797018963967) HT_.out rfl ?_
           refine done_ (done_of HT_.out (by kernel_rfl)) ?_
           try go_wp2
           go_ret
           exact ⟨ce_, HP.out.below⟩
          ·rw [if_neg c29] at H
           have c29b0 : (t365 == 8) = false := beq_eq_false_iff_ne.mpr c29
           have c29b1 : (t365 != 8) = true := bne_iff_ne.mpr c29
           by_cases c45 : t365 = 0
           ·rw [if_pos c45] at H
            have c45b0 : (t365 == 0) = true := beq_iff_eq.mpr c45
            have c45b1 : (t365 != 0) = false := bne_eq_false_iff_eq.mpr c45
            clear c45
            by_cases c46 : (t366.length : Int) = (t351.length : Int)
            ·rw [if_pos c46] at H
             have c46b0 : ((t366.length : Int) == (t351.length : Int)) = true := beq_iff_eq.mpr c46
             have c46b1 : ((t366.length : Int) != (t351.length : Int)) = false := bne_eq_false_iff_eq.mpr c46
             have c46b2 : (t366.length == t351.length) = true := by first | simpa using c46 | (simp at c46 ⊢; omega)
             clear c46
             obtain ⟨t375, A47, H⟩ := bnd_ H
             try dsimp only at H
             obtain rfl := Option.some.inj H
             have HP := Aside0.mk (Pl.all HB.out ((Held.row0 HO_3.out).both ((Held.row0 HO_355001.out).both ((Held.row0 HO_364001.out).both ((Held.blk BK354.out).both (Held.blk BK363.out))))))
             clear HB HO_3 HO_355001 HO_364001 BK354 BK363
             have hnb48 := NB354_363.out
             have hnc48 := NB363_354.out
             obtain ⟨hcz49_0, hcz49_1, hfz49_0, hfz49_1⟩ := cells2 HP.out.at0.2.2.2.1
             try go_wp2_with (first | (refine gl_ 8 (some 42) Tryd.func8 #[.slice Ao13 t351.length co13, .int .i64 2] ?_; (with_reducible refine (impl_ScaleSet.calls k1 _ _ t351 2 t365 t366 _ HP.out.at0.2.1.1 HP.out.at0.2.1.2 A21.out).mono ?_); rintro e w50 ⟨v367, rfl, ho0, hb⟩; refine ⟨_, rfl, ?_⟩; obtain ⟨Ao55, co55, eo_⟩ := Kd.S_slice ho0; subst eo_; have n_ := Aside0.mk (HP.out.newS hb ho0); clear HP hb ho0; have HP := n_; clear n_) | ((with_reducible refine gate_dst (N := 8) rfl ?_); (try (refine gate_guard (by rfl) ?_; dsimp only)); refine box_event ?hg (N := 8) ?hd (cs := #[.int .i64 0, .slice none 0 0]) (t := 27) ?hr ?_; (case hd => rfl); (case hg => rfl); (case hr => first | (go_simp; done) | (go_simp; rfl)); intro gb369 hg w51 hbox hb; have HX := Aside0.mk (And.intro hg (And.intro hbox hb)); have hnb52 := (Pl.ne hg HP.out.at1.2.2.2.1).2; have hnc52 := (Pl.ne hg HP.out.at1.2.2.2.1).1; have hnb53 := (Pl.ne hg HP.out.at1.2.2.2.2).2; have hnc53 := (Pl.ne hg HP.out.at1.2.2.2.2).1; obtain ⟨hcz54_0, hcz54_1, hfz54_0, hfz54_1⟩ := cells2 hbox; clear hb hbox hg))
             refine (HP.out.box2 HX.out).atRegion ?_
             intro wr430 hp_
             clear HP HX
             have HP := Aside0.mk hp_
             clear hp_
             refine start_ (n := 55) (S := fun w' => Aside0 (Pl w w' _)) (ds := []) (bl 55 0) (by kernel_rfl) rfl rfl ⟨HP.out.drew⟩ (fun hp_ => ?_); refine with_tabW laws_FnSums.tab14 laws_FnSums.bits14 (fun HT_ HW_ => ?_)
             clear HP
             generalize wr430.drew = wr430d at hp_ ⊢
             have HP := hp_
             clear hp_
             refine pu_ 0 (some 43) (bl 55 1) HT_.out rfl ?_
             refine tw_ 1 (some 44) (bl 55 3) HT_.out HW_.out rfl HP tl0 ?_
             refine on_ 2 (some 45) (bl 55 7) HT_.out rfl (fun K hK => ?_)
             refine goes_ Tryd.func9 (by kernel_rfl) rfl #[.slice Ao13 t351.length co13] (by rfl) rfl rfl cx_ ?_
             with_reducible refine (impl_SetFault.calls k1 _ _ t351 t370 _ HP.out.at2.2.1.1 HP.out.at2.2.1.2 A22.out).mono ?_
             rintro e w58 ⟨rfl, hb⟩
             refine ⟨_, rfl, ?_⟩
             have n_ := Aside0.mk (HP.out.call hb)
             clear HP hb
             have HP := n_
             clear n_
             refine hK.out _ _ HP (fun hp_ => ?_)
             clear hK K HP
             have HP := hp_
             clear hp_
             refine nm_ (some 45) ?_
             refine pu_ 3 (some 46) (bl 55 15) HT_.out rfl ?_
             refine pu_ 4 (some 47) (bl 55 31) HT_.out rfl ?_
             refine pu_ 5 (some 48) (bl 55 63) HT_.out rfl ?_
             refine tw_ 6 (some 49) (bl 55 127) HT_.out HW_.out rfl HP tl0 ?_
             refine pu_ 7 (some 50) (bl 55 255) HT_.out rfl ?_
             refine pu_ 8 (some 51) (bl 55 511) HT_.out rfl ?_
             refine pu_ 9 (some 52) (bl 55 1023) HT_.out rfl ?_
             refine pu_ 10 (some 53) (bl 55 2047) HT_.out rfl ?_
             refine pu_ 12 (some 55) (bl 55 6143) HT_.out rfl ?_
             refine tw_ 11 (some 54) (bl 55 8191) HT_.out HW_.out rfl HP tl0 ?_
             refine tw_ 13 (some 56) (bl 55 16383) HT_.out HW_.out rfl HP tl0 ?_
             refine on_ 14 (some 57) (bl 55 32767) HT_.out rfl (fun K hK => ?_)
             refine goes_ Tryd.func10 (by kernel_rfl) rfl #[.slice Ao18 t360.length co18, .slice Ao13 t351.length co13] (by rfl) rfl rfl cx_ ?_
             with_reducible refine (impl_SameSets.calls k1 _ _ t360 _ _ t351 true _ HP.out.at2.2.2.1.1 HP.out.at2.2.2.1.2 HP.out.at2.2.1.1 HP.out.at2.2.1.2 A25.out).mono ?_
             rintro e w59 ⟨rfl, hb⟩
             refine ⟨_, rfl, ?_⟩
             have n_ := Aside0.mk (HP.out.call hb)
             clear HP hb
             have HP := n_
             clear n_
             refine hK.out _ _ HP (fun hp_ => ?_)
             clear hK K HP
             have HP := hp_
             clear hp_
             refine nm_ (some 57) ?_
             refine pu_ 15 (some 58) (bl 55 65535) HT_.out rfl ?_
             refine pu_ 16 (some 59) (bl 55 131071) HT_.out rfl ?_
             refine pu_ 17 (some 60) (bl 55 262143) HT_.out rfl ?_
             refine pu_ 21 (some 64) (bl 55 2359295) HT_.out rfl ?_
             refine tw_ 18 (some 61) (bl 55 2621439) HT_.out HW_.out rfl HP tl0 ?_
             refine on_ 19 (some 62) (bl 55 3145727) HT_.out rfl (fun K hK => ?_)
             refine goes_ Tryd.func11 (by kernel_rfl) rfl #[.slice Ao13 t351.length co13] (by rfl) rfl rfl cx_ ?_
             with_reducible refine (impl_TotalWeight.calls k1 _ _ t351 t372 t373 _ HP.out.at2.2.1.1 HP.out.at2.2.1.2 A27.out).mono ?_
             rintro e w60 ⟨rfl, hb⟩
             refine ⟨_, rfl, ?_⟩
             have n_ := Aside0.mk (HP.out.call hb)
             clear HP hb
             have HP := n_
             clear n_
             refine hK.out _ _ HP (fun hp_ => ?_)
             clear hK K HP
             have HP := hp_
             clear hp_
             refine nm_ (some 62) ?_
             refine pu_ 20 (some 63) (bl 55 4194303) HT_.out rfl ?_
             refine pu_ 22 (some 65) (bl 55 8388607) HT_.out rfl ?_
             refine pu_ 23 (some 66) (bl 55 16777215) HT_.out rfl ?_
             refine pu_ 24 (some 67) (bl 55 33554431) HT_.out rfl ?_
             refine pu_ 25 (some 68) (bl 55 67108863) HT_.out rfl ?_
             refine tw_ 26 (some 69) (bl 55 134217727) HT_.out HW_.out rfl HP tl0 ?_
             refine pu_ 27 (some 70) (bl 55 268435455) HT_.out rfl ?_
             refine pu_ 28 (some 71) (bl 55 536870911) HT_.out rfl ?_
             refine pu_ 29 (some 72) (bl 55 1073741823) HT_.out rfl ?_
             refine tw_ 30 (some 73) (bl 55 2147483647) HT_.out HW_.out rfl HP tl0 ?_
             refine pu_ 31 (some 74) (bl 55 4294967295) HT_.out rfl ?_
             refine pu_ 32 (some 75) (bl 55 8589934591) HT_.out rfl ?_
             refine pu_ 33 (some 76) (bl 55 17179869183) HT_.out rfl ?_
             refine pu_ 36 (some 79) (bl 55 85899345919) HT_.out rfl ?_
             refine tw_ 34 (some 77) (bl 55 103079215103) HT_.out HW_.out rfl HP tl0 ?_
             refine pu_ 35 (some 78) (bl 55 137438953471) HT_.out rfl ?_
             refine tw_ 37 (some 80) (bl 55 274877906943) HT_.out HW_.out rfl HP tl0 ?_
             refine pu_ 38 (some 81) (bl 55 549755813887) HT_.out rfl ?_
             refine pu_ 39 (some 82) (bl 55 1099511627775) HT_.out rfl ?_
             refine pu_ 40 (some 83) (bl 55 2199023255551) HT_.out rfl ?_
             refine pu_ 41 (some 84) (bl 55 4398046511103) HT_.out rfl ?_
             refine pu_ 42 (some 85) (bl 55 8796093022207) HT_.out rfl ?_
             refine pu_ 43 (some 86) (bl 55 17592186044415) HT_.out rfl ?_
             refine pu_ 44 (some 87) (bl 55 35184372088831) HT_.out rfl ?_
             refine pu_ 48 (some 91) (bl 55 316659348799487) HT_.out rfl ?_
             refine tw_ 45 (some 88) (bl 55 351843720888319) HT_.out HW_.out rfl HP tl0 ?_
             refine tw_ 49 (some 92) (bl 55 914793674309631) HT_.out HW_.out rfl HP tl0 ?_
             refine pu_ 50 (some 93) (bl 55 2040693581152255) HT_.out rfl ?_
             refine pu_ 51 (some 94) (bl 55 4292493394837503) HT_.out rfl ?_
             refine on_ 46 (some 89) (bl 55 4362862139015167) HT_.out rfl (fun K hK => ?_)
             refine goes_ Tryd.func12 (by kernel_rfl) rfl #[.slice Ao13 t351.length co13] (by rfl) rfl rfl cx_ ?_
             with_reducible refine (impl_SetText.calls k1 _ _ t351 t375 _ HP.out.at2.2.1.1 HP.out.at2.2.1.2 (Tab.tabB HTB_.out HP.out.below) A47.out).mono ?_
             rintro e w61 ⟨rfl, hb⟩
             refine ⟨_, rfl, ?_⟩
             have n_ := Aside0.mk (HP.out.call hb)
             clear HP hb
             have HP := n_
             clear n_
             refine hK.out _ _ HP (fun hp_ => ?_)
             clear hK K HP
             have HP := hp_
             clear hp_
             refine nm_ (some 89) ?_
             refine pu_ 47 (some 90) (bl 55 4503599627370495) HT_.out rfl ?_
             refine pu_ 52 (some 95) (bl 55 9007199254740991) HT_.out rfl ?_
             refine pu_ 53 (some 96) (bl 55 18014398509481983) HT_.out rfl ?_
             refine pu_ 54 (some 2) (bl 55 36028797018963967) HT_.out rfl ?_
             refine done_ (done_of HT_.out (by kernel_rfl)) ?_
             try go_wp2
             go_ret
             exact ⟨ce_, HP.out.below⟩
            ·rw [if_neg c46] at H
             have c46b0 : ((t366.length : Int) == (t351.length : Int)) = false := beq_eq_false_iff_ne.mpr c46
             have c46b1 : ((t366.length : Int) != (t351.length : Int)) = true := bne_iff_ne.mpr c46
             have c46b2 : (t366.length == t351.length) = false := by first | simpa using c46 | (simp at c46 ⊢; omega)
             exact absurd ((Option.some.inj H).trans HRT_.out) (by decide)
           ·rw [if_neg c45] at H
            have c45b0 : (t365 == 0) = false := beq_eq_false_iff_ne.mpr c45
            have c45b1 : (t365 != 0) = true := bne_iff_ne.mpr c45
            exact absurd ((Option.some.inj H).trans HRT_.out) (by decide)
         ·rw [if_neg c28] at H
          have c28b0 : (t373 == x6_1) = false := beq_eq_false_iff_ne.mpr c28
          have c28b1 : (t373 != x6_1) = true := bne_iff_ne.mpr c28
          exact absurd ((Option.some.inj H).trans HRT_.out) (by decide)
        ·replace c26 := Bool.eq_false_iff.mpr c26
         subst c26
         rw [if_neg (show ¬ (false = true) by decide)] at H
         exact absurd ((Option.some.inj H).trans HRT_.out) (by decide)
       ·rw [if_neg c24] at H
        have c24b0 : (t359 == 0) = false := beq_eq_false_iff_ne.mpr c24
        have c24b1 : (t359 != 0) = true := bne_iff_ne.mpr c24
        exact absurd ((Option.some.inj H).trans HRT_.out) (by decide)
      ·rw [if_neg c23] at H
       have c23b0 : (t370 == 0) = false := beq_eq_false_iff_ne.mpr c23
       have c23b1 : (t370 != 0) = true := bne_iff_ne.mpr c23
       exact absurd ((Option.some.inj H).trans HRT_.out) (by decide)
  ·rw [if_neg c6] at H
   have c6b0 : (t350 == 0) = false := beq_eq_false_iff_ne.mpr c6
   have c6b1 : (t350 != 0) = true := bne_iff_ne.mpr c6
   obtain ⟨⟨t355, t356⟩, A135, H⟩ := bnd_ H
   try dsimp only at H
   obtain rfl := Option.some.inj H
   go_enter Tryd.func3, Tryd.ntmps3
   try go_wp2_with (first | (refine gl_ 4 (some 10) Tryd.func4 #[.slice A0 l0.length c0] ?_; (with_reducible refine (laws_lwBig.calls _ _ l0 false _ (Kd.C_below HR0.out HP.out.below) HC0.out A2.out).mono ?_); rintro e wd1 ⟨rfl, hd⟩; refine ⟨_, rfl, ?_⟩; have n_ := Aside0.mk (HP.out.call hd.below); clear HP hd; have HP := n_; clear n_) | (refine gl_ 5 (some 12) Tryd.func5 #[.slice A0 l0.length c0] ?_; (with_reducible refine (spec_DrawConsolidate.calls k _ _ l0 t347 _ (Kd.C_below HR0.out HP.out.below) HC0.out A4.out).mono ?_); rintro e w136 ⟨v348, rfl, ho0, hb⟩; refine ⟨_, rfl, ?_⟩; obtain ⟨Ao137, co137, eo_⟩ := Kd.N_slice ho0; subst eo_; have n_ := Aside0.mk (HP.out.newN hb ho0 (fun _ hk => hk)); clear HP hb ho0; have HP := n_; clear n_) | (refine gl_ 6 (some 14) Tryd.func6 #[.slice Ao137 t347.length co137] ?_; (with_reducible refine (impl_Consolidate.calls k _ _ t347 t350 t351 _ HP.out.at0.1 HP.out.at0.2 A5.out).mono ?_); rintro e w138 ⟨v352, rfl, ho0, hb⟩; refine ⟨_, rfl, ?_⟩; obtain ⟨Ao141, co141, eo_⟩ := Kd.S_slice ho0; subst eo_; have n_ := Aside0.mk (HP.out.newS hb ho0); clear HP hb ho0; have HP := n_; clear n_) | ((with_reducible refine gate_dst (N := 4) rfl ?_); (try (refine gate_guard (by rfl) ?_; dsimp only)); refine box_event ?hg (N := 4) ?hd (cs := #[.int .i64 0, .slice none 0 0]) (t := 27) ?hr ?_; (case hd => rfl); (case hg => rfl); (case hr => first | (go_simp; done) | (go_simp; rfl)); intro gb354 hg w139 hbox hb; have HX := Aside0.mk (And.intro hg (And.intro hbox hb)); obtain ⟨hcz140_0, hcz140_1, hfz140_0, hfz140_1⟩ := cells2 hbox; clear hb hbox hg))
   refine (HP.out.box2 HX.out).atRegion ?_
   intro wr595 hp_
   clear HP HX
   have HP := Aside0.mk hp_
   clear hp_
   refine start_ (n := 7) (S := fun w' => Aside0 (Pl w w' _)) (ds := []) (bl 7 0) (by kernel_rfl) rfl rfl ⟨HP.out.drew⟩ (fun hp_ => ?_); skip
   clear HP
   generalize wr595.drew = wr595d at hp_ ⊢
   have HP := hp_
   clear hp_
   refine pk_ 0 (some 18) (bl 7 1) rfl ?_
   refine pk_ 3 (some 21) (bl 7 9) rfl ?_
   refine tk_ 4 (some 22) (bl 7 25) rfl HP tl1 ?_
   refine ok_ 1 (some 19) (bl 7 27) rfl (fun K hK => ?_)
   refine goes_ Tryd.func7 (by kernel_rfl) rfl #[.slice Ao137 t347.length co137] (by rfl) rfl rfl cx_ ?_
   with_reducible refine (spec_Consolidate.calls k _ _ t347 t355 t356 _ HP.out.at2.1 HP.out.at2.2 A135.out).mono ?_
   rintro e w144 ⟨v357, rfl, ho0, hb⟩
   refine ⟨_, rfl, ?_⟩
   have n_ := Aside0.mk (HP.out.call hb)
   clear HP hb ho0
   have HP := n_
   clear n_
   refine hK.out _ _ HP (fun hp_ => ?_)
   clear hK K HP
   have HP := hp_
   clear hp_
   refine nm_ (some 19) ?_
   refine pk_ 2 (some 20) (bl 7 31) rfl ?_
   refine pk_ 5 (some 23) (bl 7 63) rfl ?_
   refine pk_ 6 (some 2) (bl 7 127) rfl ?_
   refine done_ (by kernel_rfl) ?_
   try go_wp2
   go_ret
   exact ⟨ce_, HP.out.below⟩

/-- THE ONE PURE STATEMENT of laws_FnSums. -/
def laws_FnSums.Pure : Prop := ∀ (l0 : List Int), (fun l : List Int => l.length ≤ maxLen ∧ ∀ y ∈ l, (fun x : Int => (Lit.int .u8 x).wf = true) y) l0 → l0.length * 1 ≤ 140737488351232 → ∃ k, laws_FnSums.f k l0 = some true

end Go.Proofs.YthgmicingbjemaaDoor.PFnSums
