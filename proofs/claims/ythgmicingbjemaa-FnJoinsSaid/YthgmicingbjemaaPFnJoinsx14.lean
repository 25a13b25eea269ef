-- Written by fprint, a program of this session, out of Lean's own print of the translation. Lean checks it.
import Derived.Test.YthgmicingbjemaaPile
import Derived.Test.YthgmicingbjemaaDense
import Derived.Test.YthgmicingbjemaaShort
import Derived.Test.YthgmicingbjemaaPFnJoinsx0
import Derived.Test.YthgmicingbjemaaPFnJoinsx1
import Derived.Test.YthgmicingbjemaaPFnJoinsx2
import Derived.Test.YthgmicingbjemaaPFnJoinsx3
import Derived.Test.YthgmicingbjemaaPFnJoinsx5
import Derived.Test.YthgmicingbjemaaPFnJoinsx10
import Derived.Test.YthgmicingbjemaaPFnJoinsx11
import Derived.Test.YthgmicingbjemaaPFnJoinsx13
namespace Go.Proofs.Ythgmicingbjemaa.PFnJoins
open Go.RowKit Go.Proofs.YthgmicingbjemaaW.PrintWords Go.Proofs.YthgmicingbjemaaW.PrintLast Go.Proofs.YthgmicingbjemaaW.PrintMore
attribute [local go_sem] max2_int min2_int max_two min_two max_three min_three max_four min_four
set_option linter.unusedVariables false
set_option maxHeartbeats 8000000
set_option maxRecDepth 100000
set_option linter.unusedSimpArgs false

theorem b14_5 {p : Prop} (h : p := by exact cB1_ GE397.out) : p := h
theorem tl0 {p : Prop} (h : p := by intro w' s_; obtain ⟨s0, s1, -, -⟩ := cells2 s_.out.at0; obtain ⟨s2, s3, -, -⟩ := cells2 s_.out.at3; obtain ⟨s4, s5, -, -⟩ := cells2 s_.out.at5; obtain ⟨s6, s7, -, -⟩ := cells2 s_.out.at7; obtain ⟨s8, s9, -, -⟩ := cells2 s_.out.at9.2.2.2.2.2; go_simp; with_reducible rfl) : p := h
theorem tl1 {p : Prop} (h : p := by intro w' s_; obtain ⟨s0, s1, -, -⟩ := cells2 s_.out.at0; go_simp; with_reducible rfl) : p := h
/-! ### laws_FnJoins: function 10 -/
def laws_FnJoins.l0 : Nat → List Int → List (S42) → List (S42) → Int → List (S42) → List (S42) → Int → Int → List (S42) → Option (Bool)
 | 0, _, _, _, _, _, _, _, _, _ => none
 | k + 1, x0, x3, x4, x5, x7, x8, x9, x398000, x398001 => if x9 < (x3.length : Int) then ((laws_lwAt.f x0 x9 2).bind fun t408 => (if t408 = 0 then (if 0 ≤ x9 then (if x7.length < 4398046511104 then (laws_FnJoins.l0 k x0 x3 x4 x5 (x7 ++ [(⟨(rd_T42 x3 x9).f0, (rd_T42 x3 x9).f1⟩ : S42)]) x8 (wrap64 (x9 + 1)) x398000 x398001) else (none)) else (none)) else (if 0 ≤ x9 then (if x8.length < 4398046511104 then (laws_FnJoins.l0 k x0 x3 x4 x5 x7 (x8 ++ [(⟨(rd_T42 x3 x9).f0, (rd_T42 x3 x9).f1⟩ : S42)]) (wrap64 (x9 + 1)) x398000 x398001) else (none)) else (none)))) else ((impl_JoinSets.f k x7 x4 x5).bind fun bt417 => ((impl_JoinSets.f k x8 x4 x5).bind fun bt422 => ((impl_AddSets.f k bt417.2 bt422.2).bind fun bt427 => ((impl_NegateSet.f k x3).bind fun bt432 => ((impl_JoinSets.f k bt432.2 x4 x5).bind fun bt436 => (if bt417.1 = 0 then (if bt422.1 = 0 then (if bt427.1 = 0 then ((impl_SameSets.f k bt427.2 x398001).bind fun t441 => (if t441 = true then ((impl_SetFault.f k x398001).bind fun t442 => (if t442 = 0 then ((impl_NegateSet.f k x398001).bind fun bt443 => ((impl_SameSets.f k bt436.2 bt443.2).bind fun t447 => (some t447))) else (some false))) else (some false))) else (some false)) else (some false)) else (some false)))))))
def laws_FnJoins.f (k : Nat) (l0 : List Int) : Option (Bool) := (laws_lwBig.f l0).bind fun t385 => (if t385 = true then (some true) else ((spec_DrawJoinSets.f k l0).bind fun bt386 => ((impl_JoinSets.f k bt386.1 bt386.2.1 bt386.2.2).bind fun bt393 => (if bt393.1 = 0 then (laws_FnJoins.l0 k l0 bt386.1 bt386.2.1 bt386.2.2 (([] : List (S42))) (([] : List (S42))) 0 bt393.1 bt393.2) else ((spec_JoinSets.f k bt386.1 bt386.2.1 bt386.2.2).bind fun bt398 => (some (bt398.1 == bt393.1)))))))
theorem laws_FnJoins.mono_l : ∀ k, (∀ y0 y1 y2 y3 y4 y5 y6 y7 y8, LeO (laws_FnJoins.l0 k y0 y1 y2 y3 y4 y5 y6 y7 y8) (laws_FnJoins.l0 (k + 1) y0 y1 y2 y3 y4 y5 y6 y7 y8))
 | 0 => fun _ _ _ _ _ _ _ _ _ r h => by simp [laws_FnJoins.l0] at h
 | k + 1 => by
  have ih0 := laws_FnJoins.mono_l k
  ·intro y0 y1 y2 y3 y4 y5 y6 y7 y8
   unfold laws_FnJoins.l0
   repeat' first
   | (with_reducible exact ih0 _ _ _ _ _ _ _ _ _)
   | (with_reducible exact impl_AddSets.mono _ _ _)
   | (with_reducible exact impl_JoinSets.mono _ _ _ _)
   | (with_reducible exact impl_NegateSet.mono _ _)
   | (with_reducible exact impl_SameSets.mono _ _ _)
   | (with_reducible exact impl_SetFault.mono _ _)
   | (with_reducible exact spec_DrawJoinSets.mono _ _)
   | (with_reducible exact spec_JoinSets.mono _ _ _ _)
   | (with_reducible exact LeO.refl _)
   | (with_reducible exact LeO.none _)
   | (with_reducible refine LeO.ite ?_ ?_)
   | (with_reducible refine LeO.bind ?_ (fun _ => ?_))
   | refine LeO.ite ?_ ?_
   | refine LeO.bind ?_ (fun _ => ?_)
theorem laws_FnJoins.mono : ∀ a0 k, LeO (laws_FnJoins.f k a0) (laws_FnJoins.f (k + 1) a0) := by
 intro a0 k
 have ih0 := laws_FnJoins.mono_l k
 unfold laws_FnJoins.f
 repeat' first
   | (with_reducible exact ih0 _ _ _ _ _ _ _ _ _)
   | (with_reducible exact impl_AddSets.mono _ _ _)
   | (with_reducible exact impl_JoinSets.mono _ _ _ _)
   | (with_reducible exact impl_NegateSet.mono _ _)
   | (with_reducible exact impl_SameSets.mono _ _ _)
   | (with_reducible exact impl_SetFault.mono _ _)
   | (with_reducible exact spec_DrawJoinSets.mono _ _)
   | (with_reducible exact spec_JoinSets.mono _ _ _ _)
   | (with_reducible exact LeO.refl _)
   | (with_reducible exact LeO.none _)
   | (with_reducible refine LeO.ite ?_ ?_)
   | (with_reducible refine LeO.bind ?_ (fun _ => ?_))
   | refine LeO.ite ?_ ?_
   | refine LeO.bind ?_ (fun _ => ?_)
def laws_FnJoins.T6 : Bool × List (List Nat × List Nat) := (true, [([], []), ([], []), ([], []), ([0, 1, 2], [0, 1, 2]), ([3], [3]), ([], []), ([5], [5]), ([4, 6], [4, 6]), ([7, 3, 0, 1, 2, 3, 4, 5, 6, 7], [7])])
def laws_FnJoins.B6 : List Nat := [0, 0, 0, 7, 15, 0, 32, 127, 255]
theorem laws_FnJoins.tab6 : rtab .any (opsOf Try.f10 6) = laws_FnJoins.T6 := by kernel_rfl
theorem laws_FnJoins.bits6 : waitsOk laws_FnJoins.T6.2 laws_FnJoins.B6 = true := by kernel_rfl
def laws_FnJoins.T19 : Bool × List (List Nat × List Nat) := (true, [([], []), ([0], [0]), ([1], [1]), ([2], [2]), ([3], [3]), ([4, 3], [3, 4]), ([5, 3], [3, 5]), ([3, 6], [3, 6]), ([7, 3], [7]), ([8], [8]), ([9, 8], [8, 9]), ([10, 8], [8, 10]), ([8, 11], [8, 11]), ([12, 8], [12]), ([13], [13]), ([14, 13], [13, 14]), ([13], [13]), ([16, 13], [13, 16]), ([15, 17, 13, 13], [13, 15, 17]), ([13, 18], [13, 18]), ([19, 18], [19]), ([20], [20]), ([21, 20], [20, 21]), ([22, 20, 20], [20, 22]), ([23, 20], [20, 23]), ([20, 24], [20, 24]), ([25, 23], [25]), ([26], [26]), ([27, 26], [26, 27]), ([26], [26]), ([29, 26], [26, 29]), ([30, 26, 26], [26, 30]), ([31, 26], [26, 31]), ([28, 32, 31, 26], [26, 28, 32]), ([26, 33], [26, 33]), ([34, 33, 0, 1, 2, 3, 4, 5, 6, 7, 8, 9, 10, 11, 12, 13, 14, 15, 16, 17, 18, 19, 20, 21, 22, 23, 24, 25, 26, 27, 28, 29, 30, 31, 32, 33, 34], [34])])
def laws_FnJoins.B19 : List Nat := [0, 1, 3, 7, 15, 31, 63, 127, 255, 511, 1023, 2047, 4095, 8191, 16383, 32767, 16383, 81919, 262143, 524287, 1048575, 2097151, 4194303, 8388607, 16777215, 33554431, 67108863, 134217727, 268435455, 134217727, 671088639, 1744830463, 3892314111, 8589934591, 17179869183, 34359738367]
theorem laws_FnJoins.tab19 : rtab .any (opsOf Try.f10 19) = laws_FnJoins.T19 := by kernel_rfl
theorem laws_FnJoins.bits19 : waitsOk laws_FnJoins.T19.2 laws_FnJoins.B19 = true := by kernel_rfl
theorem laws_FnJoins.calls (k : Nat) (A0 : Option Addr) (c0 : Nat) (l0 : List Int) (r : Bool) (w : World) (hr0 : Kd.C (Kd.int .u8) w A0 l0.length l0) (hc0 : l0.length ≤ c0) (h : laws_FnJoins.f k l0 = some r) (hr_ : r = true) :
  Calls Try.prog 10 #[.slice A0 l0.length c0] w fun e w' => e = .returned (.bool r) ∧ Below w.heap.size w w' := by
 have HRT_ := Aside0.mk hr_
 clear hr_
 have hfd26_0 : ∀ (x0_ x1_ : Value) (w_ : World), Sem.run Try.prog (Instr.field 26 (.agg #[x0_, x1_]) 0) w_ = .ok x0_ w_ := fun _ _ _ => by kernel_rfl
 have hfd26_1 : ∀ (x0_ x1_ : Value) (w_ : World), Sem.run Try.prog (Instr.field 26 (.agg #[x0_, x1_]) 1) w_ = .ok x1_ w_ := fun _ _ _ => by kernel_rfl
 have hu26 := Try.underlying26
 have hu42 := Try.underlying42
 have HR0 := Aside0.mk hr0
 have HC0 := Aside0.mk hc0
 clear hr0 hc0
 have HP := Aside0.mk (Pl.start w)
 have HB := Aside0.mk (Below.refl w.heap.size w)
 have H : ((laws_lwBig.f l0).bind fun t385 => (if t385 = true then (some true) else ((spec_DrawJoinSets.f k l0).bind fun bt386 => ((impl_JoinSets.f k bt386.1 bt386.2.1 bt386.2.2).bind fun bt393 => (if bt393.1 = 0 then (laws_FnJoins.l0 k l0 bt386.1 bt386.2.1 bt386.2.2 (([] : List (S42))) (([] : List (S42))) 0 bt393.1 bt393.2) else ((spec_JoinSets.f k bt386.1 bt386.2.1 bt386.2.2).bind fun bt398 => (some (bt398.1 == bt393.1)))))))) = some r := h
 clear h
 obtain ⟨t385, A2, H⟩ := bnd_ H
 try dsimp only at H
 by_cases c3 : t385 = true
 ·subst c3
  rw [if_pos rfl] at H
  obtain rfl := Option.some.inj H
  go_enter Try.func10, Try.ntmps10
  go_wp2_with (first | (refine gl_ 22 (some 15) Try.func22 #[.slice A0 l0.length c0] ?_; (with_reducible refine (laws_lwBig.calls _ _ l0 true _ (Kd.C_below HR0.out HP.out.below) HC0.out A2.out).mono ?_); rintro e wd1 ⟨rfl, hd⟩; refine ⟨_, rfl, ?_⟩; have n_ := Aside0.mk (HP.out.call hd.below); clear HP hd; have HP := n_; clear n_))
  go_ret
  exact ⟨ce_, HP.out.below⟩
 ·replace c3 := Bool.eq_false_iff.mpr c3
  subst c3
  rw [if_neg (show ¬ (false = true) by decide)] at H
  obtain ⟨⟨t386, t389, t392⟩, A4, H⟩ := bnd_ H
  try dsimp only at H
  obtain ⟨⟨t393, t394⟩, A5, H⟩ := bnd_ H
  try dsimp only at H
  by_cases c6 : t393 = 0
  ·rw [if_pos c6] at H
   have c6b0 : (t393 == 0) = true := beq_iff_eq.mpr c6
   have c6b1 : (t393 != 0) = false := bne_eq_false_iff_eq.mpr c6
   clear c6
   obtain ⟨y402, hy_⟩ : ∃ y_ : List (S42), y_ = (([] : List (S42))) := ⟨_, rfl⟩
   replace H : (laws_FnJoins.l0 k l0 t386 t389 t392 y402 (([] : List (S42))) 0 t393 t394) = some r := yb_
   have Ny402 := Aside0.mk hy_
   clear hy_
   obtain ⟨y405, hy_⟩ : ∃ y_ : List (S42), y_ = (([] : List (S42))) := ⟨_, rfl⟩
   replace H : (laws_FnJoins.l0 k l0 t386 t389 t392 y402 y405 0 t393 t394) = some r := yb_
   have Ny405 := Aside0.mk hy_
   clear hy_
   have H' := Aside0.mk H
   clear H
   go_enter Try.func10, Try.ntmps10
   go_wp2_with (first | (refine gl_ 22 (some 15) Try.func22 #[.slice A0 l0.length c0] ?_; (with_reducible refine (laws_lwBig.calls _ _ l0 false _ ?side1 ?side2 A2.out).mono ?_); (case side1 => exact cC_ HR0.out); (case side2 => exact HC0.out); rintro e w' ⟨rfl, ⟨nd, rfl⟩⟩; refine ⟨_, rfl, ?_⟩) | (refine gl_ 41 (some 18) Try.func41 #[.slice A0 l0.length c0] ?_; (with_reducible refine (spec_DrawJoinSets.calls k _ _ l0 t386 t389 t392 _ ?side1 ?side2 A4.out).mono ?_); (case side1 => exact cC_ HR0.out); (case side2 => exact HC0.out); rintro e w7 ⟨v387, v390, rfl, ho0, ho1, hb⟩; refine ⟨_, rfl, ?_⟩; have HO388 := Aside0.mk (Kd.N_lower (Kd.N_mono (ok' := fun k_ => some k_ ≠ (v390 : Value).ownBlock) ho0 (fun k_ hk_ => hk_.2)) (below_size cB0_)); have HO391 := Aside0.mk (Kd.N_lower (Kd.N_mono (ok' := fun k_ => some k_ ≠ (v387 : Value).ownBlock) ho1 (fun k_ hk_ => hk_.2)) (below_size cB0_)); replace HB := Aside0.mk (below_step cB0_ hb); (try clear hb); (try clear hb2); (try clear hk); (try clear hi); (try clear ho0); (try clear ho1); obtain ⟨Ao8, co8, eo8⟩ := Kd.N_slice HO388.out; subst eo8; obtain ⟨Ao9, co9, eo9⟩ := Kd.N_slice HO391.out; subst eo9) | (refine gl_ 40 (some 25) Try.func40 #[.slice Ao8 t386.length co8, .slice Ao9 t389.length co9, .int .i64 t392] ?_; (with_reducible refine (impl_JoinSets.calls k _ _ t386 _ _ t389 t392 t393 t394 _ ?side1 ?side2 ?side3 ?side4 A5.out).mono ?_); (case side1 => exact cC_ ((Kd.N_reads' HO388.out).2.2)); (case side2 => exact (Kd.N_reads' HO388.out).2.1); (case side3 => exact cC_ ((Kd.N_reads' HO391.out).2.2)); (case side4 => exact (Kd.N_reads' HO391.out).2.1); rintro e w10 ⟨v395, rfl, ho0, hb⟩; refine ⟨_, rfl, ?_⟩; have HO396 := Aside0.mk (Kd.N_lower (Kd.N_mono (ok' := fun k_ => some k_ ≠ (.slice Ao8 t386.length co8 : Value).ownBlock ∧ some k_ ≠ (.slice Ao9 t389.length co9 : Value).ownBlock) (Kd.S_N (Kd.S_bound ho0)) (fun k_ hk_ => ⟨(Kd.fresh' (Kd.N_lt (cN_ HO388.out)) k_ hk_.2.1), (Kd.fresh' (Kd.N_lt (cN_ HO391.out)) k_ hk_.2.1)⟩)) (below_size cB0_)); replace HO388 := Aside0.mk (Kd.N_elder' (cN_ HO388.out) (Kd.S_base ho0) hb); replace HO391 := Aside0.mk (Kd.N_elder' (cN_ HO391.out) (Kd.S_base ho0) hb); replace HB := Aside0.mk (below_step cB0_ hb); (try clear hb); (try clear hb2); (try clear hk); (try clear hi); (try clear ho0)) | (refine bx_ 6 #[.int .i64 0, .slice none 0 0] 26 ?_; intro gb397 hg w11 hbox hb; replace HO388 := Aside0.mk (Kd.N_below (Kd.N_elderB (cN_ HO388.out) gb397 (Nat.le_of_eq hg.symm)) hb); replace HO391 := Aside0.mk (Kd.N_below (Kd.N_elderB (cN_ HO391.out) gb397 (Nat.le_of_eq hg.symm)) hb); replace HO396 := Aside0.mk (Kd.N_below (Kd.N_elderB (cN_ HO396.out) gb397 (Nat.le_of_eq hg.symm)) hb); have BK397 := Aside0.mk (hbox); have GW397 := Aside0.mk ((by rw [hg]; exact (below_size cB0_) : w.heap.size ≤ gb397)); have GE397 := Aside0.mk ((by rw [hg]; exact (below_size cB0_) : w.heap.size ≤ gb397)); replace HB := Aside0.mk (below_step cB0_ hb); clear hb hbox hg; obtain ⟨hcz12_0, hcz12_1, hfz12_0, hfz12_1⟩ := cells2 BK397.out; obtain ⟨Ao13, co13, eo13⟩ := Kd.N_slice HO396.out; subst eo13) | ((with_reducible refine gate_dst (N := 37) rfl ?_); refine Kd.N_lit k42 _ 42 ?hg (N' := 37) ?hd (xs := ([] : List (S42))) (inner := []) (ok := (fun k_ => some k_ ≠ (.slice Ao8 t386.length co8 : Value).ownBlock ∧ some k_ ≠ (.slice Ao9 t389.length co9 : Value).ownBlock ∧ some k_ ≠ (.slice Ao13 t394.length co13 : Value).ownBlock ∧ k_ ≠ gb397)) (okp := (fun k_ => some k_ ≠ (.slice Ao8 t386.length co8 : Value).ownBlock ∧ some k_ ≠ (.slice Ao9 t389.length co9 : Value).ownBlock ∧ some k_ ≠ (.slice Ao13 t394.length co13 : Value).ownBlock ∧ k_ ≠ gb397)) ?hr ?hp (fun _ hk => hk) ((show ∀ k_, ((w11.setCell ⟨gb397, 0, none⟩ (.int .i64 t393)).setCell ⟨gb397, 1, none⟩ (.slice Ao13 t394.length co13)).heap.size ≤ k_ → (fun k_ => some k_ ≠ (.slice Ao8 t386.length co8 : Value).ownBlock ∧ some k_ ≠ (.slice Ao9 t389.length co9 : Value).ownBlock ∧ some k_ ≠ (.slice Ao13 t394.length co13 : Value).ownBlock ∧ k_ ≠ gb397) k_ from fun k_ hk => ⟨Kd.fresh' (Kd.N_lt (by refine cN_ ?_; exact (Kd.N_mono (Kd.N_far (p := ⟨gb397, 1, none⟩) (Kd.N_far (p := ⟨gb397, 0, none⟩) (Kd.N_mono HO388.out (fun k_ hk => (⟨hk, hk.2⟩ : _ ∧ k_ ≠ gb397))) (fun _ hk => hk.2) (.int .i64 t393)) (fun _ hk => hk.2) (.slice Ao13 t394.length co13)) (fun _ h_ => h_.1)))) k_ hk, Kd.fresh' (Kd.N_lt (by refine cN_ ?_; exact (Kd.N_mono (Kd.N_far (p := ⟨gb397, 1, none⟩) (Kd.N_far (p := ⟨gb397, 0, none⟩) (Kd.N_mono HO391.out (fun k_ hk => (⟨hk, hk.2⟩ : _ ∧ k_ ≠ gb397))) (fun _ hk => hk.2) (.int .i64 t393)) (fun _ hk => hk.2) (.slice Ao13 t394.length co13)) (fun _ h_ => h_.1)))) k_ hk, Kd.fresh' (Kd.N_lt (by refine cN_ ?_; exact (Kd.N_mono (Kd.N_far (p := ⟨gb397, 1, none⟩) (Kd.N_far (p := ⟨gb397, 0, none⟩) (Kd.N_mono HO396.out (fun k_ hk => (⟨hk, hk.2⟩ : _ ∧ k_ ≠ gb397))) (fun _ hk => hk.2) (.int .i64 t393)) (fun _ hk => hk.2) (.slice Ao13 t394.length co13)) (fun _ h_ => h_.1)))) k_ hk, Kd.freshB (g := gb397) (o := .cells #[.int .i64 t393, .slice Ao13 t394.length co13] 26 (0, 0)) (by refine cO_ ?_; refine blk_put (cs := #[.int .i64 t393, .slice none 0 0]) ?_ 1 _ rfl; refine cO_ ?_; refine blk_put (cs := #[.int .i64 0, .slice none 0 0]) ?_ 0 _ rfl; refine cO_ ?_; exact BK397.out) k_ hk⟩) _ (Nat.le_refl _)) (Below.refl _ _) (Nat.le_refl _) (by simp) ?_; (case hd => rfl); (case hg => rfl); (case hr => first | (go_simp; done) | (go_simp; rfl)); (case hp => exact (Reps.none _ _)); intro v403 w14 ho15 hb hg_ hnew_; clear hg_ hnew_; (first | rw [← Ny402.out] at ho15 | (simp only [Int.reduceToNat] at ho15; rw [← Ny402.out] at ho15)); replace HO388 := Aside0.mk (Kd.N_elder' (by refine cN_ ?_; exact (Kd.N_mono (Kd.N_far (p := ⟨gb397, 1, none⟩) (Kd.N_far (p := ⟨gb397, 0, none⟩) (Kd.N_mono HO388.out (fun k_ hk => (⟨hk, hk.2⟩ : _ ∧ k_ ≠ gb397))) (fun _ hk => hk.2) (.int .i64 t393)) (fun _ hk => hk.2) (.slice Ao13 t394.length co13)) (fun _ h_ => h_.1))) (Kd.N_base ho15) hb); replace HO391 := Aside0.mk (Kd.N_elder' (by refine cN_ ?_; exact (Kd.N_mono (Kd.N_far (p := ⟨gb397, 1, none⟩) (Kd.N_far (p := ⟨gb397, 0, none⟩) (Kd.N_mono HO391.out (fun k_ hk => (⟨hk, hk.2⟩ : _ ∧ k_ ≠ gb397))) (fun _ hk => hk.2) (.int .i64 t393)) (fun _ hk => hk.2) (.slice Ao13 t394.length co13)) (fun _ h_ => h_.1))) (Kd.N_base ho15) hb); replace HO396 := Aside0.mk (Kd.N_elder' (by refine cN_ ?_; exact (Kd.N_mono (Kd.N_far (p := ⟨gb397, 1, none⟩) (Kd.N_far (p := ⟨gb397, 0, none⟩) (Kd.N_mono HO396.out (fun k_ hk => (⟨hk, hk.2⟩ : _ ∧ k_ ≠ gb397))) (fun _ hk => hk.2) (.int .i64 t393)) (fun _ hk => hk.2) (.slice Ao13 t394.length co13)) (fun _ h_ => h_.1))) (Kd.N_base ho15) hb); have HO404 := Aside0.mk (Kd.N_lower ho15 (below_size b14_5)); replace BK397 := Aside0.mk (blk_below (g := gb397) (o := .cells #[.int .i64 t393, .slice Ao13 t394.length co13] 26 (0, 0)) (by refine cO_ ?_; refine blk_put (cs := #[.int .i64 t393, .slice none 0 0]) ?_ 1 _ rfl; refine cO_ ?_; refine blk_put (cs := #[.int .i64 0, .slice none 0 0]) ?_ 0 _ rfl; refine cO_ ?_; exact BK397.out) hb); replace HB := Aside0.mk (below_step b14_5 hb); clear hb ho15) | ((with_reducible refine gate_dst (N := 38) rfl ?_); refine Kd.N_lit k42 _ 42 ?hg (N' := 38) ?hd (xs := ([] : List (S42))) (inner := []) (ok := (fun k_ => some k_ ≠ (.slice Ao8 t386.length co8 : Value).ownBlock ∧ some k_ ≠ (.slice Ao9 t389.length co9 : Value).ownBlock ∧ some k_ ≠ (.slice Ao13 t394.length co13 : Value).ownBlock ∧ some k_ ≠ (v403 : Value).ownBlock ∧ k_ ≠ gb397)) (okp := (fun k_ => some k_ ≠ (.slice Ao8 t386.length co8 : Value).ownBlock ∧ some k_ ≠ (.slice Ao9 t389.length co9 : Value).ownBlock ∧ some k_ ≠ (.slice Ao13 t394.length co13 : Value).ownBlock ∧ some k_ ≠ (v403 : Value).ownBlock ∧ k_ ≠ gb397)) ?hr ?hp (fun _ hk => hk) ((show ∀ k_, w14.heap.size ≤ k_ → (fun k_ => some k_ ≠ (.slice Ao8 t386.length co8 : Value).ownBlock ∧ some k_ ≠ (.slice Ao9 t389.length co9 : Value).ownBlock ∧ some k_ ≠ (.slice Ao13 t394.length co13 : Value).ownBlock ∧ some k_ ≠ (v403 : Value).ownBlock ∧ k_ ≠ gb397) k_ from fun k_ hk => ⟨Kd.fresh' (Kd.N_lt (cN_ HO388.out)) k_ hk, Kd.fresh' (Kd.N_lt (cN_ HO391.out)) k_ hk, Kd.fresh' (Kd.N_lt (cN_ HO396.out)) k_ hk, Kd.fresh' (Kd.N_lt (cN_ HO404.out)) k_ hk, Kd.freshB (g := gb397) (o := .cells #[.int .i64 t393, .slice Ao13 t394.length co13] 26 (0, 0)) (cO_ BK397.out) k_ hk⟩) _ (Nat.le_refl _)) (Below.refl _ _) (Nat.le_refl _) (by simp) ?_; (case hd => rfl); (case hg => rfl); (case hr => first | (go_simp; done) | (go_simp; rfl)); (case hp => exact (Reps.none _ _)); intro v406 w16 ho17 hb hg_ hnew_; clear hg_ hnew_; (first | rw [← Ny405.out] at ho17 | (simp only [Int.reduceToNat] at ho17; rw [← Ny405.out] at ho17)); replace HO388 := Aside0.mk (Kd.N_elder' (cN_ HO388.out) (Kd.N_base ho17) hb); replace HO391 := Aside0.mk (Kd.N_elder' (cN_ HO391.out) (Kd.N_base ho17) hb); replace HO396 := Aside0.mk (Kd.N_elder' (cN_ HO396.out) (Kd.N_base ho17) hb); replace HO404 := Aside0.mk (Kd.N_elder' (cN_ HO404.out) (Kd.N_base ho17) hb); have HO407 := Aside0.mk (Kd.N_lower ho17 (below_size b14_5)); replace BK397 := Aside0.mk (blk_below (g := gb397) (o := .cells #[.int .i64 t393, .slice Ao13 t394.length co13] 26 (0, 0)) (cO_ BK397.out) hb); replace HB := Aside0.mk (below_step b14_5 hb); clear hb ho17))
   go_loopg [7, 8, 9] k (fun kq v7 v8 v9 w' => ∃ (x7_1 : List (S42)) (x8_1 : List (S42)) (x9_1 : Int), v9 = .int .i64 x9_1 ∧ Aside0 (laws_FnJoins.l0 kq l0 t386 t389 t392 x7_1 x8_1 x9_1 t393 t394 = some r) ∧ Aside0 (kq ≤ k) ∧ Aside0 (Kd.N k42 42 w' w.heap.size (fun k_ => some k_ ≠ ((.slice Ao9 t389.length co9) : Value).ownBlock ∧ some k_ ≠ (v7 : Value).ownBlock ∧ some k_ ≠ (v8 : Value).ownBlock ∧ some k_ ≠ ((.slice Ao13 t394.length co13) : Value).ownBlock ∧ k_ ≠ gb397) (.slice Ao8 t386.length co8) t386) ∧ Aside0 (Kd.N k42 42 w' w.heap.size (fun k_ => some k_ ≠ ((.slice Ao8 t386.length co8) : Value).ownBlock ∧ some k_ ≠ (v7 : Value).ownBlock ∧ some k_ ≠ (v8 : Value).ownBlock ∧ some k_ ≠ ((.slice Ao13 t394.length co13) : Value).ownBlock ∧ k_ ≠ gb397) (.slice Ao9 t389.length co9) t389) ∧ Aside0 (Kd.N k42 42 w' w.heap.size (fun k_ => some k_ ≠ ((.slice Ao8 t386.length co8) : Value).ownBlock ∧ some k_ ≠ ((.slice Ao9 t389.length co9) : Value).ownBlock ∧ some k_ ≠ (v8 : Value).ownBlock ∧ some k_ ≠ ((.slice Ao13 t394.length co13) : Value).ownBlock ∧ k_ ≠ gb397) v7 x7_1) ∧ Aside0 (Kd.N k42 42 w' w.heap.size (fun k_ => some k_ ≠ ((.slice Ao8 t386.length co8) : Value).ownBlock ∧ some k_ ≠ ((.slice Ao9 t389.length co9) : Value).ownBlock ∧ some k_ ≠ (v7 : Value).ownBlock ∧ some k_ ≠ ((.slice Ao13 t394.length co13) : Value).ownBlock ∧ k_ ≠ gb397) v8 x8_1) ∧ Aside0 (Kd.N k42 42 w' w.heap.size (fun k_ => some k_ ≠ ((.slice Ao8 t386.length co8) : Value).ownBlock ∧ some k_ ≠ ((.slice Ao9 t389.length co9) : Value).ownBlock ∧ some k_ ≠ (v7 : Value).ownBlock ∧ some k_ ≠ (v8 : Value).ownBlock ∧ k_ ≠ gb397) (.slice Ao13 t394.length co13) t394) ∧ Aside0 (w'.heap[gb397]? = some (.cells #[.int .i64 t393, (.slice Ao13 t394.length co13)] 26 (0, 0))) ∧ Aside0 (Below w.heap.size w w'))
   case atStart => exact ⟨(y402), (y405), (0), cs_, H', ⟨Nat.le_refl _⟩, ⟨by refine cN_ ?_; exact Kd.N_mono HO388.out (fun _ hk => ⟨hk.1.1.1.1, ⟨hk.1.2, ⟨hk.2, ⟨hk.1.1.1.2, hk.1.1.2⟩⟩⟩⟩)⟩, ⟨by refine cN_ ?_; exact Kd.N_mono HO391.out (fun _ hk => ⟨hk.1.1.1.1, ⟨hk.1.2, ⟨hk.2, ⟨hk.1.1.1.2, hk.1.1.2⟩⟩⟩⟩)⟩, ⟨by refine cN_ ?_; exact Kd.N_mono HO404.out (fun _ hk => ⟨hk.1.1, ⟨hk.1.2.1, ⟨hk.2, ⟨hk.1.2.2.1, hk.1.2.2.2⟩⟩⟩⟩)⟩, ⟨by refine cN_ ?_; exact Kd.N_mono HO407.out (fun _ hk => ⟨hk.1, ⟨hk.2.1, ⟨hk.2.2.2.1, ⟨hk.2.2.1, hk.2.2.2.2⟩⟩⟩⟩)⟩, ⟨by refine cN_ ?_; exact Kd.N_mono HO396.out (fun _ hk => ⟨hk.1.1.1.1, ⟨hk.1.1.1.2, ⟨hk.1.2, ⟨hk.2, hk.1.1.2⟩⟩⟩⟩)⟩, ⟨cO_ BK397.out⟩, ⟨cB1_ GE397.out⟩⟩
   case round =>
    clear H'
    try clear c1
    try clear c2
    try clear p2
    try clear c3
    try clear c4
    try clear c6
    try clear c6b0
    try clear c6b1
    try clear c10
    try clear hcz12_0
    try clear hcz12_1
    try clear hfz12_0
    try clear hfz12_1
    obtain ⟨x7_1, x8_1, x9_1, rfl, HA, HK1, HO_3, HO_4, HO_7, HO_8, HO_398001, BK397, HB⟩ := hrel
    cases gk with
    | zero => exact absurd HA.out (by simp [laws_FnJoins.l0])
    | succ k1 =>
     have H := HA.out
     clear HA
     simp only [laws_FnJoins.l0] at H
     by_cases c18 : x9_1 < (t386.length : Int)
     ·rw [if_pos c18] at H
      have c18b0 := decide_eq_true c18
      clear c18
      obtain ⟨t408, A19, H⟩ := bnd_ H
      try dsimp only at H
      by_cases c20 : t408 = 0
      ·rw [if_pos c20] at H
       have c20b0 : (t408 == 0) = true := beq_iff_eq.mpr c20
       have c20b1 : (t408 != 0) = false := bne_eq_false_iff_eq.mpr c20
       clear c20
       by_cases c21 : 0 ≤ x9_1
       ·rw [if_pos c21] at H
        have c21b0 := decide_eq_true c21
        clear c21
        by_cases c22 : x7_1.length < 4398046511104
        ·rw [if_pos c22] at H
         have LMc22 := Aside0.mk c22
         clear c22
         obtain ⟨y410, hy_⟩ : ∃ y_ : List (S42), y_ = (x7_1 ++ [(⟨(rd_T42 t386 x9_1).f0, (rd_T42 t386 x9_1).f1⟩ : S42)]) := ⟨_, rfl⟩
         replace H : (laws_FnJoins.l0 k1 l0 t386 t389 t392 y410 x8_1 (wrap64 (x9_1 + 1)) t393 t394) = some r := yb_
         have Ny410 := Aside0.mk hy_
         clear hy_
         have H' := Aside0.mk H
         clear H
         go_wp2_with (first | (refine gl_ 42 (some 47) Try.func42 #[.slice A0 l0.length c0, .int .i64 x9_1, .int .i64 2] ?_; (with_reducible refine (laws_lwAt.calls _ _ l0 x9_1 2 t408 _ ?side1 ?side2 A19.out).mono ?_); (case side1 => exact cC_ (Kd.C_below HR0.out HB.out)); (case side2 => exact HC0.out); rintro e w' ⟨rfl, ⟨nd, rfl⟩⟩; refine ⟨_, rfl, ?_⟩; have p409 : 0 ≤ (x9_1 : Int) := cd_; have q409 : x9_1 < (t386.length : Int) := cd_; obtain ⟨ad409, A409_0, c409_0, e409, hx409_0, hx409_1, hl409_0, hi409_0⟩ := at_T42 (Kd.N_reads' HO_3.out).2.2 x9_1 p409 q409; cases e409; obtain ⟨ce409, hce409, hMe409, hcc409⟩ := Kd.N_get HO_3.out z42 x9_1 p409 (by first | exact q409 | exact of_decide_eq_true ca_ | (have e_ := (Kd.N_reads' HO_3.out).1; omega)); obtain ⟨ua409_0, uc409_0, rfl, ul409_0, ge409_0⟩ := k42_openF hMe409; have hv409_0 := hcc409 0 _ rfl; rw [Nat.add_zero] at hv409_0; replace hv409_0 := Option.some.inj (hv409_0.symm.trans hx409_0); injection hv409_0 with hva_ hvn_ hvc_; rw [hva_] at ge409_0; rw [hvc_] at ul409_0; have HL409_0 := Aside0.mk (show Kd.V (Kd.int .i64) 2 _ w.heap.size _ _ ((rd_T42 t386 x9_1).f0) from Kd.V_mk ul409_0 ge409_0); clear hva_ hvn_ hvc_ ge409_0 ul409_0; clear hcc409 hce409; have HR409_0 := Aside0.mk hi409_0; have HC409_0 := Aside0.mk hl409_0; clear hi409_0 hl409_0; replace p409 := eq_true p409; replace q409 := eq_true q409) | ((with_reducible refine gate_builtin (b := .append) (xs := #[.tmp 49, .tmp 54]) rfl ?_); at_builtin; refine Kd.N_append k42 (w0 := w) w.heap.size rfl (.tmp 49) (.tmp 54) 24 42 (.agg #[(.slice none 0 0), (.int .i64 0)]) 32 rfl Try.underlying24 info42 rfl (by decide) (by omega) u7 x7_1 (⟨(rd_T42 t386 x9_1).f0, (rd_T42 t386 x9_1).f1⟩ : S42) [.slice A409_0 ((rd_T42 t386 x9_1).f0).length c409_0, .int .i64 ((rd_T42 t386 x9_1).f1)] (fun k_ => some k_ ≠ (.slice (some ad409) t386.length co8 : Value).ownBlock ∧ some k_ ≠ (.slice Ao9 t389.length co9 : Value).ownBlock ∧ some k_ ≠ (u8 : Value).ownBlock ∧ some k_ ≠ (.slice Ao13 t394.length co13 : Value).ownBlock ∧ k_ ≠ gb397) (fun k_ => ((fun k_ => some k_ ≠ (.slice (some ad409) t386.length co8 : Value).ownBlock ∧ some k_ ≠ (.slice Ao9 t389.length co9 : Value).ownBlock ∧ some k_ ≠ (u8 : Value).ownBlock ∧ some k_ ≠ (.slice Ao13 t394.length co13 : Value).ownBlock ∧ k_ ≠ gb397)) k_ ∧ some k_ ≠ (u7 : Value).ownBlock) rfl rfl ?aP (fun _ hk => hk) ?aF ?aO ?aB ?aS ?aL ?_; (case aP => exact (by exact (k42_mkF _ _ (⟨(rd_T42 t386 x9_1).f0, (rd_T42 t386 x9_1).f1⟩ : S42) (Kd.V_reads' (Kd.V_mono (ok' := (fun k_ => ((fun k_ => some k_ ≠ (.slice (some ad409) t386.length co8 : Value).ownBlock ∧ some k_ ≠ (.slice Ao9 t389.length co9 : Value).ownBlock ∧ some k_ ≠ (u8 : Value).ownBlock ∧ some k_ ≠ (.slice Ao13 t394.length co13 : Value).ownBlock ∧ k_ ≠ gb397)) k_ ∧ some k_ ≠ (u7 : Value).ownBlock)) (HL409_0.out) (fun k_ hk => ⟨⟨hk.2, ⟨hk.1.1, ⟨hk.1.2.2.1, ⟨hk.1.2.2.2.1, hk.1.2.2.2.2⟩⟩⟩⟩, hk.1.2.1⟩))).2.1 (Kd.V_F (by refine cV_ ?_; exact Kd.V_mono (ok' := (fun k_ => ((fun k_ => some k_ ≠ (.slice (some ad409) t386.length co8 : Value).ownBlock ∧ some k_ ≠ (.slice Ao9 t389.length co9 : Value).ownBlock ∧ some k_ ≠ (u8 : Value).ownBlock ∧ some k_ ≠ (.slice Ao13 t394.length co13 : Value).ownBlock ∧ k_ ≠ gb397)) k_ ∧ some k_ ≠ (u7 : Value).ownBlock)) (HL409_0.out) (fun k_ hk => ⟨⟨hk.2, ⟨hk.1.1, ⟨hk.1.2.2.1, ⟨hk.1.2.2.2.1, hk.1.2.2.2.2⟩⟩⟩⟩, hk.1.2.1⟩)))))); (case aB => exact b14_5); (case aF => exact (by exact (fun k_ hk => ⟨Kd.fresh' (Kd.N_lt (cN_ HO_3.out)) k_ hk, Kd.fresh' (Kd.N_lt (cN_ HO_4.out)) k_ hk, Kd.fresh' (Kd.N_lt (cN_ HO_8.out)) k_ hk, Kd.fresh' (Kd.N_lt (cN_ HO_398001.out)) k_ hk, Kd.freshB (g := gb397) (o := .cells #[.int .i64 t393, .slice Ao13 t394.length co13] 26 (0, 0)) (cO_ BK397.out) k_ hk⟩))); (case aO => exact cN_ HO_7.out); (case aS => exact (by exact (below_size b14_5))); (case aL => exact co_ LMc22.out); intro v411 w23 ho hb hg hat; rw [← Ny410.out] at ho; replace HO_3 := Aside0.mk (Kd.N_afterv (ok := (fun k_ => some k_ ≠ (.slice Ao9 t389.length co9 : Value).ownBlock ∧ some k_ ≠ (u8 : Value).ownBlock ∧ some k_ ≠ (.slice Ao13 t394.length co13 : Value).ownBlock ∧ k_ ≠ gb397)) (by refine cN_ ?_; exact Kd.N_mono HO_3.out (fun _ hk => ⟨⟨hk.1, ⟨hk.2.2.1, ⟨hk.2.2.2.1, hk.2.2.2.2⟩⟩⟩, hk.2.1⟩)) hg hat); replace HO_4 := Aside0.mk (Kd.N_afterv (ok := (fun k_ => some k_ ≠ (.slice (some ad409) t386.length co8 : Value).ownBlock ∧ some k_ ≠ (u8 : Value).ownBlock ∧ some k_ ≠ (.slice Ao13 t394.length co13 : Value).ownBlock ∧ k_ ≠ gb397)) (by refine cN_ ?_; exact Kd.N_mono HO_4.out (fun _ hk => ⟨⟨hk.1, ⟨hk.2.2.1, ⟨hk.2.2.2.1, hk.2.2.2.2⟩⟩⟩, hk.2.1⟩)) hg hat); replace HO_8 := Aside0.mk (Kd.N_afterv (ok := (fun k_ => some k_ ≠ (.slice (some ad409) t386.length co8 : Value).ownBlock ∧ some k_ ≠ (.slice Ao9 t389.length co9 : Value).ownBlock ∧ some k_ ≠ (.slice Ao13 t394.length co13 : Value).ownBlock ∧ k_ ≠ gb397)) (by refine cN_ ?_; exact Kd.N_mono HO_8.out (fun _ hk => ⟨⟨hk.1, ⟨hk.2.1, ⟨hk.2.2.2.1, hk.2.2.2.2⟩⟩⟩, hk.2.2.1⟩)) hg hat); replace HO_398001 := Aside0.mk (Kd.N_afterv (ok := (fun k_ => some k_ ≠ (.slice (some ad409) t386.length co8 : Value).ownBlock ∧ some k_ ≠ (.slice Ao9 t389.length co9 : Value).ownBlock ∧ some k_ ≠ (u8 : Value).ownBlock ∧ k_ ≠ gb397)) (by refine cN_ ?_; exact Kd.N_mono HO_398001.out (fun _ hk => ⟨⟨hk.1, ⟨hk.2.1, ⟨hk.2.2.2.1, hk.2.2.2.2⟩⟩⟩, hk.2.2.1⟩)) hg hat); replace BK397 := Aside0.mk (blk_grown (g := gb397) (o := .cells #[.int .i64 t393, .slice Ao13 t394.length co13] 26 (0, 0)) (cO_ BK397.out) hg (Kd.N_ne HO_7.out BK397.out (by decide))); replace HL409_0 := Aside0.mk (Kd.V_afterv (ok := (fun k_ => some k_ ≠ (.slice (some ad409) t386.length co8 : Value).ownBlock ∧ some k_ ≠ (.slice Ao9 t389.length co9 : Value).ownBlock ∧ some k_ ≠ (u8 : Value).ownBlock ∧ some k_ ≠ (.slice Ao13 t394.length co13 : Value).ownBlock ∧ k_ ≠ gb397)) (by refine cV_ ?_; exact Kd.V_mono HL409_0.out (fun _ hk => ⟨⟨hk.2, ⟨hk.1.1, ⟨hk.1.2.2.1, ⟨hk.1.2.2.2.1, hk.1.2.2.2.2⟩⟩⟩⟩, hk.1.2.1⟩)) hg hat); replace HB := Aside0.mk (hb); have HO412 := Aside0.mk (ho); clear HO_7; clear ho hb hg hat))
         go_roundg k1
         case measure => have := HK1.out; omega
         case rel => exact ⟨(y410), (x8_1), (wrap64 (x9_1 + 1)), cs_, H', ⟨co_ HK1.out⟩, ⟨by refine cN_ ?_; exact Kd.N_mono HO_3.out (fun _ hk => ⟨hk.1.1, ⟨hk.2, ⟨hk.1.2.1, ⟨hk.1.2.2.1, hk.1.2.2.2⟩⟩⟩⟩)⟩, ⟨by refine cN_ ?_; exact Kd.N_mono HO_4.out (fun _ hk => ⟨hk.1.1, ⟨hk.2, ⟨hk.1.2.1, ⟨hk.1.2.2.1, hk.1.2.2.2⟩⟩⟩⟩)⟩, ⟨cN_ HO412.out⟩, ⟨by refine cN_ ?_; exact Kd.N_mono HO_8.out (fun _ hk => ⟨hk.1.1, ⟨hk.1.2.1, ⟨hk.2, ⟨hk.1.2.2.1, hk.1.2.2.2⟩⟩⟩⟩)⟩, ⟨by refine cN_ ?_; exact Kd.N_mono HO_398001.out (fun _ hk => ⟨hk.1.1, ⟨hk.1.2.1, ⟨hk.2, ⟨hk.1.2.2.1, hk.1.2.2.2⟩⟩⟩⟩)⟩, ⟨cO_ BK397.out⟩, ⟨cB1_ GE397.out⟩⟩
        ·rw [if_neg c22] at H
         exact absurd H (by simp)
       ·rw [if_neg c21] at H
        exact absurd H (by simp)
      ·rw [if_neg c20] at H
       have c20b0 : (t408 == 0) = false := beq_eq_false_iff_ne.mpr c20
       have c20b1 : (t408 != 0) = true := bne_iff_ne.mpr c20
       by_cases c24 : 0 ≤ x9_1
       ·rw [if_pos c24] at H
        have c24b0 := decide_eq_true c24
        clear c24
        by_cases c25 : x8_1.length < 4398046511104
        ·rw [if_pos c25] at H
         have LMc25 := Aside0.mk c25
         clear c25
         obtain ⟨y414, hy_⟩ : ∃ y_ : List (S42), y_ = (x8_1 ++ [(⟨(rd_T42 t386 x9_1).f0, (rd_T42 t386 x9_1).f1⟩ : S42)]) := ⟨_, rfl⟩
         replace H : (laws_FnJoins.l0 k1 l0 t386 t389 t392 x7_1 y414 (wrap64 (x9_1 + 1)) t393 t394) = some r := yb_
         have Ny414 := Aside0.mk hy_
         clear hy_
         have H' := Aside0.mk H
         clear H
         go_wp2_with (first | (refine gl_ 42 (some 47) Try.func42 #[.slice A0 l0.length c0, .int .i64 x9_1, .int .i64 2] ?_; (with_reducible refine (laws_lwAt.calls _ _ l0 x9_1 2 t408 _ ?side1 ?side2 A19.out).mono ?_); (case side1 => exact cC_ (Kd.C_below HR0.out HB.out)); (case side2 => exact HC0.out); rintro e w' ⟨rfl, ⟨nd, rfl⟩⟩; refine ⟨_, rfl, ?_⟩; have p413 : 0 ≤ (x9_1 : Int) := cd_; have q413 : x9_1 < (t386.length : Int) := cd_; obtain ⟨ad413, A413_0, c413_0, e413, hx413_0, hx413_1, hl413_0, hi413_0⟩ := at_T42 (Kd.N_reads' HO_3.out).2.2 x9_1 p413 q413; cases e413; obtain ⟨ce413, hce413, hMe413, hcc413⟩ := Kd.N_get HO_3.out z42 x9_1 p413 (by first | exact q413 | exact of_decide_eq_true ca_ | (have e_ := (Kd.N_reads' HO_3.out).1; omega)); obtain ⟨ua413_0, uc413_0, rfl, ul413_0, ge413_0⟩ := k42_openF hMe413; have hv413_0 := hcc413 0 _ rfl; rw [Nat.add_zero] at hv413_0; replace hv413_0 := Option.some.inj (hv413_0.symm.trans hx413_0); injection hv413_0 with hva_ hvn_ hvc_; rw [hva_] at ge413_0; rw [hvc_] at ul413_0; have HL413_0 := Aside0.mk (show Kd.V (Kd.int .i64) 2 _ w.heap.size _ _ ((rd_T42 t386 x9_1).f0) from Kd.V_mk ul413_0 ge413_0); clear hva_ hvn_ hvc_ ge413_0 ul413_0; clear hcc413 hce413; have HR413_0 := Aside0.mk hi413_0; have HC413_0 := Aside0.mk hl413_0; clear hi413_0 hl413_0; replace p413 := eq_true p413; replace q413 := eq_true q413) | ((with_reducible refine gate_builtin (b := .append) (xs := #[.tmp 56, .tmp 61]) rfl ?_); at_builtin; refine Kd.N_append k42 (w0 := w) w.heap.size rfl (.tmp 56) (.tmp 61) 24 42 (.agg #[(.slice none 0 0), (.int .i64 0)]) 32 rfl Try.underlying24 info42 rfl (by decide) (by omega) u8 x8_1 (⟨(rd_T42 t386 x9_1).f0, (rd_T42 t386 x9_1).f1⟩ : S42) [.slice A413_0 ((rd_T42 t386 x9_1).f0).length c413_0, .int .i64 ((rd_T42 t386 x9_1).f1)] (fun k_ => some k_ ≠ (.slice (some ad413) t386.length co8 : Value).ownBlock ∧ some k_ ≠ (.slice Ao9 t389.length co9 : Value).ownBlock ∧ some k_ ≠ (u7 : Value).ownBlock ∧ some k_ ≠ (.slice Ao13 t394.length co13 : Value).ownBlock ∧ k_ ≠ gb397) (fun k_ => ((fun k_ => some k_ ≠ (.slice (some ad413) t386.length co8 : Value).ownBlock ∧ some k_ ≠ (.slice Ao9 t389.length co9 : Value).ownBlock ∧ some k_ ≠ (u7 : Value).ownBlock ∧ some k_ ≠ (.slice Ao13 t394.length co13 : Value).ownBlock ∧ k_ ≠ gb397)) k_ ∧ some k_ ≠ (u8 : Value).ownBlock) rfl rfl ?aP (fun _ hk => hk) ?aF ?aO ?aB ?aS ?aL ?_; (case aP => exact (by exact (k42_mkF _ _ (⟨(rd_T42 t386 x9_1).f0, (rd_T42 t386 x9_1).f1⟩ : S42) (Kd.V_reads' (Kd.V_mono (ok' := (fun k_ => ((fun k_ => some k_ ≠ (.slice (some ad413) t386.length co8 : Value).ownBlock ∧ some k_ ≠ (.slice Ao9 t389.length co9 : Value).ownBlock ∧ some k_ ≠ (u7 : Value).ownBlock ∧ some k_ ≠ (.slice Ao13 t394.length co13 : Value).ownBlock ∧ k_ ≠ gb397)) k_ ∧ some k_ ≠ (u8 : Value).ownBlock)) (HL413_0.out) (fun k_ hk => ⟨⟨hk.2, ⟨hk.1.1, ⟨hk.1.2.1, ⟨hk.1.2.2.2.1, hk.1.2.2.2.2⟩⟩⟩⟩, hk.1.2.2.1⟩))).2.1 (Kd.V_F (by refine cV_ ?_; exact Kd.V_mono (ok' := (fun k_ => ((fun k_ => some k_ ≠ (.slice (some ad413) t386.length co8 : Value).ownBlock ∧ some k_ ≠ (.slice Ao9 t389.length co9 : Value).ownBlock ∧ some k_ ≠ (u7 : Value).ownBlock ∧ some k_ ≠ (.slice Ao13 t394.length co13 : Value).ownBlock ∧ k_ ≠ gb397)) k_ ∧ some k_ ≠ (u8 : Value).ownBlock)) (HL413_0.out) (fun k_ hk => ⟨⟨hk.2, ⟨hk.1.1, ⟨hk.1.2.1, ⟨hk.1.2.2.2.1, hk.1.2.2.2.2⟩⟩⟩⟩, hk.1.2.2.1⟩)))))); (case aB => exact b14_5); (case aF => exact (by exact (fun k_ hk => ⟨Kd.fresh' (Kd.N_lt (cN_ HO_3.out)) k_ hk, Kd.fresh' (Kd.N_lt (cN_ HO_4.out)) k_ hk, Kd.fresh' (Kd.N_lt (cN_ HO_7.out)) k_ hk, Kd.fresh' (Kd.N_lt (cN_ HO_398001.out)) k_ hk, Kd.freshB (g := gb397) (o := .cells #[.int .i64 t393, .slice Ao13 t394.length co13] 26 (0, 0)) (cO_ BK397.out) k_ hk⟩))); (case aO => exact cN_ HO_8.out); (case aS => exact (by exact (below_size b14_5))); (case aL => exact co_ LMc25.out); intro v415 w26 ho hb hg hat; rw [← Ny414.out] at ho; replace HO_3 := Aside0.mk (Kd.N_afterv (ok := (fun k_ => some k_ ≠ (.slice Ao9 t389.length co9 : Value).ownBlock ∧ some k_ ≠ (u7 : Value).ownBlock ∧ some k_ ≠ (.slice Ao13 t394.length co13 : Value).ownBlock ∧ k_ ≠ gb397)) (by refine cN_ ?_; exact Kd.N_mono HO_3.out (fun _ hk => ⟨⟨hk.1, ⟨hk.2.1, ⟨hk.2.2.2.1, hk.2.2.2.2⟩⟩⟩, hk.2.2.1⟩)) hg hat); replace HO_4 := Aside0.mk (Kd.N_afterv (ok := (fun k_ => some k_ ≠ (.slice (some ad413) t386.length co8 : Value).ownBlock ∧ some k_ ≠ (u7 : Value).ownBlock ∧ some k_ ≠ (.slice Ao13 t394.length co13 : Value).ownBlock ∧ k_ ≠ gb397)) (by refine cN_ ?_; exact Kd.N_mono HO_4.out (fun _ hk => ⟨⟨hk.1, ⟨hk.2.1, ⟨hk.2.2.2.1, hk.2.2.2.2⟩⟩⟩, hk.2.2.1⟩)) hg hat); replace HO_7 := Aside0.mk (Kd.N_afterv (ok := (fun k_ => some k_ ≠ (.slice (some ad413) t386.length co8 : Value).ownBlock ∧ some k_ ≠ (.slice Ao9 t389.length co9 : Value).ownBlock ∧ some k_ ≠ (.slice Ao13 t394.length co13 : Value).ownBlock ∧ k_ ≠ gb397)) (by refine cN_ ?_; exact Kd.N_mono HO_7.out (fun _ hk => ⟨⟨hk.1, ⟨hk.2.1, ⟨hk.2.2.2.1, hk.2.2.2.2⟩⟩⟩, hk.2.2.1⟩)) hg hat); replace HO_398001 := Aside0.mk (Kd.N_afterv (ok := (fun k_ => some k_ ≠ (.slice (some ad413) t386.length co8 : Value).ownBlock ∧ some k_ ≠ (.slice Ao9 t389.length co9 : Value).ownBlock ∧ some k_ ≠ (u7 : Value).ownBlock ∧ k_ ≠ gb397)) (by refine cN_ ?_; exact Kd.N_mono HO_398001.out (fun _ hk => ⟨⟨hk.1, ⟨hk.2.1, ⟨hk.2.2.1, hk.2.2.2.2⟩⟩⟩, hk.2.2.2.1⟩)) hg hat); replace BK397 := Aside0.mk (blk_grown (g := gb397) (o := .cells #[.int .i64 t393, .slice Ao13 t394.length co13] 26 (0, 0)) (cO_ BK397.out) hg (Kd.N_ne HO_8.out BK397.out (by decide))); replace HL413_0 := Aside0.mk (Kd.V_afterv (ok := (fun k_ => some k_ ≠ (.slice (some ad413) t386.length co8 : Value).ownBlock ∧ some k_ ≠ (.slice Ao9 t389.length co9 : Value).ownBlock ∧ some k_ ≠ (u7 : Value).ownBlock ∧ some k_ ≠ (.slice Ao13 t394.length co13 : Value).ownBlock ∧ k_ ≠ gb397)) (by refine cV_ ?_; exact Kd.V_mono HL413_0.out (fun _ hk => ⟨⟨hk.2, ⟨hk.1.1, ⟨hk.1.2.1, ⟨hk.1.2.2.2.1, hk.1.2.2.2.2⟩⟩⟩⟩, hk.1.2.2.1⟩)) hg hat); replace HB := Aside0.mk (hb); have HO416 := Aside0.mk (ho); clear HO_8; clear ho hb hg hat))
         go_roundg k1
         case measure => have := HK1.out; omega
         case rel => exact ⟨(x7_1), (y414), (wrap64 (x9_1 + 1)), cs_, H', ⟨co_ HK1.out⟩, ⟨by refine cN_ ?_; exact Kd.N_mono HO_3.out (fun _ hk => ⟨hk.1.1, ⟨hk.1.2.1, ⟨hk.2, ⟨hk.1.2.2.1, hk.1.2.2.2⟩⟩⟩⟩)⟩, ⟨by refine cN_ ?_; exact Kd.N_mono HO_4.out (fun _ hk => ⟨hk.1.1, ⟨hk.1.2.1, ⟨hk.2, ⟨hk.1.2.2.1, hk.1.2.2.2⟩⟩⟩⟩)⟩, ⟨by refine cN_ ?_; exact Kd.N_mono HO_7.out (fun _ hk => ⟨hk.1.1, ⟨hk.1.2.1, ⟨hk.2, ⟨hk.1.2.2.1, hk.1.2.2.2⟩⟩⟩⟩)⟩, ⟨cN_ HO416.out⟩, ⟨by refine cN_ ?_; exact Kd.N_mono HO_398001.out (fun _ hk => ⟨hk.1.1, ⟨hk.1.2.1, ⟨hk.1.2.2.1, ⟨hk.2, hk.1.2.2.2⟩⟩⟩⟩)⟩, ⟨cO_ BK397.out⟩, ⟨cB1_ GE397.out⟩⟩
        ·rw [if_neg c25] at H
         exact absurd H (by simp)
       ·rw [if_neg c24] at H
        exact absurd H (by simp)
     ·rw [if_neg c18] at H
      have c18b0 := decide_eq_false c18
      clear c18
      obtain ⟨⟨t417, t418⟩, A27, H⟩ := bnd_ H
      try dsimp only at H
      obtain ⟨⟨t422, t423⟩, A28, H⟩ := bnd_ H
      try dsimp only at H
      obtain ⟨⟨t427, t428⟩, A29, H⟩ := bnd_ H
      try dsimp only at H
      obtain ⟨⟨t432, t433⟩, A30, H⟩ := bnd_ H
      try dsimp only at H
      obtain ⟨⟨t436, t437⟩, A31, H⟩ := bnd_ H
      try dsimp only at H
      by_cases c32 : t417 = 0
      ·rw [if_pos c32] at H
       have c32b0 : (t417 == 0) = true := beq_iff_eq.mpr c32
       have c32b1 : (t417 != 0) = false := bne_eq_false_iff_eq.mpr c32
       clear c32
       by_cases c33 : t422 = 0
       ·rw [if_pos c33] at H
        have c33b0 : (t422 == 0) = true := beq_iff_eq.mpr c33
        have c33b1 : (t422 != 0) = false := bne_eq_false_iff_eq.mpr c33
        clear c33
        by_cases c34 : t427 = 0
        ·rw [if_pos c34] at H
         have c34b0 : (t427 == 0) = true := beq_iff_eq.mpr c34
         have c34b1 : (t427 != 0) = false := bne_eq_false_iff_eq.mpr c34
         clear c34
         obtain ⟨t441, A35, H⟩ := bnd_ H
         try dsimp only at H
         by_cases c36 : t441 = true
         ·subst c36
          rw [if_pos rfl] at H
          obtain ⟨t442, A37, H⟩ := bnd_ H
          try dsimp only at H
          by_cases c38 : t442 = 0
          ·rw [if_pos c38] at H
           have c38b0 : (t442 == 0) = true := beq_iff_eq.mpr c38
           have c38b1 : (t442 != 0) = false := bne_eq_false_iff_eq.mpr c38
           clear c38
           obtain ⟨⟨t443, t444⟩, A39, H⟩ := bnd_ H
           try dsimp only at H
           obtain ⟨t447, A40, H⟩ := bnd_ H
           try dsimp only at H
           obtain rfl := Option.some.inj H
           obtain ⟨Ao41, co41, eo_⟩ := Kd.N_slice HO_7.out
           subst eo_
           obtain ⟨Ao47, co47, eo_⟩ := Kd.N_slice HO_8.out
           subst eo_
           have HP := Aside0.mk (Pl.all HB.out ((Held.row0 HO_3.out).both ((Held.row0 HO_4.out).both ((Held.row0 HO_7.out).both ((Held.row0 HO_8.out).both ((Held.row0 HO_398001.out).both (Held.blk BK397.out)))))))
           clear HB HO_3 HO_4 HO_7 HO_8 HO_398001 BK397
           try go_wp2_with (first | (refine gl_ 40 (some 66) Try.func40 #[.slice Ao41 x7_1.length co41, .slice Ao9 t389.length co9, .int .i64 t392] ?_; (with_reducible refine (impl_JoinSets.calls k1 _ _ x7_1 _ _ t389 t392 t417 t418 _ HP.out.at0.2.2.1.1 HP.out.at0.2.2.1.2 HP.out.at0.2.1.1 HP.out.at0.2.1.2 A27.out).mono ?_); rintro e w42 ⟨v419, rfl, ho0, hb⟩; refine ⟨_, rfl, ?_⟩; obtain ⟨Ao46, co46, eo_⟩ := Kd.S_slice ho0; subst eo_; have n_ := Aside0.mk (HP.out.newS hb ho0); clear HP hb ho0; have HP := n_; clear n_) | (refine bx_ 10 #[.int .i64 0, .slice none 0 0] 26 ?_; intro gb421 hg w43 hbox hb; have HX := Aside0.mk (And.intro hg (And.intro hbox hb)); have hnb44 := (Pl.ne hg HP.out.at1.2.2.2.2.2).2; have hnc44 := (Pl.ne hg HP.out.at1.2.2.2.2.2).1; obtain ⟨hcz45_0, hcz45_1, hfz45_0, hfz45_1⟩ := cells2 hbox; clear hb hbox hg) | (refine gl_ 40 (some 70) Try.func40 #[.slice Ao47 x8_1.length co47, .slice Ao9 t389.length co9, .int .i64 t392] ?_; refine (HP.out.box2 HX.out).atCall ?_; intro wb3 hp_; clear HP HX; have HP := Aside0.mk hp_; clear hp_; (with_reducible refine (impl_JoinSets.calls k1 _ _ x8_1 _ _ t389 t392 t422 t423 _ HP.out.at2.2.2.2.1.1 HP.out.at2.2.2.2.1.2 HP.out.at2.2.1.1 HP.out.at2.2.1.2 A28.out).mono ?_); rintro e w48 ⟨v424, rfl, ho0, hb⟩; refine ⟨_, rfl, ?_⟩; obtain ⟨Ao53, co53, eo_⟩ := Kd.S_slice ho0; subst eo_; have n_ := Aside0.mk (HP.out.newS hb ho0); clear HP hb ho0; have HP := n_; clear n_) | (refine bx_ 11 #[.int .i64 0, .slice none 0 0] 26 ?_; intro gb426 hg w49 hbox hb; have HX := Aside0.mk (And.intro hg (And.intro hbox hb)); have hnb50 := (Pl.ne hg HP.out.at3.2.2.2.2.2).2; have hnc50 := (Pl.ne hg HP.out.at3.2.2.2.2.2).1; have hnb51 := (Pl.ne hg HP.out.at1).2; have hnc51 := (Pl.ne hg HP.out.at1).1; obtain ⟨hcz52_0, hcz52_1, hfz52_0, hfz52_1⟩ := cells2 hbox; obtain ⟨hcz54_0, hcz54_1, hfz54_0, hfz54_1⟩ := cells2 (HP.out.call hb).at1; clear hb hbox hg) | (refine gl_ 34 (some 75) Try.func34 #[.slice Ao46 t418.length co46, .slice Ao53 t423.length co53] ?_; refine (HP.out.box2 HX.out).atCall ?_; intro wb5 hp_; clear HP HX; have HP := Aside0.mk hp_; clear hp_; (with_reducible refine (impl_AddSets.calls k1 _ _ t418 _ _ t423 t427 t428 _ HP.out.at3.1 HP.out.at3.2 HP.out.at1.1 HP.out.at1.2 A29.out).mono ?_); rintro e w55 ⟨v429, rfl, ho0, hb⟩; refine ⟨_, rfl, ?_⟩; obtain ⟨Ao61, co61, eo_⟩ := Kd.S_slice ho0; subst eo_; have n_ := Aside0.mk (HP.out.newS hb ho0); clear HP hb ho0; have HP := n_; clear n_) | (refine bx_ 12 #[.int .i64 0, .slice none 0 0] 26 ?_; intro gb431 hg w56 hbox hb; have HX := Aside0.mk (And.intro hg (And.intro hbox hb)); have hnb57 := (Pl.ne hg HP.out.at5.2.2.2.2.2).2; have hnc57 := (Pl.ne hg HP.out.at5.2.2.2.2.2).1; have hnb58 := (Pl.ne hg HP.out.at3).2; have hnc58 := (Pl.ne hg HP.out.at3).1; have hnb59 := (Pl.ne hg HP.out.at1).2; have hnc59 := (Pl.ne hg HP.out.at1).1; obtain ⟨hcz60_0, hcz60_1, hfz60_0, hfz60_1⟩ := cells2 hbox; clear hb hbox hg) | (refine gl_ 36 (some 77) Try.func36 #[.slice Ao8 t386.length co8] ?_; refine (HP.out.box2 HX.out).atCall ?_; intro wb7 hp_; clear HP HX; have HP := Aside0.mk hp_; clear hp_; (with_reducible refine (impl_NegateSet.calls k1 _ _ t386 t432 t433 _ HP.out.at6.1.1 HP.out.at6.1.2 A30.out).mono ?_); rintro e w62 ⟨v434, rfl, ho0, hb⟩; refine ⟨_, rfl, ?_⟩; obtain ⟨Ao63, co63, eo_⟩ := Kd.S_slice ho0; subst eo_; have n_ := Aside0.mk (HP.out.newS hb ho0); clear HP hb ho0; have HP := n_; clear n_) | (refine gl_ 40 (some 81) Try.func40 #[.slice Ao63 t433.length co63, .slice Ao9 t389.length co9, .int .i64 t392] ?_; (with_reducible refine (impl_JoinSets.calls k1 _ _ t433 _ _ t389 t392 t436 t437 _ HP.out.at0.1 HP.out.at0.2 HP.out.at7.2.1.1 HP.out.at7.2.1.2 A31.out).mono ?_); rintro e w64 ⟨v438, rfl, ho0, hb⟩; refine ⟨_, rfl, ?_⟩; obtain ⟨Ao71, co71, eo_⟩ := Kd.S_slice ho0; subst eo_; have n_ := Aside0.mk (HP.out.newS hb ho0); clear HP hb ho0; have HP := n_; clear n_) | (refine bx_ 13 #[.int .i64 0, .slice none 0 0] 26 ?_; intro gb440 hg w65 hbox hb; have HX := Aside0.mk (And.intro hg (And.intro hbox hb)); have hnb66 := (Pl.ne hg HP.out.at8.2.2.2.2.2).2; have hnc66 := (Pl.ne hg HP.out.at8.2.2.2.2.2).1; have hnb67 := (Pl.ne hg HP.out.at6).2; have hnc67 := (Pl.ne hg HP.out.at6).1; have hnb68 := (Pl.ne hg HP.out.at4).2; have hnc68 := (Pl.ne hg HP.out.at4).1; have hnb69 := (Pl.ne hg HP.out.at2).2; have hnc69 := (Pl.ne hg HP.out.at2).1; obtain ⟨hcz70_0, hcz70_1, hfz70_0, hfz70_1⟩ := cells2 hbox; clear hb hbox hg))
           refine (HP.out.box2 HX.out).atRegion ?_
           intro wr369 hp_
           clear HP HX
           have HP := Aside0.mk hp_
           clear hp_
           refine start_ (n := 36) (S := fun w' => Aside0 (Pl w w' _)) (ds := []) (bl 36 0) (by kernel_rfl) rfl rfl ⟨HP.out.drew⟩ (fun hp_ => ?_); refine with_tabW laws_FnJoins.tab19 laws_FnJoins.bits19 (fun HT_ HW_ => ?_)
           clear HP
           generalize wr369.drew = wr369d at hp_ ⊢
           have HP := hp_
           clear hp_
           refine pv_ 0 82 (bl 36 1) ?_
           refine tv_ 1 83 (bl 36 3) rfl HP tl0 ?_
           refine pv_ 2 84 (bl 36 7) ?_
           refine pv_ 3 85 (bl 36 15) ?_
           refine pv_ 4 86 (bl 36 31) ?_
           refine tv_ 5 87 (bl 36 63) rfl HP tl0 ?_
           refine pv_ 6 88 (bl 36 127) ?_
           refine pv_ 7 89 (bl 36 255) ?_
           refine pv_ 8 90 (bl 36 511) ?_
           refine pv_ 9 91 (bl 36 1023) ?_
           refine tv_ 10 92 (bl 36 2047) rfl HP tl0 ?_
           refine pv_ 11 93 (bl 36 4095) ?_
           refine pv_ 12 94 (bl 36 8191) ?_
           refine pv_ 13 95 (bl 36 16383) ?_
           refine pv_ 14 96 (bl 36 32767) ?_
           refine pv_ 16 98 (bl 36 98303) ?_
           refine tv_ 15 97 (bl 36 131071) rfl HP tl0 ?_
           refine tv_ 17 99 (bl 36 262143) rfl HP tl0 ?_
           refine ov_ 18 100 (bl 36 524287) (fun K hK => ?_)
           refine goes_ Try.func27 (by kernel_rfl) rfl #[.slice Ao61 t428.length co61, .slice Ao13 t394.length co13] (by rfl) rfl rfl cx_ ?_
           with_reducible refine (impl_SameSets.calls k1 _ _ t428 _ _ t394 true _ HP.out.at4.1 HP.out.at4.2 HP.out.at9.2.2.2.2.1.1 HP.out.at9.2.2.2.2.1.2 A35.out).mono ?_
           rintro e w74 ⟨rfl, hb⟩
           refine ⟨_, rfl, ?_⟩
           have n_ := Aside0.mk (HP.out.call hb)
           clear HP hb
           have HP := n_
           clear n_
           refine hK.out _ _ HP (fun hp_ => ?_)
           clear hK K HP
           have HP := hp_
           clear hp_
           refine nm_ (some 100) ?_
           refine pv_ 19 101 (bl 36 1048575) ?_
           refine pv_ 20 102 (bl 36 2097151) ?_
           refine pv_ 21 103 (bl 36 4194303) ?_
           refine tv_ 22 104 (bl 36 8388607) rfl HP tl0 ?_
           refine ov_ 23 105 (bl 36 16777215) (fun K hK => ?_)
           refine goes_ Try.func26 (by kernel_rfl) rfl #[.slice Ao13 t394.length co13] (by rfl) rfl rfl cx_ ?_
           with_reducible refine (impl_SetFault.calls k1 _ _ t394 t442 _ HP.out.at9.2.2.2.2.1.1 HP.out.at9.2.2.2.2.1.2 A37.out).mono ?_
           rintro e w75 ⟨rfl, hb⟩
           refine ⟨_, rfl, ?_⟩
           have n_ := Aside0.mk (HP.out.call hb)
           clear HP hb
           have HP := n_
           clear n_
           refine hK.out _ _ HP (fun hp_ => ?_)
           clear hK K HP
           have HP := hp_
           clear hp_
           refine nm_ (some 105) ?_
           refine pv_ 24 106 (bl 36 33554431) ?_
           refine pv_ 25 107 (bl 36 67108863) ?_
           refine pv_ 26 108 (bl 36 134217727) ?_
           refine pv_ 27 109 (bl 36 268435455) ?_
           refine pv_ 29 111 (bl 36 805306367) ?_
           refine tv_ 28 110 (bl 36 1073741823) rfl HP tl0 ?_
           refine tv_ 30 112 (bl 36 2147483647) rfl HP tl0 ?_
           refine ov_ 31 113 (bl 36 4294967295) (fun K hK => ?_)
           refine goes_ Try.func36 (by kernel_rfl) rfl #[.slice Ao13 t394.length co13] (by rfl) rfl rfl cx_ ?_
           with_reducible refine (impl_NegateSet.calls k1 _ _ t394 t443 t444 _ HP.out.at9.2.2.2.2.1.1 HP.out.at9.2.2.2.2.1.2 A39.out).mono ?_
           rintro e w76 ⟨v445, rfl, ho0, hb⟩
           refine ⟨_, rfl, ?_⟩
           obtain ⟨Ao77, co77, eo_⟩ := Kd.S_slice ho0
           subst eo_
           have n_ := Aside0.mk (HP.out.newS hb ho0)
           clear HP hb ho0
           have HP := n_
           clear n_
           refine hK.out _ _ ⟨HP.out.tl⟩ (fun _ => ?_)
           clear hK K
           refine nm_ (some 113) ?_
           refine pv_ 32 114 (bl 36 8589934591) ?_
           refine ov_ 33 115 (bl 36 17179869183) (fun K hK => ?_)
           refine goes_ Try.func27 (by kernel_rfl) rfl #[.slice Ao71 t437.length co71, .slice Ao77 t444.length co77] (by rfl) rfl rfl cx_ ?_
           with_reducible refine (impl_SameSets.calls k1 _ _ t437 _ _ t444 t447 _ HP.out.at2.1 HP.out.at2.2 HP.out.at0.1 HP.out.at0.2 A40.out).mono ?_
           rintro e w78 ⟨rfl, hb⟩
           refine ⟨_, rfl, ?_⟩
           have n_ := Aside0.mk (HP.out.call hb)
           clear HP hb
           have HP := n_
           clear n_
           refine hK.out _ _ ⟨HP.out.tl⟩ (fun _ => ?_)
           clear hK K
           refine nm_ (some 115) ?_
           refine pv_ 34 116 (bl 36 34359738367) ?_
           refine pv_ 35 2 (bl 36 68719476735) ?_
           refine done_ (done_of HT_.out (by kernel_rfl)) ?_
           try go_wp2
           go_ret
           exact ⟨ce_, HP.out.below⟩
          ·rw [if_neg c38] at H
           have c38b0 : (t442 == 0) = false := beq_eq_false_iff_ne.mpr c38
           have c38b1 : (t442 != 0) = true := bne_iff_ne.mpr c38
           exact absurd ((Option.some.inj H).trans HRT_.out) (by decide)
         ·replace c36 := Bool.eq_false_iff.mpr c36
          subst c36
          rw [if_neg (show ¬ (false = true) by decide)] at H
          exact absurd ((Option.some.inj H).trans HRT_.out) (by decide)
        ·rw [if_neg c34] at H
         have c34b0 : (t427 == 0) = false := beq_eq_false_iff_ne.mpr c34
         have c34b1 : (t427 != 0) = true := bne_iff_ne.mpr c34
         exact absurd ((Option.some.inj H).trans HRT_.out) (by decide)
       ·rw [if_neg c33] at H
        have c33b0 : (t422 == 0) = false := beq_eq_false_iff_ne.mpr c33
        have c33b1 : (t422 != 0) = true := bne_iff_ne.mpr c33
        exact absurd ((Option.some.inj H).trans HRT_.out) (by decide)
      ·rw [if_neg c32] at H
       have c32b0 : (t417 == 0) = false := beq_eq_false_iff_ne.mpr c32
       have c32b1 : (t417 != 0) = true := bne_iff_ne.mpr c32
       exact absurd ((Option.some.inj H).trans HRT_.out) (by decide)
  ·rw [if_neg c6] at H
   have c6b0 : (t393 == 0) = false := beq_eq_false_iff_ne.mpr c6
   have c6b1 : (t393 != 0) = true := bne_iff_ne.mpr c6
   obtain ⟨⟨t398, t399⟩, A247, H⟩ := bnd_ H
   try dsimp only at H
   obtain rfl := Option.some.inj H
   go_enter Try.func10, Try.ntmps10
   try go_wp2_with (first | (refine gl_ 22 (some 15) Try.func22 #[.slice A0 l0.length c0] ?_; (with_reducible refine (laws_lwBig.calls _ _ l0 false _ (Kd.C_below HR0.out HP.out.below) HC0.out A2.out).mono ?_); rintro e wd1 ⟨rfl, hd⟩; refine ⟨_, rfl, ?_⟩; have n_ := Aside0.mk (HP.out.call hd.below); clear HP hd; have HP := n_; clear n_) | (refine gl_ 41 (some 18) Try.func41 #[.slice A0 l0.length c0] ?_; (with_reducible refine (spec_DrawJoinSets.calls k _ _ l0 t386 t389 t392 _ (Kd.C_below HR0.out HP.out.below) HC0.out A4.out).mono ?_); rintro e w248 ⟨v387, v390, rfl, ho0, ho1, hb⟩; refine ⟨_, rfl, ?_⟩; obtain ⟨Ao249, co249, eo_⟩ := Kd.N_slice ho0; subst eo_; obtain ⟨Ao250, co250, eo_⟩ := Kd.N_slice ho1; subst eo_; have n_ := Aside0.mk (HP.out.newNN hb ho0 ho1 (fun _ hk => hk.1) (fun _ hk => hk.1)); clear HP hb ho0 ho1; have HP := n_; clear n_) | (refine gl_ 40 (some 25) Try.func40 #[.slice Ao249 t386.length co249, .slice Ao250 t389.length co250, .int .i64 t392] ?_; (with_reducible refine (impl_JoinSets.calls k _ _ t386 _ _ t389 t392 t393 t394 _ HP.out.at0.1.1 HP.out.at0.1.2 HP.out.at0.2.1 HP.out.at0.2.2 A5.out).mono ?_); rintro e w251 ⟨v395, rfl, ho0, hb⟩; refine ⟨_, rfl, ?_⟩; obtain ⟨Ao254, co254, eo_⟩ := Kd.S_slice ho0; subst eo_; have n_ := Aside0.mk (HP.out.newS hb ho0); clear HP hb ho0; have HP := n_; clear n_) | (refine bx_ 6 #[.int .i64 0, .slice none 0 0] 26 ?_; intro gb397 hg w252 hbox hb; have HX := Aside0.mk (And.intro hg (And.intro hbox hb)); obtain ⟨hcz253_0, hcz253_1, hfz253_0, hfz253_1⟩ := cells2 hbox; clear hb hbox hg))
   refine (HP.out.box2 HX.out).atRegion ?_
   intro wr509 hp_
   clear HP HX
   have HP := Aside0.mk hp_
   clear hp_
   refine start_ (n := 9) (S := fun w' => Aside0 (Pl w w' _)) (ds := []) (bl 9 0) (by kernel_rfl) rfl rfl ⟨HP.out.drew⟩ (fun hp_ => ?_); refine with_tabW laws_FnJoins.tab6 laws_FnJoins.bits6 (fun HT_ HW_ => ?_)
   clear HP
   generalize wr509.drew = wr509d at hp_ ⊢
   have HP := hp_
   clear hp_
   refine pv_ 0 29 (bl 9 1) ?_
   refine pv_ 1 30 (bl 9 3) ?_
   refine pv_ 2 31 (bl 9 7) ?_
   refine pv_ 5 34 (bl 9 39) ?_
   refine tv_ 6 35 (bl 9 103) rfl HP tl1 ?_
   refine ov_ 3 32 (bl 9 111) (fun K hK => ?_)
   refine goes_ Try.func39 (by kernel_rfl) rfl #[.slice Ao249 t386.length co249, .slice Ao250 t389.length co250, .int .i64 t392] (by rfl) rfl rfl cx_ ?_
   with_reducible refine (spec_JoinSets.calls k _ _ t386 _ _ t389 t392 t398 t399 _ HP.out.at2.1.1 HP.out.at2.1.2 HP.out.at2.2.1 HP.out.at2.2.2 A247.out).mono ?_
   rintro e w257 ⟨v400, rfl, ho0, hb⟩
   refine ⟨_, rfl, ?_⟩
   have n_ := Aside0.mk (HP.out.call hb)
   clear HP hb ho0
   have HP := n_
   clear n_
   refine hK.out _ _ HP (fun hp_ => ?_)
   clear hK K HP
   have HP := hp_
   clear hp_
   refine nm_ (some 32) ?_
   refine pv_ 4 33 (bl 9 127) ?_
   refine pv_ 7 36 (bl 9 255) ?_
   refine pv_ 8 2 (bl 9 511) ?_
   refine done_ (done_of HT_.out (by kernel_rfl)) ?_
   try go_wp2
   go_ret
   exact ⟨ce_, HP.out.below⟩

/-- THE ONE PURE STATEMENT of laws_FnJoins: yours. -/
def laws_FnJoins.Pure : Prop := ∀ (l0 : List Int), l0.length ≤ maxLen → l0.length * 1 ≤ 140737488351232 → (∀ x ∈ l0, (Lit.int .u8 x).wf = true) → ∃ k, laws_FnJoins.f k l0 = some true
theorem laws_FnJoins.walk (P : laws_FnJoins.Pure) (a0 : Option Addr) (len0 cap0 : Nat) (z0 : List Int) (w : World) (w0 : (a0 = none ∧ len0 = 0 ∧ cap0 = 0 ∧ z0 = []) ∨ ∃ x, a0 = some x ∧ len0 ≤ cap0 ∧ cap0 ≤ maxLen ∧ z0.length = cap0 ∧ (∀ i, i < z0.length → w.cell? (x.add i) = some (.int .u8 (z0.getD i 0))) ∧ ∀ n ∈ z0, (Lit.int .u8 n).wf = true) (y0 : len0 * 1 ≤ 140737488351232) :
  Calls Try.prog 10 #[.slice a0 len0 cap0] w fun e w' => e = .returned (.bool true) ∧ Below w.heap.size w w' := by
 obtain ⟨l0, rfl, hr0, hm0, hw0, hc0⟩ := ReadsInt.ofRowC w0
 obtain ⟨k, h⟩ := P l0 hm0 y0 hw0
 refine (laws_FnJoins.calls k _ _ l0 true w (Kd.C_of_reads (d := (0 : Int)) (h1 := fun _ => rfl) hr0) hc0 h rfl).mono ?_
 rintro e w' ⟨rfl, hd⟩
 exact ⟨rfl, hd⟩

end Go.Proofs.Ythgmicingbjemaa.PFnJoins
