-- Written by fprint, a program of this session, out of Lean's own print of the translation. Lean checks it.
import Derived.Test.YthgmicingbjemaaDense
import Derived.Test.YthgmicingbjemaaShort
import Derived.Test.YthgmicingbjemaaPFnGroupsx0
import Derived.Test.YthgmicingbjemaaPFnGroupsx1
import Derived.Test.YthgmicingbjemaaPFnGroupsx2
import Derived.Test.YthgmicingbjemaaPFnGroupsx6
namespace Go.Proofs.Ythgmicingbjemaa.PFnGroups
open Go.RowKit Go.Proofs.YthgmicingbjemaaW.PrintWords Go.Proofs.YthgmicingbjemaaW.PrintLast Go.Proofs.YthgmicingbjemaaW.PrintMore
attribute [local go_sem] max2_int min2_int max_two min_two max_three min_three max_four min_four   -- for this text's walks alone
set_option linter.unusedVariables false
set_option linter.unusedSimpArgs false

theorem b12_4 {p : Prop} (h : p := by exact cC_ (Kd.C_below HR0.out HB.out)) : p := h
/-! ### slices_BinarySearchFunc_impl_byRow: function 114 -/
def slices_BinarySearchFunc_impl_byRow.l0 : Nat → List (S42) → Int → Int → Int → List Int → Int → Option (Int × Bool)
 | 0, _, _, _, _, _, _ => none
 | k + 1, x0, x8, x9, x10, x362000, x362001 => if x9 < x10 then (if 0 ≤ (wrap64 ((IntKind.u64.wrap (wrap64 (x9 + x10))) / 2)) then (if (wrap64 ((IntKind.u64.wrap (wrap64 (x9 + x10))) / 2)) < (x0.length : Int) then ((impl_byRow.f k ((rd_T42 x0 (wrap64 ((IntKind.u64.wrap (wrap64 (x9 + x10))) / 2))).f0) ((rd_T42 x0 (wrap64 ((IntKind.u64.wrap (wrap64 (x9 + x10))) / 2))).f1) x362000 x362001).bind fun t363 => (if t363 < 0 then (slices_BinarySearchFunc_impl_byRow.l0 k x0 x8 (wrap64 ((wrap64 ((IntKind.u64.wrap (wrap64 (x9 + x10))) / 2)) + 1)) x10 x362000 x362001) else (slices_BinarySearchFunc_impl_byRow.l0 k x0 x8 x9 (wrap64 ((IntKind.u64.wrap (wrap64 (x9 + x10))) / 2)) x362000 x362001))) else (none)) else (none)) else (if x9 < x8 then (if 0 ≤ x9 then (if x9 < (x0.length : Int) then ((impl_byRow.f k ((rd_T42 x0 x9).f0) ((rd_T42 x0 x9).f1) x362000 x362001).bind fun t365 => (some (x9, (t365 == 0)))) else (none)) else (none)) else (some (x9, false)))
def slices_BinarySearchFunc_impl_byRow.f (k : Nat) (l0 : List (S42)) (l1_0 : List Int) (a1_1 : Int) (a2 : Unit) : Option (Int × Bool) := slices_BinarySearchFunc_impl_byRow.l0 k l0 (l0.length : Int) 0 (l0.length : Int) l1_0 a1_1
theorem slices_BinarySearchFunc_impl_byRow.mono_l : ∀ k, (∀ y0 y1 y2 y3 y4 y5, LeO (slices_BinarySearchFunc_impl_byRow.l0 k y0 y1 y2 y3 y4 y5) (slices_BinarySearchFunc_impl_byRow.l0 (k + 1) y0 y1 y2 y3 y4 y5))
 | 0 => fun _ _ _ _ _ _ r h => by simp [slices_BinarySearchFunc_impl_byRow.l0] at h
 | k + 1 => by
  have ih0 := slices_BinarySearchFunc_impl_byRow.mono_l k
  ·intro y0 y1 y2 y3 y4 y5
   unfold slices_BinarySearchFunc_impl_byRow.l0
   repeat' first
   | (with_reducible exact ih0 _ _ _ _ _ _)
   | (with_reducible exact impl_byRow.mono _ _ _ _ _)
   | (with_reducible exact LeO.refl _)
   | (with_reducible exact LeO.none _)
   | (with_reducible refine LeO.ite ?_ ?_)
   | (with_reducible refine LeO.bind ?_ (fun _ => ?_))
   | exact ih0 _ _ _ _ _ _
   | exact impl_byRow.mono _ _ _ _ _
   | exact LeO.none _
   | refine LeO.ite ?_ ?_
   | refine LeO.bind ?_ (fun _ => ?_)
theorem slices_BinarySearchFunc_impl_byRow.mono : ∀ a0 a1 a2 a3 k, LeO (slices_BinarySearchFunc_impl_byRow.f k a0 a1 a2 a3) (slices_BinarySearchFunc_impl_byRow.f (k + 1) a0 a1 a2 a3) := by
 intro a0 a1 a2 a3 k
 have ih0 := slices_BinarySearchFunc_impl_byRow.mono_l k
 unfold slices_BinarySearchFunc_impl_byRow.f
 repeat' first
   | (with_reducible exact ih0 _ _ _ _ _ _)
   | (with_reducible exact impl_byRow.mono _ _ _ _ _)
   | (with_reducible exact LeO.refl _)
   | (with_reducible exact LeO.none _)
   | (with_reducible refine LeO.ite ?_ ?_)
   | (with_reducible refine LeO.bind ?_ (fun _ => ?_))
   | exact ih0 _ _ _ _ _ _
   | exact impl_byRow.mono _ _ _ _ _
   | exact LeO.none _
   | refine LeO.ite ?_ ?_
   | refine LeO.bind ?_ (fun _ => ?_)
def slices_BinarySearchFunc_impl_byRow.T5 : Bool × List (List Nat × List Nat) := (true, [([], []), ([], []), ([], []), ([1, 2], [1, 2]), ([3], [3]), ([], []), ([0, 4, 5], [0, 4, 5]), ([6], [6])])
def slices_BinarySearchFunc_impl_byRow.B5 : List Nat := [0, 0, 0, 6, 14, 0, 63, 127]
theorem slices_BinarySearchFunc_impl_byRow.tab5 : rtab .any (opsOf Try.f114 5) = slices_BinarySearchFunc_impl_byRow.T5 := by kernel_rfl
theorem slices_BinarySearchFunc_impl_byRow.bits5 : waitsOk slices_BinarySearchFunc_impl_byRow.T5.2 slices_BinarySearchFunc_impl_byRow.B5 = true := by kernel_rfl
def slices_BinarySearchFunc_impl_byRow.T8 : Bool × List (List Nat × List Nat) := (true, [([], []), ([], []), ([], []), ([1, 2], [1, 2]), ([3], [3]), ([4], [4]), ([4], [4]), ([4], [4]), ([6, 7, 4], [4, 6, 7]), ([8, 4], [4, 8]), ([4], [4]), ([5, 9, 10, 4, 4], [4, 5, 9, 10]), ([11, 4], [4, 11]), ([4, 12], [4, 12]), ([0, 11, 0], [0]), ([13, 14, 0, 1, 2, 3, 4, 5, 6, 7, 8, 9, 10, 11, 12, 13, 14], [13])])
def slices_BinarySearchFunc_impl_byRow.B8 : List Nat := [0, 0, 0, 6, 14, 30, 30, 30, 222, 478, 30, 2046, 4094, 8190, 4095, 32767]
theorem slices_BinarySearchFunc_impl_byRow.tab8 : rtab .any (opsOf Try.f114 8) = slices_BinarySearchFunc_impl_byRow.T8 := by kernel_rfl
theorem slices_BinarySearchFunc_impl_byRow.bits8 : waitsOk slices_BinarySearchFunc_impl_byRow.T8.2 slices_BinarySearchFunc_impl_byRow.B8 = true := by kernel_rfl
set_option maxHeartbeats 8000000 in
set_option maxRecDepth 100000 in
theorem slices_BinarySearchFunc_impl_byRow.calls (k : Nat) (A0 : Option Addr) (c0 : Nat) (l0 : List (S42)) (A1_0 : Option Addr) (c1_0 : Nat) (l1_0 : List Int) (a1_1 : Int) (a2 : Unit) (r1 : Int) (r2 : Bool) (w : World) (hr0 : Kd.C k42 w A0 l0.length l0) (hc0 : l0.length ≤ c0) (hr1_0 : Kd.C (Kd.int .i64) w A1_0 l1_0.length l1_0) (hc1_0 : l1_0.length ≤ c1_0) (h : slices_BinarySearchFunc_impl_byRow.f k l0 l1_0 a1_1 a2 = some (r1, r2)) :
  Calls Try.prog 114 #[.slice A0 l0.length c0, .agg #[.slice A1_0 l1_0.length c1_0, .int .i64 a1_1], .func (.func 93) #[] #[]] w fun e w' => e = .returned (.tuple #[.int .i64 r1, .bool r2]) ∧ Below w.heap.size w w' := by
 have hu42 := Try.underlying42
 have HR0 := Aside0.mk hr0
 have HC0 := Aside0.mk hc0
 clear hr0 hc0
 have HR1_0 := Aside0.mk hr1_0
 have HC1_0 := Aside0.mk hc1_0
 clear hr1_0 hc1_0
 have HB := Aside0.mk (Below.refl w.heap.size w)
 have H : (slices_BinarySearchFunc_impl_byRow.l0 k l0 (l0.length : Int) 0 (l0.length : Int) l1_0 a1_1) = some (r1, r2) := h
 clear h
 have H' := Aside0.mk H
 clear H
 go_enter Try.func114, Try.ntmps114
 go_wp2_with (first | (refine bx_ 4 #[.slice A1_0 l1_0.length c1_0, .int .i64 a1_1] 42 ?_; intro gb361 hg w4 hbox hb; have BK361 := Aside0.mk (hbox); have GW361 := Aside0.mk ((by rw [hg]; exact (below_size cB0_) : w.heap.size ≤ gb361)); have GE361 := Aside0.mk ((by rw [hg]; exact (below_size cB0_) : w.heap.size ≤ gb361)); replace HB := Aside0.mk (below_step cB0_ hb); clear hb hbox hg))
 go_loopg [9, 10] k (fun kq v9 v10 w' => ∃ (x9_1 : Int) (x10_1 : Int), v9 = .int .i64 x9_1 ∧ v10 = .int .i64 x10_1 ∧ Aside0 (slices_BinarySearchFunc_impl_byRow.l0 kq l0 (l0.length : Int) x9_1 x10_1 l1_0 a1_1 = some (r1, r2)) ∧ Aside0 (kq ≤ k) ∧ Aside0 (w'.heap[gb361]? = some (.cells #[(.slice A1_0 l1_0.length c1_0), .int .i64 a1_1] 42 (0, 0))) ∧ Aside0 (Below w.heap.size w w'))
 case atStart => exact ⟨(0), ((l0.length : Int)), cs_, cs_, H', ⟨Nat.le_refl _⟩, ⟨cO_ BK361.out⟩, ⟨cB1_ GE361.out⟩⟩
 case round =>
  clear H'
  try clear c1
  try clear p2
  obtain ⟨x9_1, x10_1, rfl, rfl, HA, HK1, BK361, HB⟩ := hrel
  cases gk with
  | zero => exact absurd HA.out (by simp [slices_BinarySearchFunc_impl_byRow.l0])
  | succ k1 =>
   have H := HA.out
   clear HA
   simp only [slices_BinarySearchFunc_impl_byRow.l0] at H
   by_cases c5 : x9_1 < x10_1
   ·rw [if_pos c5] at H
    have c5b0 : decide (x9_1 < x10_1) = true := decide_eq_true c5
    clear c5
    obtain ⟨ji6, hji6⟩ : ∃ j_ : Int, (wrap64 ((IntKind.u64.wrap (wrap64 (x9_1 + x10_1))) / 2)) = j_ := ⟨_, rfl⟩
    replace H : (if 0 ≤ (ji6) then (if (ji6) < (l0.length : Int) then ((impl_byRow.f k1 ((rd_T42 l0 (ji6)).f0) ((rd_T42 l0 (ji6)).f1) l1_0 a1_1).bind fun t363 => (if t363 < 0 then (slices_BinarySearchFunc_impl_byRow.l0 k1 l0 (l0.length : Int) (wrap64 ((ji6) + 1)) x10_1 l1_0 a1_1) else (slices_BinarySearchFunc_impl_byRow.l0 k1 l0 (l0.length : Int) x9_1 ji6 l1_0 a1_1))) else (none)) else (none)) = some (r1, r2) := by first | (rw [hji6] at H; exact H) | (simp only [hji6] at H ⊢; exact H)
    have hji6w : (IntKind.i64.wrap ((IntKind.u64.wrap (wrap64 (x9_1 + x10_1))) / 2)) = ji6 := (i64_w _).trans hji6
    by_cases c7 : 0 ≤ (ji6)
    ·rw [if_pos c7] at H
     have c7b0 : decide (0 ≤ (ji6)) = true := decide_eq_true c7
     clear c7
     by_cases c8 : (ji6) < (l0.length : Int)
     ·rw [if_pos c8] at H
      have c8b0 : decide ((ji6) < (l0.length : Int)) = true := decide_eq_true c8
      clear c8
      obtain ⟨t363, A9, H⟩ := bnd_ H
      try dsimp only at H
      by_cases c10 : t363 < 0
      ·rw [if_pos c10] at H
       have c10b0 : decide (t363 < 0) = true := decide_eq_true c10
       clear c10
       have H' := Aside0.mk H
       clear H
       try go_wp2
       replace BK361 := Aside0.mk (blk_drew BK361.out)
       replace HB := Aside0.mk (below_drew1 HB.out)
       have p362 : 0 ≤ ((ji6) : Int) := of_decide_eq_true ca_
       have q362 : (ji6) < (l0.length : Int) := of_decide_eq_true ca_
       obtain ⟨ad362, A362_0, c362_0, e362, hx362_0, hx362_1, hl362_0, hi362_0⟩ := at_T42 HR0.out (ji6) p362 q362
       have hw362_1 := hx362_1
       have hw362_0 := hx362_0
       cases e362
       replace hx362_0 := (HB.out.cell (World.block_lt_of_cell? w _ hx362_0)).trans hx362_0
       replace hx362_1 := (HB.out.cell (World.block_lt_of_cell? w _ hx362_1)).trans hx362_1
       have HR362_0 := Aside0.mk hi362_0
       have HC362_0 := Aside0.mk hl362_0
       clear hi362_0 hl362_0
       replace p362 := eq_true p362
       replace q362 := eq_true q362
       refine start_ (n := 8) (S := fun w' => w'.cell? ⟨gb361, 0, none⟩ = some (.slice A1_0 l1_0.length c1_0) ∧ w'.cell? ⟨gb361, 1, none⟩ = some (.int .i64 a1_1) ∧ w'.cell? (ad362.add (((ji6)).toNat * 2)) = some (.slice A362_0 ((rd_T42 l0 (ji6)).f0).length c362_0) ∧ w'.cell? ⟨(ad362.add (((ji6)).toNat * 2)).block, (ad362.add (((ji6)).toNat * 2)).off + 1, none⟩ = some (.int .i64 ((rd_T42 l0 (ji6)).f1))) (ds := []) (bl 8 0) (by kernel_rfl) rfl rfl ⟨(blk_cell BK361.out 0).trans rfl, (blk_cell BK361.out 1).trans rfl, ((HB.out.cell (World.block_lt_of_cell? w _ hw362_0)).trans hw362_0), ((HB.out.cell (World.block_lt_of_cell? w _ hw362_1)).trans hw362_1)⟩ (fun hHeld => ?_); refine with_tabW slices_BinarySearchFunc_impl_byRow.tab5 slices_BinarySearchFunc_impl_byRow.bits5 (fun HT_ HW_ => ?_)
       generalize wr.drew = w11 at BK361 HB HR362_0 hx362_0 hx362_1 hHeld ⊢
       refine pu_ 0 (some 24) (bl 8 1) HT_.out rfl ?_
       refine pu_ 1 (some 25) (bl 8 3) HT_.out rfl ?_
       refine pu_ 2 (some 26) (bl 8 7) HT_.out rfl ?_
       refine pu_ 3 (some 27) (bl 8 15) HT_.out rfl ?_
       refine tw_ 4 (some 28) (bl 8 31) HT_.out HW_.out rfl hHeld (fun w' s_ => by obtain ⟨s0, s1, s2, s3⟩ := s_; go_simp; with_reducible rfl) ?_
       refine tw_ 5 (some 29) (bl 8 63) HT_.out HW_.out rfl hHeld (fun w' s_ => by obtain ⟨s0, s1, s2, s3⟩ := s_; go_simp; with_reducible rfl) ?_
       refine on_ 6 (some 30) (bl 8 127) HT_.out rfl (fun K hK => ?_)
       refine goesG_ Try.func93 (by kernel_rfl) rfl #[.agg #[.slice A362_0 ((rd_T42 l0 (ji6)).f0).length c362_0, .int .i64 ((rd_T42 l0 (ji6)).f1)], .agg #[.slice A1_0 l1_0.length c1_0, .int .i64 a1_1]] (by rfl) rfl rfl (by rfl) (by (try simp only [List.map_toArray, List.map_cons, List.map_nil]); first | done | (simp only [hji6]; rfl) | rfl | (simp only [List.length_drop, List.length_take]; rfl)) ?_
       with_reducible refine (impl_byRow.calls k1 _ _ ((rd_T42 l0 (ji6)).f0) ((rd_T42 l0 (ji6)).f1) _ _ l1_0 a1_1 t363 _ ?side1 ?side2 ?side3 ?side4 A9.out).mono ?_
       (case side1 => exact cC_ (Kd.C_below HR362_0.out HB.out))
       (case side2 => exact HC362_0.out)
       (case side3 => exact cC_ (Kd.C_below HR1_0.out HB.out))
       (case side4 => exact HC1_0.out)
       rintro e w12 ⟨rfl, hb⟩
       refine ⟨_, rfl, ?_⟩
       replace BK361 := Aside0.mk (blk_below (g := gb361) (o := .cells #[.slice A1_0 l1_0.length c1_0, .int .i64 a1_1] 42 (0, 0)) (cO_ BK361.out) hb)
       replace HB := Aside0.mk (below_step (cB1_ GE361.out) hb)
       (try clear hb)
       (try clear hb2)
       (try clear hk)
       (try clear hi)
       refine hK.out _ _ ⟨(blk_cell BK361.out 0).trans rfl, (blk_cell BK361.out 1).trans rfl, ((HB.out.cell (World.block_lt_of_cell? w _ hw362_0)).trans hw362_0), ((HB.out.cell (World.block_lt_of_cell? w _ hw362_1)).trans hw362_1)⟩ (fun hHeld => ?_)
       clear hK K
       refine norm_ (a' := ?_) ?_ ?_
       rotate_left
       ·show Act.put _ (some 30) _ = _
        simp only [Act.put, List.setIfInBounds_toArray, List.set_cons_zero, List.set_cons_succ, i64_w, i32_w]
        rfl
       refine pu_ 7 (some 31) (bl 8 255) HT_.out rfl ?_
       refine done_ (done_of HT_.out (by kernel_rfl)) ?_
       try go_wp2
       go_roundg k1
       case measure => have := HK1.out; omega
       case rel => exact ⟨(wrap64 ((ji6) + 1)), (x10_1), (by first | rfl | (simp; done) | (simp only [← hji6] <;> (first | rfl | simp)) | (simp [*]; done)), cs_, H', ⟨co_ HK1.out⟩, ⟨cO_ BK361.out⟩, ⟨cB1_ GE361.out⟩⟩
      ·rw [if_neg c10] at H
       have c10b0 : decide (t363 < 0) = false := decide_eq_false c10
       clear c10
       have H' := Aside0.mk H
       clear H
       try go_wp2
       replace BK361 := Aside0.mk (blk_drew BK361.out)
       replace HB := Aside0.mk (below_drew1 HB.out)
       have p362 : 0 ≤ ((ji6) : Int) := of_decide_eq_true ca_
       have q362 : (ji6) < (l0.length : Int) := of_decide_eq_true ca_
       obtain ⟨ad362, A362_0, c362_0, e362, hx362_0, hx362_1, hl362_0, hi362_0⟩ := at_T42 HR0.out (ji6) p362 q362
       have hw362_1 := hx362_1
       have hw362_0 := hx362_0
       cases e362
       replace hx362_0 := (HB.out.cell (World.block_lt_of_cell? w _ hx362_0)).trans hx362_0
       replace hx362_1 := (HB.out.cell (World.block_lt_of_cell? w _ hx362_1)).trans hx362_1
       have HR362_0 := Aside0.mk hi362_0
       have HC362_0 := Aside0.mk hl362_0
       clear hi362_0 hl362_0
       replace p362 := eq_true p362
       replace q362 := eq_true q362
       refine start_ (n := 8) (S := fun w' => w'.cell? ⟨gb361, 0, none⟩ = some (.slice A1_0 l1_0.length c1_0) ∧ w'.cell? ⟨gb361, 1, none⟩ = some (.int .i64 a1_1) ∧ w'.cell? (ad362.add (((ji6)).toNat * 2)) = some (.slice A362_0 ((rd_T42 l0 (ji6)).f0).length c362_0) ∧ w'.cell? ⟨(ad362.add (((ji6)).toNat * 2)).block, (ad362.add (((ji6)).toNat * 2)).off + 1, none⟩ = some (.int .i64 ((rd_T42 l0 (ji6)).f1))) (ds := []) (bl 8 0) (by kernel_rfl) rfl rfl ⟨(blk_cell BK361.out 0).trans rfl, (blk_cell BK361.out 1).trans rfl, ((HB.out.cell (World.block_lt_of_cell? w _ hw362_0)).trans hw362_0), ((HB.out.cell (World.block_lt_of_cell? w _ hw362_1)).trans hw362_1)⟩ (fun hHeld => ?_); refine with_tabW slices_BinarySearchFunc_impl_byRow.tab5 slices_BinarySearchFunc_impl_byRow.bits5 (fun HT_ HW_ => ?_)
       generalize wr.drew = w13 at BK361 HB HR362_0 hx362_0 hx362_1 hHeld ⊢
       refine pu_ 0 (some 24) (bl 8 1) HT_.out rfl ?_
       refine pu_ 1 (some 25) (bl 8 3) HT_.out rfl ?_
       refine pu_ 2 (some 26) (bl 8 7) HT_.out rfl ?_
       refine pu_ 3 (some 27) (bl 8 15) HT_.out rfl ?_
       refine tw_ 4 (some 28) (bl 8 31) HT_.out HW_.out rfl hHeld (fun w' s_ => by obtain ⟨s0, s1, s2, s3⟩ := s_; go_simp; with_reducible rfl) ?_
       refine tw_ 5 (some 29) (bl 8 63) HT_.out HW_.out rfl hHeld (fun w' s_ => by obtain ⟨s0, s1, s2, s3⟩ := s_; go_simp; with_reducible rfl) ?_
       refine on_ 6 (some 30) (bl 8 127) HT_.out rfl (fun K hK => ?_)
       refine goesG_ Try.func93 (by kernel_rfl) rfl #[.agg #[.slice A362_0 ((rd_T42 l0 (ji6)).f0).length c362_0, .int .i64 ((rd_T42 l0 (ji6)).f1)], .agg #[.slice A1_0 l1_0.length c1_0, .int .i64 a1_1]] (by rfl) rfl rfl (by rfl) (by (try simp only [List.map_toArray, List.map_cons, List.map_nil]); first | done | (simp only [hji6]; rfl) | rfl | (simp only [List.length_drop, List.length_take]; rfl)) ?_
       with_reducible refine (impl_byRow.calls k1 _ _ ((rd_T42 l0 (ji6)).f0) ((rd_T42 l0 (ji6)).f1) _ _ l1_0 a1_1 t363 _ ?side1 ?side2 ?side3 ?side4 A9.out).mono ?_
       (case side1 => exact cC_ (Kd.C_below HR362_0.out HB.out))
       (case side2 => exact HC362_0.out)
       (case side3 => exact cC_ (Kd.C_below HR1_0.out HB.out))
       (case side4 => exact HC1_0.out)
       rintro e w14 ⟨rfl, hb⟩
       refine ⟨_, rfl, ?_⟩
       replace BK361 := Aside0.mk (blk_below (g := gb361) (o := .cells #[.slice A1_0 l1_0.length c1_0, .int .i64 a1_1] 42 (0, 0)) (cO_ BK361.out) hb)
       replace HB := Aside0.mk (below_step (cB1_ GE361.out) hb)
       (try clear hb)
       (try clear hb2)
       (try clear hk)
       (try clear hi)
       refine hK.out _ _ ⟨(blk_cell BK361.out 0).trans rfl, (blk_cell BK361.out 1).trans rfl, ((HB.out.cell (World.block_lt_of_cell? w _ hw362_0)).trans hw362_0), ((HB.out.cell (World.block_lt_of_cell? w _ hw362_1)).trans hw362_1)⟩ (fun hHeld => ?_)
       clear hK K
       refine norm_ (a' := ?_) ?_ ?_
       rotate_left
       ·show Act.put _ (some 30) _ = _
        simp only [Act.put, List.setIfInBounds_toArray, List.set_cons_zero, List.set_cons_succ, i64_w, i32_w]
        rfl
       refine pu_ 7 (some 31) (bl 8 255) HT_.out rfl ?_
       refine done_ (done_of HT_.out (by kernel_rfl)) ?_
       try go_wp2
       go_roundg k1
       case measure => have := HK1.out; omega
       case rel => exact ⟨(x9_1), (ji6), cs_, (by first | rfl | (simp; done) | (simp only [← hji6] <;> (first | rfl | simp)) | (simp [*]; done)), H', ⟨co_ HK1.out⟩, ⟨cO_ BK361.out⟩, ⟨cB1_ GE361.out⟩⟩
     ·rw [if_neg c8] at H
      exact absurd H (by simp)
    ·rw [if_neg c7] at H
     exact absurd H (by simp)
   ·rw [if_neg c5] at H
    have c5b0 : decide (x9_1 < x10_1) = false := decide_eq_false c5
    clear c5
    by_cases c15 : x9_1 < (l0.length : Int)
    ·rw [if_pos c15] at H
     have c15b0 : decide (x9_1 < (l0.length : Int)) = true := decide_eq_true c15
     clear c15
     by_cases c16 : 0 ≤ x9_1
     ·rw [if_pos c16] at H
      have c16b0 : decide (0 ≤ x9_1) = true := decide_eq_true c16
      clear c16
      by_cases c17 : x9_1 < (l0.length : Int)
      ·rw [if_pos c17] at H
       have c17b0 : decide (x9_1 < (l0.length : Int)) = true := decide_eq_true c17
       clear c17
       obtain ⟨t365, A18, H⟩ := bnd_ H
       try dsimp only at H
       simp only [Option.some.injEq, Prod.mk.injEq] at H
       obtain ⟨rfl, rfl⟩ := H
       try go_wp2
       replace BK361 := Aside0.mk (blk_drew BK361.out)
       replace HB := Aside0.mk (below_drew1 HB.out)
       have p364 : 0 ≤ (x9_1 : Int) := of_decide_eq_true ca_
       have q364 : x9_1 < (l0.length : Int) := of_decide_eq_true ca_
       obtain ⟨ad364, A364_0, c364_0, e364, hx364_0, hx364_1, hl364_0, hi364_0⟩ := at_T42 HR0.out x9_1 p364 q364
       have hw364_1 := hx364_1
       have hw364_0 := hx364_0
       cases e364
       replace hx364_0 := (HB.out.cell (World.block_lt_of_cell? w _ hx364_0)).trans hx364_0
       replace hx364_1 := (HB.out.cell (World.block_lt_of_cell? w _ hx364_1)).trans hx364_1
       have HR364_0 := Aside0.mk hi364_0
       have HC364_0 := Aside0.mk hl364_0
       clear hi364_0 hl364_0
       replace p364 := eq_true p364
       replace q364 := eq_true q364
       refine start_ (n := 16) (S := fun w' => w'.cell? ⟨gb361, 0, none⟩ = some (.slice A1_0 l1_0.length c1_0) ∧ w'.cell? ⟨gb361, 1, none⟩ = some (.int .i64 a1_1) ∧ w'.cell? (ad364.add ((x9_1).toNat * 2)) = some (.slice A364_0 ((rd_T42 l0 x9_1).f0).length c364_0) ∧ w'.cell? ⟨(ad364.add ((x9_1).toNat * 2)).block, (ad364.add ((x9_1).toNat * 2)).off + 1, none⟩ = some (.int .i64 ((rd_T42 l0 x9_1).f1))) (ds := []) (bl 16 0) (by kernel_rfl) rfl rfl ⟨(blk_cell BK361.out 0).trans rfl, (blk_cell BK361.out 1).trans rfl, ((HB.out.cell (World.block_lt_of_cell? w _ hw364_0)).trans hw364_0), ((HB.out.cell (World.block_lt_of_cell? w _ hw364_1)).trans hw364_1)⟩ (fun hHeld => ?_); refine with_tabW slices_BinarySearchFunc_impl_byRow.tab8 slices_BinarySearchFunc_impl_byRow.bits8 (fun HT_ HW_ => ?_)
       generalize wr.drew = w19 at BK361 HB HR364_0 hx364_0 hx364_1 hHeld ⊢
       refine pu_ 0 (some 35) (bl 16 1) HT_.out rfl ?_
       refine pu_ 1 (some 36) (bl 16 3) HT_.out rfl ?_
       refine pu_ 2 (some 37) (bl 16 7) HT_.out rfl ?_
       refine pu_ 3 (some 38) (bl 16 15) HT_.out rfl ?_
       refine pu_ 4 (some 39) (bl 16 31) HT_.out rfl ?_
       refine pu_ 5 (some 40) (bl 16 63) HT_.out rfl ?_
       refine pu_ 6 (some 41) (bl 16 127) HT_.out rfl ?_
       refine pu_ 7 (some 42) (bl 16 255) HT_.out rfl ?_
       refine pu_ 8 (some 43) (bl 16 511) HT_.out rfl ?_
       refine tw_ 9 (some 44) (bl 16 1023) HT_.out HW_.out rfl hHeld (fun w' s_ => by obtain ⟨s0, s1, s2, s3⟩ := s_; go_simp; with_reducible rfl) ?_
       refine tw_ 10 (some 45) (bl 16 2047) HT_.out HW_.out rfl hHeld (fun w' s_ => by obtain ⟨s0, s1, s2, s3⟩ := s_; go_simp; with_reducible rfl) ?_
       refine on_ 11 (some 46) (bl 16 4095) HT_.out rfl (fun K hK => ?_)
       refine goesG_ Try.func93 (by kernel_rfl) rfl #[.agg #[.slice A364_0 ((rd_T42 l0 x9_1).f0).length c364_0, .int .i64 ((rd_T42 l0 x9_1).f1)], .agg #[.slice A1_0 l1_0.length c1_0, .int .i64 a1_1]] (by rfl) rfl rfl (by rfl) cx_ ?_
       with_reducible refine (impl_byRow.calls k1 _ _ ((rd_T42 l0 x9_1).f0) ((rd_T42 l0 x9_1).f1) _ _ l1_0 a1_1 t365 _ ?side1 ?side2 ?side3 ?side4 A18.out).mono ?_
       (case side1 => exact cC_ (Kd.C_below HR364_0.out HB.out))
       (case side2 => exact HC364_0.out)
       (case side3 => exact cC_ (Kd.C_below HR1_0.out HB.out))
       (case side4 => exact HC1_0.out)
       rintro e w20 ⟨rfl, hb⟩
       refine ⟨_, rfl, ?_⟩
       replace BK361 := Aside0.mk (blk_below (g := gb361) (o := .cells #[.slice A1_0 l1_0.length c1_0, .int .i64 a1_1] 42 (0, 0)) (cO_ BK361.out) hb)
       replace HB := Aside0.mk (below_step (cB1_ GE361.out) hb)
       (try clear hb)
       (try clear hb2)
       (try clear hk)
       (try clear hi)
       refine hK.out _ _ ⟨(blk_cell BK361.out 0).trans rfl, (blk_cell BK361.out 1).trans rfl, ((HB.out.cell (World.block_lt_of_cell? w _ hw364_0)).trans hw364_0), ((HB.out.cell (World.block_lt_of_cell? w _ hw364_1)).trans hw364_1)⟩ (fun hHeld => ?_)
       clear hK K
       refine norm_ (a' := ?_) ?_ ?_
       rotate_left
       ·show Act.put _ (some 46) _ = _
        simp only [Act.put, List.setIfInBounds_toArray, List.set_cons_zero, List.set_cons_succ, i64_w, i32_w]
        rfl
       refine pu_ 12 (some 47) (bl 16 8191) HT_.out rfl ?_
       refine pu_ 13 (some 48) (bl 16 16383) HT_.out rfl ?_
       refine pu_ 14 (some 6) (bl 16 32767) HT_.out rfl ?_
       refine pu_ 15 (some 7) (bl 16 65535) HT_.out rfl ?_
       refine done_ (done_of HT_.out (by kernel_rfl)) ?_
       try go_wp2
       go_ret2
       exact ⟨ce_, cB1_ GE361.out⟩
      ·rw [if_neg c17] at H
       exact absurd H (by simp)
     ·rw [if_neg c16] at H
      exact absurd H (by simp)
    ·rw [if_neg c15] at H
     have c15b0 : decide (x9_1 < (l0.length : Int)) = false := decide_eq_false c15
     clear c15
     simp only [Option.some.injEq, Prod.mk.injEq] at H
     obtain ⟨rfl, rfl⟩ := H
     try go_wp2
     replace BK361 := Aside0.mk (blk_drew BK361.out)
     replace HB := Aside0.mk (below_drew1 HB.out)
     refine start_ (n := 16) (S := fun w' => True) (ds := []) (bl 16 0) (by kernel_rfl) rfl rfl trivial (fun hHeld => ?_); refine with_tabW slices_BinarySearchFunc_impl_byRow.tab8 slices_BinarySearchFunc_impl_byRow.bits8 (fun HT_ HW_ => ?_)
     generalize wr.drew = w21 at BK361 HB hHeld ⊢
     refine pu_ 0 (some 35) (bl 16 1) HT_.out rfl ?_
     refine pu_ 1 (some 36) (bl 16 3) HT_.out rfl ?_
     refine pu_ 2 (some 37) (bl 16 7) HT_.out rfl ?_
     refine pu_ 3 (some 38) (bl 16 15) HT_.out rfl ?_
     refine pu_ 4 (some 39) (bl 16 31) HT_.out rfl ?_
     refine un_ 5 (some 40) (bl 16 63) HT_.out rfl ?_
     refine un_ 6 (some 41) (bl 16 127) HT_.out rfl ?_
     refine un_ 7 (some 42) (bl 16 255) HT_.out rfl ?_
     refine un_ 8 (some 43) (bl 16 511) HT_.out rfl ?_
     refine un_ 9 (some 44) (bl 16 1023) HT_.out rfl ?_
     refine un_ 10 (some 45) (bl 16 2047) HT_.out rfl ?_
     refine un_ 11 (some 46) (bl 16 4095) HT_.out rfl ?_
     refine un_ 12 (some 47) (bl 16 8191) HT_.out rfl ?_
     refine pu_ 13 (some 48) (bl 16 16383) HT_.out rfl ?_
     refine pu_ 14 (some 6) (bl 16 32767) HT_.out rfl ?_
     refine pu_ 15 (some 7) (bl 16 65535) HT_.out rfl ?_
     refine done_ (done_of HT_.out (by kernel_rfl)) ?_
     try go_wp2
     go_ret2
     exact ⟨ce_, cB1_ GE361.out⟩

/-! ### impl_weightOf: function 83 -/
def impl_weightOf.f (k : Nat) (l0 : List (S42)) (l1 : List Int) : Option (Int) := (slices_BinarySearchFunc_impl_byRow.f k l0 l1 0 ()).bind fun bt366 => (if bt366.2 = true then (if 0 ≤ bt366.1 then (if bt366.1 < (l0.length : Int) then (some ((rd_T42 l0 bt366.1).f1)) else (none)) else (none)) else (some 0))
theorem impl_weightOf.mono : ∀ a0 a1 k, LeO (impl_weightOf.f k a0 a1) (impl_weightOf.f (k + 1) a0 a1) := by
 intro a0 a1 k
 unfold impl_weightOf.f
 repeat' first
   | (with_reducible exact slices_BinarySearchFunc_impl_byRow.mono _ _ _ _ _)
   | (with_reducible exact LeO.refl _)
   | (with_reducible exact LeO.none _)
   | (with_reducible refine LeO.ite ?_ ?_)
   | (with_reducible refine LeO.bind ?_ (fun _ => ?_))
   | exact slices_BinarySearchFunc_impl_byRow.mono _ _ _ _ _
   | exact LeO.none _
   | refine LeO.ite ?_ ?_
   | refine LeO.bind ?_ (fun _ => ?_)
set_option maxHeartbeats 8000000 in
set_option maxRecDepth 100000 in
theorem impl_weightOf.calls (k : Nat) (A0 : Option Addr) (c0 : Nat) (l0 : List (S42)) (A1 : Option Addr) (c1 : Nat) (l1 : List Int) (r : Int) (w : World) (hr0 : Kd.C k42 w A0 l0.length l0) (hc0 : l0.length ≤ c0) (hr1 : Kd.C (Kd.int .i64) w A1 l1.length l1) (hc1 : l1.length ≤ c1) (h : impl_weightOf.f k l0 l1 = some r) :
  Calls Try.prog 83 #[.slice A0 l0.length c0, .slice A1 l1.length c1] w fun e w' => e = .returned (.int .i64 r) ∧ Below w.heap.size w w' := by
 have hu42 := Try.underlying42
 have HR0 := Aside0.mk hr0
 have HC0 := Aside0.mk hc0
 clear hr0 hc0
 have HR1 := Aside0.mk hr1
 have HC1 := Aside0.mk hc1
 clear hr1 hc1
 have HB := Aside0.mk (Below.refl w.heap.size w)
 have H : ((slices_BinarySearchFunc_impl_byRow.f k l0 l1 0 ()).bind fun bt366 => (if bt366.2 = true then (if 0 ≤ bt366.1 then (if bt366.1 < (l0.length : Int) then (some ((rd_T42 l0 bt366.1).f1)) else (none)) else (none)) else (some 0))) = some r := h
 clear h
 obtain ⟨⟨t366, t367⟩, A3, H⟩ := bnd_ H
 try dsimp only at H
 by_cases c4 : t367 = true
 ·subst c4
  rw [if_pos rfl] at H
  by_cases c5 : 0 ≤ t366
  ·rw [if_pos c5] at H
   have c5b0 : decide (0 ≤ t366) = true := decide_eq_true c5
   clear c5
   by_cases c6 : t366 < (l0.length : Int)
   ·rw [if_pos c6] at H
    have c6b0 : decide (t366 < (l0.length : Int)) = true := decide_eq_true c6
    clear c6
    obtain rfl := Option.some.inj H
    go_enter Try.func83, Try.ntmps83
    go_wp2_with (first | (refine gl_ 114 (some 11) Try.func114 #[.slice A0 l0.length c0, .agg #[.slice A1 l1.length c1, .int .i64 0], .func (.func 93) #[] #[]] ?_; (with_reducible refine (slices_BinarySearchFunc_impl_byRow.calls k _ _ l0 _ _ l1 0 () t366 true _ ?side1 ?side2 ?side3 ?side4 A3.out).mono ?_); (case side1 => exact cC_ HR0.out); (case side2 => exact HC0.out); (case side3 => exact cC_ HR1.out); (case side4 => exact HC1.out); rintro e w7 ⟨rfl, hb⟩; refine ⟨_, rfl, ?_⟩; replace HB := Aside0.mk (below_step cB0_ hb); (try clear hb); (try clear hb2); (try clear hk); (try clear hi); have p368 : 0 ≤ (t366 : Int) := of_decide_eq_true ca_; have q368 : t366 < (l0.length : Int) := of_decide_eq_true ca_; obtain ⟨ad368, A368_0, c368_0, e368, hx368_0, hx368_1, hl368_0, hi368_0⟩ := at_T42 HR0.out t366 p368 q368; cases e368; replace hx368_0 := (HB.out.cell (World.block_lt_of_cell? w _ hx368_0)).trans hx368_0; replace hx368_1 := (HB.out.cell (World.block_lt_of_cell? w _ hx368_1)).trans hx368_1; have HR368_0 := Aside0.mk hi368_0; have HC368_0 := Aside0.mk hl368_0; clear hi368_0 hl368_0; replace p368 := eq_true p368; replace q368 := eq_true q368))
    go_ret
    exact ⟨ce_, cB0_⟩
   ·rw [if_neg c6] at H
    exact absurd H (by simp)
  ·rw [if_neg c5] at H
   exact absurd H (by simp)
 ·replace c4 := Bool.eq_false_iff.mpr c4
  subst c4
  rw [if_neg (show ¬ (false = true) by decide)] at H
  obtain rfl := Option.some.inj H
  go_enter Try.func83, Try.ntmps83
  go_wp2_with (first | (refine gl_ 114 (some 11) Try.func114 #[.slice A0 l0.length c0, .agg #[.slice A1 l1.length c1, .int .i64 0], .func (.func 93) #[] #[]] ?_; (with_reducible refine (slices_BinarySearchFunc_impl_byRow.calls k _ _ l0 _ _ l1 0 () t366 false _ ?side1 ?side2 ?side3 ?side4 A3.out).mono ?_); (case side1 => exact cC_ HR0.out); (case side2 => exact HC0.out); (case side3 => exact cC_ HR1.out); (case side4 => exact HC1.out); rintro e w8 ⟨rfl, hb⟩; refine ⟨_, rfl, ?_⟩; replace HB := Aside0.mk (below_step cB0_ hb); (try clear hb); (try clear hb2); (try clear hk); (try clear hi)))
  go_ret
  exact ⟨ce_, cB0_⟩

/-! ### impl_WeightOf: function 38 -/
def impl_WeightOf.f (k : Nat) (l0 : List (S42)) (l1 : List Int) : Option (Int × Int) := (impl_SetFault.f k l0).bind fun t370 => (if t370 = 0 then ((impl_RowFault.f k l1).bind fun t371 => (if t371 = 0 then ((impl_weightOf.f k l0 l1).bind fun t372 => (some (0, t372))) else (some (t371, 0)))) else (some (t370, 0)))
theorem impl_WeightOf.mono : ∀ a0 a1 k, LeO (impl_WeightOf.f k a0 a1) (impl_WeightOf.f (k + 1) a0 a1) := by
 intro a0 a1 k
 unfold impl_WeightOf.f
 repeat' first
   | (with_reducible exact impl_RowFault.mono _ _)
   | (with_reducible exact impl_SetFault.mono _ _)
   | (with_reducible exact impl_weightOf.mono _ _ _)
   | (with_reducible exact LeO.refl _)
   | (with_reducible exact LeO.none _)
   | (with_reducible refine LeO.ite ?_ ?_)
   | (with_reducible refine LeO.bind ?_ (fun _ => ?_))
   | exact impl_RowFault.mono _ _
   | exact impl_SetFault.mono _ _
   | exact impl_weightOf.mono _ _ _
   | exact LeO.none _
   | refine LeO.ite ?_ ?_
   | refine LeO.bind ?_ (fun _ => ?_)
set_option maxHeartbeats 8000000 in
set_option maxRecDepth 100000 in
theorem impl_WeightOf.calls (k : Nat) (A0 : Option Addr) (c0 : Nat) (l0 : List (S42)) (A1 : Option Addr) (c1 : Nat) (l1 : List Int) (r1 : Int) (r2 : Int) (w : World) (hr0 : Kd.C k42 w A0 l0.length l0) (hc0 : l0.length ≤ c0) (hr1 : Kd.C (Kd.int .i64) w A1 l1.length l1) (hc1 : l1.length ≤ c1) (h : impl_WeightOf.f k l0 l1 = some (r1, r2)) :
  Calls Try.prog 38 #[.slice A0 l0.length c0, .slice A1 l1.length c1] w fun e w' => e = .returned (.agg #[.int .i64 r1, .int .i64 r2]) ∧ Below w.heap.size w w' := by
 have hu55 := Try.underlying55
 have HR0 := Aside0.mk hr0
 have HC0 := Aside0.mk hc0
 clear hr0 hc0
 have HR1 := Aside0.mk hr1
 have HC1 := Aside0.mk hc1
 clear hr1 hc1
 have HB := Aside0.mk (Below.refl w.heap.size w)
 have H : ((impl_SetFault.f k l0).bind fun t370 => (if t370 = 0 then ((impl_RowFault.f k l1).bind fun t371 => (if t371 = 0 then ((impl_weightOf.f k l0 l1).bind fun t372 => (some (0, t372))) else (some (t371, 0)))) else (some (t370, 0)))) = some (r1, r2) := h
 clear h
 obtain ⟨t370, A3, H⟩ := bnd_ H
 try dsimp only at H
 by_cases c4 : t370 = 0
 ·rw [if_pos c4] at H
  have c4b0 : (t370 == 0) = true := beq_iff_eq.mpr c4
  have c4b1 : (t370 != 0) = false := bne_eq_false_iff_eq.mpr c4
  clear c4
  obtain ⟨t371, A5, H⟩ := bnd_ H
  try dsimp only at H
  by_cases c6 : t371 = 0
  ·rw [if_pos c6] at H
   have c6b0 : (t371 == 0) = true := beq_iff_eq.mpr c6
   have c6b1 : (t371 != 0) = false := bne_eq_false_iff_eq.mpr c6
   clear c6
   obtain ⟨t372, A7, H⟩ := bnd_ H
   try dsimp only at H
   simp only [Option.some.injEq, Prod.mk.injEq] at H
   obtain ⟨rfl, rfl⟩ := H
   go_enter Try.func38, Try.ntmps38
   go_wp2_with (first | (refine bx_ 4 #[.int .i64 0, .int .i64 0] 55 ?_; intro gb369 hg w8 hbox hb; have BK369 := Aside0.mk (hbox); have GW369 := Aside0.mk ((by rw [hg]; exact (below_size cB0_) : w.heap.size ≤ gb369)); have GE369 := Aside0.mk ((by rw [hg]; exact (below_size cB0_) : w.heap.size ≤ gb369)); replace HB := Aside0.mk (below_step cB0_ hb); clear hb hbox hg) | (refine gl_ 26 (some 8) Try.func26 #[.slice A0 l0.length c0] ?_; (with_reducible refine (impl_SetFault.calls k _ _ l0 t370 _ ?side1 ?side2 A3.out).mono ?_); (case side1 => exact b12_4); (case side2 => exact HC0.out); rintro e w9 ⟨rfl, hb⟩; refine ⟨_, rfl, ?_⟩; replace BK369 := Aside0.mk (blk_below (g := gb369) (o := .cells #[.int .i64 0, .int .i64 0] 55 (0, 0)) (cO_ BK369.out) hb); replace HB := Aside0.mk (below_step (cB1_ GE369.out) hb); (try clear hb); (try clear hb2); (try clear hk); (try clear hi)) | (refine gl_ 48 (some 14) Try.func48 #[.slice A1 l1.length c1] ?_; (with_reducible refine (impl_RowFault.calls k _ _ l1 t371 _ ?side1 ?side2 A5.out).mono ?_); (case side1 => exact cC_ (Kd.C_below HR1.out HB.out)); (case side2 => exact HC1.out); rintro e w' ⟨rfl, ⟨nd, rfl⟩⟩; refine ⟨_, rfl, ?_⟩; (try simp only [World.drewN_drewN]); (try (rw [drewN_self w9]; generalize hq_ : World.drewN w9 _ = w9; have n0_ : Aside0 (w9.heap[gb369]? = some (.cells #[.int .i64 0, .int .i64 0] 55 (0, 0))) := ⟨by rw [← hq_]; exact (cO_ BK369.out)⟩; have n1_ : Aside0 (Below w.heap.size w w9) := ⟨by rw [← hq_]; exact (cB1_ GE369.out)⟩; clear BK369 HB hq_; have BK369 := n0_; have HB := n1_; clear n0_ n1_))) | (refine gl_ 83 (some 21) Try.func83 #[.slice A0 l0.length c0, .slice A1 l1.length c1] ?_; (with_reducible refine (impl_weightOf.calls k _ _ l0 _ _ l1 t372 _ ?side1 ?side2 ?side3 ?side4 A7.out).mono ?_); (case side1 => exact b12_4); (case side2 => exact HC0.out); (case side3 => exact cC_ (Kd.C_below HR1.out HB.out)); (case side4 => exact HC1.out); rintro e w10 ⟨rfl, hb⟩; refine ⟨_, rfl, ?_⟩; replace BK369 := Aside0.mk (blk_below (g := gb369) (o := .cells #[.int .i64 0, .int .i64 0] 55 (0, 0)) (cO_ BK369.out) hb); replace HB := Aside0.mk (below_step (cB1_ GE369.out) hb); (try clear hb); (try clear hb2); (try clear hk); (try clear hi); obtain ⟨hcz11_0, hcz11_1, hfz11_0, hfz11_1⟩ := cells2 BK369.out))
   refine bodyPost_ret (results_cell_row rfl _ _ gb369 55 #[.int .i64 0, .int .i64 t372] (0, 0) _ rfl (by refine cO_ ?_; refine blk_put (cs := #[.int .i64 0, .int .i64 0]) ?_ 1 _ rfl; refine cO_ ?_; refine blk_put (cs := #[.int .i64 0, .int .i64 0]) ?_ 0 _ rfl; refine cO_ ?_; exact BK369.out) Try.underlying55 rfl (by kernel_rfl)) rfl ?_
   exact ⟨ce_, cB1_ GE369.out⟩
  ·rw [if_neg c6] at H
   have c6b0 : (t371 == 0) = false := beq_eq_false_iff_ne.mpr c6
   have c6b1 : (t371 != 0) = true := bne_iff_ne.mpr c6
   simp only [Option.some.injEq, Prod.mk.injEq] at H
   obtain ⟨rfl, rfl⟩ := H
   go_enter Try.func38, Try.ntmps38
   go_wp2_with (first | (refine bx_ 4 #[.int .i64 0, .int .i64 0] 55 ?_; intro gb369 hg w12 hbox hb; have BK369 := Aside0.mk (hbox); have GW369 := Aside0.mk ((by rw [hg]; exact (below_size cB0_) : w.heap.size ≤ gb369)); have GE369 := Aside0.mk ((by rw [hg]; exact (below_size cB0_) : w.heap.size ≤ gb369)); replace HB := Aside0.mk (below_step cB0_ hb); clear hb hbox hg) | (refine gl_ 26 (some 8) Try.func26 #[.slice A0 l0.length c0] ?_; (with_reducible refine (impl_SetFault.calls k _ _ l0 t370 _ ?side1 ?side2 A3.out).mono ?_); (case side1 => exact b12_4); (case side2 => exact HC0.out); rintro e w13 ⟨rfl, hb⟩; refine ⟨_, rfl, ?_⟩; replace BK369 := Aside0.mk (blk_below (g := gb369) (o := .cells #[.int .i64 0, .int .i64 0] 55 (0, 0)) (cO_ BK369.out) hb); replace HB := Aside0.mk (below_step (cB1_ GE369.out) hb); (try clear hb); (try clear hb2); (try clear hk); (try clear hi)) | (refine gl_ 48 (some 14) Try.func48 #[.slice A1 l1.length c1] ?_; (with_reducible refine (impl_RowFault.calls k _ _ l1 t371 _ ?side1 ?side2 A5.out).mono ?_); (case side1 => exact cC_ (Kd.C_below HR1.out HB.out)); (case side2 => exact HC1.out); rintro e w' ⟨rfl, ⟨nd, rfl⟩⟩; refine ⟨_, rfl, ?_⟩; (try simp only [World.drewN_drewN]); (try (rw [drewN_self w13]; generalize hq_ : World.drewN w13 _ = w13; have n0_ : Aside0 (w13.heap[gb369]? = some (.cells #[.int .i64 0, .int .i64 0] 55 (0, 0))) := ⟨by rw [← hq_]; exact (cO_ BK369.out)⟩; have n1_ : Aside0 (Below w.heap.size w w13) := ⟨by rw [← hq_]; exact (cB1_ GE369.out)⟩; clear BK369 HB hq_; have BK369 := n0_; have HB := n1_; clear n0_ n1_)); obtain ⟨hcz14_0, hcz14_1, hfz14_0, hfz14_1⟩ := cells2 BK369.out))
   refine bodyPost_ret (results_cell_row rfl _ _ gb369 55 #[.int .i64 t371, .int .i64 0] (0, 0) _ rfl (by refine cO_ ?_; refine blk_put (cs := #[.int .i64 t371, .int .i64 0]) ?_ 1 _ rfl; refine cO_ ?_; refine blk_put (cs := #[.int .i64 0, .int .i64 0]) ?_ 0 _ rfl; refine cO_ ?_; exact BK369.out) Try.underlying55 rfl (by kernel_rfl)) rfl ?_
   exact ⟨ce_, cB1_ GE369.out⟩
 ·rw [if_neg c4] at H
  have c4b0 : (t370 == 0) = false := beq_eq_false_iff_ne.mpr c4
  have c4b1 : (t370 != 0) = true := bne_iff_ne.mpr c4
  simp only [Option.some.injEq, Prod.mk.injEq] at H
  obtain ⟨rfl, rfl⟩ := H
  go_enter Try.func38, Try.ntmps38
  go_wp2_with (first | (refine bx_ 4 #[.int .i64 0, .int .i64 0] 55 ?_; intro gb369 hg w15 hbox hb; have BK369 := Aside0.mk (hbox); have GW369 := Aside0.mk ((by rw [hg]; exact (below_size cB0_) : w.heap.size ≤ gb369)); have GE369 := Aside0.mk ((by rw [hg]; exact (below_size cB0_) : w.heap.size ≤ gb369)); replace HB := Aside0.mk (below_step cB0_ hb); clear hb hbox hg) | (refine gl_ 26 (some 8) Try.func26 #[.slice A0 l0.length c0] ?_; (with_reducible refine (impl_SetFault.calls k _ _ l0 t370 _ ?side1 ?side2 A3.out).mono ?_); (case side1 => exact b12_4); (case side2 => exact HC0.out); rintro e w16 ⟨rfl, hb⟩; refine ⟨_, rfl, ?_⟩; replace BK369 := Aside0.mk (blk_below (g := gb369) (o := .cells #[.int .i64 0, .int .i64 0] 55 (0, 0)) (cO_ BK369.out) hb); replace HB := Aside0.mk (below_step (cB1_ GE369.out) hb); (try clear hb); (try clear hb2); (try clear hk); (try clear hi); obtain ⟨hcz17_0, hcz17_1, hfz17_0, hfz17_1⟩ := cells2 BK369.out))
  refine bodyPost_ret (results_cell_row rfl _ _ gb369 55 #[.int .i64 t370, .int .i64 0] (0, 0) _ rfl (by refine cO_ ?_; refine blk_put (cs := #[.int .i64 t370, .int .i64 0]) ?_ 1 _ rfl; refine cO_ ?_; refine blk_put (cs := #[.int .i64 0, .int .i64 0]) ?_ 0 _ rfl; refine cO_ ?_; exact BK369.out) Try.underlying55 rfl (by kernel_rfl)) rfl ?_
  exact ⟨ce_, cB1_ GE369.out⟩

end Go.Proofs.Ythgmicingbjemaa.PFnGroups
