-- Written by fprint, a program of this session, out of Lean's own print of the translation. Lean checks it.
import Derived.Test.YthgmicingbjemaaDense
import Derived.Test.YthgmicingbjemaaPFnGroupsx0
import Derived.Test.YthgmicingbjemaaPFnGroupsx1
import Derived.Test.YthgmicingbjemaaPFnGroupsx6
namespace Go.Proofs.Ythgmicingbjemaa.PFnGroups
open Go.RowKit Go.Proofs.YthgmicingbjemaaW.PrintWords Go.Proofs.YthgmicingbjemaaW.PrintLast Go.Proofs.YthgmicingbjemaaW.PrintMore
attribute [local go_sem] max2_int min2_int max_two min_two max_three min_three max_four min_four   -- for this text's walks alone
set_option linter.unusedVariables false
set_option linter.unusedSimpArgs false

/-! ### impl_summed_2: function 97 -/
def impl_summed_2.f (l0_0 : List Int) (a0_1 : Int) : Option (Bool) := (impl_isWeight.f a0_1).bind fun t174 => (some (!t174))
set_option maxHeartbeats 8000000 in
set_option maxRecDepth 100000 in
theorem impl_summed_2.calls (A0_0 : Option Addr) (c0_0 : Nat) (l0_0 : List Int) (a0_1 : Int) (r : Bool) (w : World) (hr0_0 : Kd.C (Kd.int .i64) w A0_0 l0_0.length l0_0) (hc0_0 : l0_0.length ≤ c0_0) (h : impl_summed_2.f l0_0 a0_1 = some r) :
  Calls Try.prog 97 #[.agg #[.slice A0_0 l0_0.length c0_0, .int .i64 a0_1]] w fun e w' => e = .returned (.bool r) ∧ Below w.heap.size w w' := by
 have hu42 := Try.underlying42
 have HR0_0 := Aside0.mk hr0_0
 have HC0_0 := Aside0.mk hc0_0
 clear hr0_0 hc0_0
 have HB := Aside0.mk (Below.refl w.heap.size w)
 have H : ((impl_isWeight.f a0_1).bind fun t174 => (some (!t174))) = some r := h
 clear h
 obtain ⟨t174, A2, H⟩ := bnd_ H
 try dsimp only at H
 obtain rfl := Option.some.inj H
 go_enter Try.func97, Try.ntmps97
 go_wp2_with (first | (refine bx_ 1 #[.slice A0_0 l0_0.length c0_0, .int .i64 a0_1] 42 ?_; intro gb173 hg w3 hbox hb; have BK173 := Aside0.mk (hbox); have GW173 := Aside0.mk ((by rw [hg]; exact (below_size cB0_) : w.heap.size ≤ gb173)); have GE173 := Aside0.mk ((by rw [hg]; exact (below_size cB0_) : w.heap.size ≤ gb173)); replace HB := Aside0.mk (below_step cB0_ hb); clear hb hbox hg; obtain ⟨hcz4_0, hcz4_1, hfz4_0, hfz4_1⟩ := cells2 BK173.out) | (refine gl_ 49 (some 5) Try.func49 #[.int .i64 a0_1] ?_; (with_reducible refine (impl_isWeight.calls a0_1 t174 _ A2.out).mono ?_); rintro e w' ⟨rfl, ⟨nd, rfl⟩⟩; refine ⟨_, rfl, ?_⟩))
 go_ret
 exact ⟨ce_, cB1_ GE173.out⟩

-- NOT PRINTED: function 9000004 (slices_insertionSortCmpFunc_impl_byRow)

-- NOT PRINTED: function 9000007 (slices_swapRangeCmpFunc_impl_byRow)

-- NOT PRINTED: function 9000006 (slices_rotateCmpFunc_impl_byRow)

-- NOT PRINTED: function 9000005 (slices_symMergeCmpFunc_impl_byRow)

-- NOT PRINTED: function 9000003 (slices_stableCmpFunc_impl_byRow)

-- NOT PRINTED: function 9000002 (slices_SortStableFunc_impl_byRow)

/-! ### slices_IndexFunc_impl_summed_1: function 118 -/
def slices_IndexFunc_impl_summed_1.l0 : Nat → List (S42) → Int → Int → Option (Int)
 | 0, _, _, _ => none
 | k + 1, x0, x7, x8 => if x8 < x7 then (if 0 ≤ x8 then (if x8 < (x0.length : Int) then ((impl_summed_1.f ((rd_T42 x0 x8).f0) ((rd_T42 x0 x8).f1)).bind fun t188 => (if t188 = true then (some x8) else (slices_IndexFunc_impl_summed_1.l0 k x0 x7 (wrap64 (x8 + 1))))) else (none)) else (none)) else (some (-1))
def slices_IndexFunc_impl_summed_1.f (k : Nat) (l0 : List (S42)) (a1 : Unit) : Option (Int) := slices_IndexFunc_impl_summed_1.l0 k l0 (l0.length : Int) 0
theorem slices_IndexFunc_impl_summed_1.mono_l : ∀ k, (∀ y0 y1 y2, LeO (slices_IndexFunc_impl_summed_1.l0 k y0 y1 y2) (slices_IndexFunc_impl_summed_1.l0 (k + 1) y0 y1 y2))
 | 0 => fun _ _ _ r h => by simp [slices_IndexFunc_impl_summed_1.l0] at h
 | k + 1 => by
  have ih0 := slices_IndexFunc_impl_summed_1.mono_l k
  ·intro y0 y1 y2
   unfold slices_IndexFunc_impl_summed_1.l0
   repeat' first
   | (with_reducible exact ih0 _ _ _)
   | (with_reducible exact LeO.refl _)
   | (with_reducible exact LeO.none _)
   | (with_reducible refine LeO.ite ?_ ?_)
   | (with_reducible refine LeO.bind ?_ (fun _ => ?_))
   | exact ih0 _ _ _
   | exact LeO.none _
   | refine LeO.ite ?_ ?_
   | refine LeO.bind ?_ (fun _ => ?_)
theorem slices_IndexFunc_impl_summed_1.mono : ∀ a0 a1 k, LeO (slices_IndexFunc_impl_summed_1.f k a0 a1) (slices_IndexFunc_impl_summed_1.f (k + 1) a0 a1) := by
 intro a0 a1 k
 have ih0 := slices_IndexFunc_impl_summed_1.mono_l k
 unfold slices_IndexFunc_impl_summed_1.f
 repeat' first
   | (with_reducible exact ih0 _ _ _)
   | (with_reducible exact LeO.refl _)
   | (with_reducible exact LeO.none _)
   | (with_reducible refine LeO.ite ?_ ?_)
   | (with_reducible refine LeO.bind ?_ (fun _ => ?_))
   | exact ih0 _ _ _
   | exact LeO.none _
   | refine LeO.ite ?_ ?_
   | refine LeO.bind ?_ (fun _ => ?_)
set_option maxHeartbeats 8000000 in
set_option maxRecDepth 100000 in
theorem slices_IndexFunc_impl_summed_1.calls (k : Nat) (A0 : Option Addr) (c0 : Nat) (l0 : List (S42)) (a1 : Unit) (r : Int) (w : World) (hr0 : Kd.C k42 w A0 l0.length l0) (hc0 : l0.length ≤ c0) (h : slices_IndexFunc_impl_summed_1.f k l0 a1 = some r) :
  Calls Try.prog 118 #[.slice A0 l0.length c0, .func (.func 95) #[] #[]] w fun e w' => e = .returned (.int .i64 r) ∧ Below w.heap.size w w' := by
 have hu42 := Try.underlying42
 have HR0 := Aside0.mk hr0
 have HC0 := Aside0.mk hc0
 clear hr0 hc0
 have HB := Aside0.mk (Below.refl w.heap.size w)
 have H : (slices_IndexFunc_impl_summed_1.l0 k l0 (l0.length : Int) 0) = some r := h
 clear h
 have H' := Aside0.mk H
 clear H
 go_enter Try.func118, Try.ntmps118
 go_wp2
 go_loopg [8] k (fun kq v8 w' => ∃ (x8_1 : Int), v8 = .int .i64 x8_1 ∧ Aside0 (slices_IndexFunc_impl_summed_1.l0 kq l0 (l0.length : Int) x8_1 = some r) ∧ Aside0 (kq ≤ k) ∧ Aside0 (Below w.heap.size w w'))
 case atStart => exact ⟨(0), cs_, H', ⟨Nat.le_refl _⟩, ⟨cB0_⟩⟩
 case round =>
  clear H'
  try clear p2
  obtain ⟨x8_1, rfl, HA, HK1, HB⟩ := hrel
  cases gk with
  | zero => exact absurd HA.out (by simp [slices_IndexFunc_impl_summed_1.l0])
  | succ k1 =>
   have H := HA.out
   clear HA
   simp only [slices_IndexFunc_impl_summed_1.l0] at H
   by_cases c3 : x8_1 < (l0.length : Int)
   ·rw [if_pos c3] at H
    have c3b0 : decide (x8_1 < (l0.length : Int)) = true := decide_eq_true c3
    clear c3
    by_cases c4 : 0 ≤ x8_1
    ·rw [if_pos c4] at H
     have c4b0 : decide (0 ≤ x8_1) = true := decide_eq_true c4
     clear c4
     by_cases c5 : x8_1 < (l0.length : Int)
     ·rw [if_pos c5] at H
      have c5b0 : decide (x8_1 < (l0.length : Int)) = true := decide_eq_true c5
      clear c5
      obtain ⟨t188, A6, H⟩ := bnd_ H
      try dsimp only at H
      by_cases c7 : t188 = true
      ·subst c7
       rw [if_pos rfl] at H
       obtain rfl := Option.some.inj H
       have p187 : 0 ≤ (x8_1 : Int) := of_decide_eq_true ca_
       have q187 : x8_1 < (l0.length : Int) := of_decide_eq_true ca_
       obtain ⟨ad187, A187_0, c187_0, e187, hx187_0, hx187_1, hl187_0, hi187_0⟩ := at_T42 HR0.out x8_1 p187 q187
       cases e187
       replace hx187_0 := (HB.out.cell (World.block_lt_of_cell? w _ hx187_0)).trans hx187_0
       replace hx187_1 := (HB.out.cell (World.block_lt_of_cell? w _ hx187_1)).trans hx187_1
       have HR187_0 := Aside0.mk hi187_0
       have HC187_0 := Aside0.mk hl187_0
       clear hi187_0 hl187_0
       replace p187 := eq_true p187
       replace q187 := eq_true q187
       go_wp2_with (first | ((refine gate_fn_ (f := 95) (by with_reducible rfl) (by rfl) ?_); refine goesF_ (some 16) rfl rfl Try.func95 (by kernel_rfl) rfl #[.agg #[.slice A187_0 ((rd_T42 l0 x8_1).f0).length c187_0, .int .i64 ((rd_T42 l0 x8_1).f1)]] rfl (by rfl) cx_ ?_; (with_reducible refine (impl_summed_1.calls _ _ ((rd_T42 l0 x8_1).f0) ((rd_T42 l0 x8_1).f1) true _ ?side1 ?side2 A6.out).mono ?_); (case side1 => exact cC_ (Kd.C_below HR187_0.out HB.out)); (case side2 => exact HC187_0.out); rintro e w8 ⟨rfl, hb⟩; refine ⟨_, rfl, ?_⟩; replace HB := Aside0.mk (below_step cB0_ hb); (try clear hb); (try clear hb2); (try clear hk); (try clear hi)))
       go_ret
       exact ⟨ce_, cB0_⟩
      ·replace c7 := Bool.eq_false_iff.mpr c7
       subst c7
       rw [if_neg (show ¬ (false = true) by decide)] at H
       have H' := Aside0.mk H
       clear H
       have p187 : 0 ≤ (x8_1 : Int) := of_decide_eq_true ca_
       have q187 : x8_1 < (l0.length : Int) := of_decide_eq_true ca_
       obtain ⟨ad187, A187_0, c187_0, e187, hx187_0, hx187_1, hl187_0, hi187_0⟩ := at_T42 HR0.out x8_1 p187 q187
       cases e187
       replace hx187_0 := (HB.out.cell (World.block_lt_of_cell? w _ hx187_0)).trans hx187_0
       replace hx187_1 := (HB.out.cell (World.block_lt_of_cell? w _ hx187_1)).trans hx187_1
       have HR187_0 := Aside0.mk hi187_0
       have HC187_0 := Aside0.mk hl187_0
       clear hi187_0 hl187_0
       replace p187 := eq_true p187
       replace q187 := eq_true q187
       go_wp2_with (first | ((refine gate_fn_ (f := 95) (by with_reducible rfl) (by rfl) ?_); refine goesF_ (some 16) rfl rfl Try.func95 (by kernel_rfl) rfl #[.agg #[.slice A187_0 ((rd_T42 l0 x8_1).f0).length c187_0, .int .i64 ((rd_T42 l0 x8_1).f1)]] rfl (by rfl) cx_ ?_; (with_reducible refine (impl_summed_1.calls _ _ ((rd_T42 l0 x8_1).f0) ((rd_T42 l0 x8_1).f1) false _ ?side1 ?side2 A6.out).mono ?_); (case side1 => exact cC_ (Kd.C_below HR187_0.out HB.out)); (case side2 => exact HC187_0.out); rintro e w9 ⟨rfl, hb⟩; refine ⟨_, rfl, ?_⟩; replace HB := Aside0.mk (below_step cB0_ hb); (try clear hb); (try clear hb2); (try clear hk); (try clear hi)))
       go_roundg k1
       case measure => have := HK1.out; omega
       case rel => exact ⟨(wrap64 (x8_1 + 1)), cs_, H', ⟨co_ HK1.out⟩, ⟨cB0_⟩⟩
     ·rw [if_neg c5] at H
      exact absurd H (by simp)
    ·rw [if_neg c4] at H
     exact absurd H (by simp)
   ·rw [if_neg c3] at H
    have c3b0 : decide (x8_1 < (l0.length : Int)) = false := decide_eq_false c3
    clear c3
    obtain rfl := Option.some.inj H
    go_wp2
    go_ret
    exact ⟨ce_, cB0_⟩

-- NOT PRINTED: function 9000008 (slices_DeleteFunc_impl_summed_1)

/-! ### slices_IndexFunc_impl_summed_2: function 118 -/
def slices_IndexFunc_impl_summed_2.l0 : Nat → List (S42) → Int → Int → Option (Int)
 | 0, _, _, _ => none
 | k + 1, x0, x7, x8 => if x8 < x7 then (if 0 ≤ x8 then (if x8 < (x0.length : Int) then ((impl_summed_2.f ((rd_T42 x0 x8).f0) ((rd_T42 x0 x8).f1)).bind fun t194 => (if t194 = true then (some x8) else (slices_IndexFunc_impl_summed_2.l0 k x0 x7 (wrap64 (x8 + 1))))) else (none)) else (none)) else (some (-1))
def slices_IndexFunc_impl_summed_2.f (k : Nat) (l0 : List (S42)) (a1 : Unit) : Option (Int) := slices_IndexFunc_impl_summed_2.l0 k l0 (l0.length : Int) 0
theorem slices_IndexFunc_impl_summed_2.mono_l : ∀ k, (∀ y0 y1 y2, LeO (slices_IndexFunc_impl_summed_2.l0 k y0 y1 y2) (slices_IndexFunc_impl_summed_2.l0 (k + 1) y0 y1 y2))
 | 0 => fun _ _ _ r h => by simp [slices_IndexFunc_impl_summed_2.l0] at h
 | k + 1 => by
  have ih0 := slices_IndexFunc_impl_summed_2.mono_l k
  ·intro y0 y1 y2
   unfold slices_IndexFunc_impl_summed_2.l0
   repeat' first
   | (with_reducible exact ih0 _ _ _)
   | (with_reducible exact LeO.refl _)
   | (with_reducible exact LeO.none _)
   | (with_reducible refine LeO.ite ?_ ?_)
   | (with_reducible refine LeO.bind ?_ (fun _ => ?_))
   | exact ih0 _ _ _
   | exact LeO.none _
   | refine LeO.ite ?_ ?_
   | refine LeO.bind ?_ (fun _ => ?_)
theorem slices_IndexFunc_impl_summed_2.mono : ∀ a0 a1 k, LeO (slices_IndexFunc_impl_summed_2.f k a0 a1) (slices_IndexFunc_impl_summed_2.f (k + 1) a0 a1) := by
 intro a0 a1 k
 have ih0 := slices_IndexFunc_impl_summed_2.mono_l k
 unfold slices_IndexFunc_impl_summed_2.f
 repeat' first
   | (with_reducible exact ih0 _ _ _)
   | (with_reducible exact LeO.refl _)
   | (with_reducible exact LeO.none _)
   | (with_reducible refine LeO.ite ?_ ?_)
   | (with_reducible refine LeO.bind ?_ (fun _ => ?_))
   | exact ih0 _ _ _
   | exact LeO.none _
   | refine LeO.ite ?_ ?_
   | refine LeO.bind ?_ (fun _ => ?_)
set_option maxHeartbeats 8000000 in
set_option maxRecDepth 100000 in
theorem slices_IndexFunc_impl_summed_2.calls (k : Nat) (A0 : Option Addr) (c0 : Nat) (l0 : List (S42)) (a1 : Unit) (r : Int) (w : World) (hr0 : Kd.C k42 w A0 l0.length l0) (hc0 : l0.length ≤ c0) (h : slices_IndexFunc_impl_summed_2.f k l0 a1 = some r) :
  Calls Try.prog 118 #[.slice A0 l0.length c0, .func (.func 97) #[] #[]] w fun e w' => e = .returned (.int .i64 r) ∧ Below w.heap.size w w' := by
 have hu42 := Try.underlying42
 have HR0 := Aside0.mk hr0
 have HC0 := Aside0.mk hc0
 clear hr0 hc0
 have HB := Aside0.mk (Below.refl w.heap.size w)
 have H : (slices_IndexFunc_impl_summed_2.l0 k l0 (l0.length : Int) 0) = some r := h
 clear h
 have H' := Aside0.mk H
 clear H
 go_enter Try.func118, Try.ntmps118
 go_wp2
 go_loopg [8] k (fun kq v8 w' => ∃ (x8_1 : Int), v8 = .int .i64 x8_1 ∧ Aside0 (slices_IndexFunc_impl_summed_2.l0 kq l0 (l0.length : Int) x8_1 = some r) ∧ Aside0 (kq ≤ k) ∧ Aside0 (Below w.heap.size w w'))
 case atStart => exact ⟨(0), cs_, H', ⟨Nat.le_refl _⟩, ⟨cB0_⟩⟩
 case round =>
  clear H'
  try clear p2
  obtain ⟨x8_1, rfl, HA, HK1, HB⟩ := hrel
  cases gk with
  | zero => exact absurd HA.out (by simp [slices_IndexFunc_impl_summed_2.l0])
  | succ k1 =>
   have H := HA.out
   clear HA
   simp only [slices_IndexFunc_impl_summed_2.l0] at H
   by_cases c3 : x8_1 < (l0.length : Int)
   ·rw [if_pos c3] at H
    have c3b0 : decide (x8_1 < (l0.length : Int)) = true := decide_eq_true c3
    clear c3
    by_cases c4 : 0 ≤ x8_1
    ·rw [if_pos c4] at H
     have c4b0 : decide (0 ≤ x8_1) = true := decide_eq_true c4
     clear c4
     by_cases c5 : x8_1 < (l0.length : Int)
     ·rw [if_pos c5] at H
      have c5b0 : decide (x8_1 < (l0.length : Int)) = true := decide_eq_true c5
      clear c5
      obtain ⟨t194, A6, H⟩ := bnd_ H
      try dsimp only at H
      by_cases c7 : t194 = true
      ·subst c7
       rw [if_pos rfl] at H
       obtain rfl := Option.some.inj H
       have p193 : 0 ≤ (x8_1 : Int) := of_decide_eq_true ca_
       have q193 : x8_1 < (l0.length : Int) := of_decide_eq_true ca_
       obtain ⟨ad193, A193_0, c193_0, e193, hx193_0, hx193_1, hl193_0, hi193_0⟩ := at_T42 HR0.out x8_1 p193 q193
       cases e193
       replace hx193_0 := (HB.out.cell (World.block_lt_of_cell? w _ hx193_0)).trans hx193_0
       replace hx193_1 := (HB.out.cell (World.block_lt_of_cell? w _ hx193_1)).trans hx193_1
       have HR193_0 := Aside0.mk hi193_0
       have HC193_0 := Aside0.mk hl193_0
       clear hi193_0 hl193_0
       replace p193 := eq_true p193
       replace q193 := eq_true q193
       go_wp2_with (first | ((refine gate_fn_ (f := 97) (by with_reducible rfl) (by rfl) ?_); refine goesF_ (some 16) rfl rfl Try.func97 (by kernel_rfl) rfl #[.agg #[.slice A193_0 ((rd_T42 l0 x8_1).f0).length c193_0, .int .i64 ((rd_T42 l0 x8_1).f1)]] rfl (by rfl) cx_ ?_; (with_reducible refine (impl_summed_2.calls _ _ ((rd_T42 l0 x8_1).f0) ((rd_T42 l0 x8_1).f1) true _ ?side1 ?side2 A6.out).mono ?_); (case side1 => exact cC_ (Kd.C_below HR193_0.out HB.out)); (case side2 => exact HC193_0.out); rintro e w8 ⟨rfl, hb⟩; refine ⟨_, rfl, ?_⟩; replace HB := Aside0.mk (below_step cB0_ hb); (try clear hb); (try clear hb2); (try clear hk); (try clear hi)))
       go_ret
       exact ⟨ce_, cB0_⟩
      ·replace c7 := Bool.eq_false_iff.mpr c7
       subst c7
       rw [if_neg (show ¬ (false = true) by decide)] at H
       have H' := Aside0.mk H
       clear H
       have p193 : 0 ≤ (x8_1 : Int) := of_decide_eq_true ca_
       have q193 : x8_1 < (l0.length : Int) := of_decide_eq_true ca_
       obtain ⟨ad193, A193_0, c193_0, e193, hx193_0, hx193_1, hl193_0, hi193_0⟩ := at_T42 HR0.out x8_1 p193 q193
       cases e193
       replace hx193_0 := (HB.out.cell (World.block_lt_of_cell? w _ hx193_0)).trans hx193_0
       replace hx193_1 := (HB.out.cell (World.block_lt_of_cell? w _ hx193_1)).trans hx193_1
       have HR193_0 := Aside0.mk hi193_0
       have HC193_0 := Aside0.mk hl193_0
       clear hi193_0 hl193_0
       replace p193 := eq_true p193
       replace q193 := eq_true q193
       go_wp2_with (first | ((refine gate_fn_ (f := 97) (by with_reducible rfl) (by rfl) ?_); refine goesF_ (some 16) rfl rfl Try.func97 (by kernel_rfl) rfl #[.agg #[.slice A193_0 ((rd_T42 l0 x8_1).f0).length c193_0, .int .i64 ((rd_T42 l0 x8_1).f1)]] rfl (by rfl) cx_ ?_; (with_reducible refine (impl_summed_2.calls _ _ ((rd_T42 l0 x8_1).f0) ((rd_T42 l0 x8_1).f1) false _ ?side1 ?side2 A6.out).mono ?_); (case side1 => exact cC_ (Kd.C_below HR193_0.out HB.out)); (case side2 => exact HC193_0.out); rintro e w9 ⟨rfl, hb⟩; refine ⟨_, rfl, ?_⟩; replace HB := Aside0.mk (below_step cB0_ hb); (try clear hb); (try clear hb2); (try clear hk); (try clear hi)))
       go_roundg k1
       case measure => have := HK1.out; omega
       case rel => exact ⟨(wrap64 (x8_1 + 1)), cs_, H', ⟨co_ HK1.out⟩, ⟨cB0_⟩⟩
     ·rw [if_neg c5] at H
      exact absurd H (by simp)
    ·rw [if_neg c4] at H
     exact absurd H (by simp)
   ·rw [if_neg c3] at H
    have c3b0 : decide (x8_1 < (l0.length : Int)) = false := decide_eq_false c3
    clear c3
    obtain rfl := Option.some.inj H
    go_wp2
    go_ret
    exact ⟨ce_, cB0_⟩

/-! ### slices_ContainsFunc_impl_summed_2: function 96 -/
def slices_ContainsFunc_impl_summed_2.f (k : Nat) (l0 : List (S42)) (a1 : Unit) : Option (Bool) := (slices_IndexFunc_impl_summed_2.f k l0 a1).bind fun t195 => (some (decide (t195 ≥ 0)))
theorem slices_ContainsFunc_impl_summed_2.mono : ∀ a0 a1 k, LeO (slices_ContainsFunc_impl_summed_2.f k a0 a1) (slices_ContainsFunc_impl_summed_2.f (k + 1) a0 a1) := by
 intro a0 a1 k
 unfold slices_ContainsFunc_impl_summed_2.f
 repeat' first
   | (with_reducible exact slices_IndexFunc_impl_summed_2.mono _ _ _)
   | (with_reducible exact LeO.refl _)
   | (with_reducible exact LeO.none _)
   | (with_reducible refine LeO.ite ?_ ?_)
   | (with_reducible refine LeO.bind ?_ (fun _ => ?_))
   | exact slices_IndexFunc_impl_summed_2.mono _ _ _
   | exact LeO.none _
   | refine LeO.ite ?_ ?_
   | refine LeO.bind ?_ (fun _ => ?_)
set_option maxHeartbeats 8000000 in
set_option maxRecDepth 100000 in
theorem slices_ContainsFunc_impl_summed_2.calls (k : Nat) (A0 : Option Addr) (c0 : Nat) (l0 : List (S42)) (a1 : Unit) (r : Bool) (w : World) (hr0 : Kd.C k42 w A0 l0.length l0) (hc0 : l0.length ≤ c0) (h : slices_ContainsFunc_impl_summed_2.f k l0 a1 = some r) :
  Calls Try.prog 96 #[.slice A0 l0.length c0, .func (.func 97) #[] #[]] w fun e w' => e = .returned (.bool r) ∧ Below w.heap.size w w' := by
 have HR0 := Aside0.mk hr0
 have HC0 := Aside0.mk hc0
 clear hr0 hc0
 have HB := Aside0.mk (Below.refl w.heap.size w)
 have H : ((slices_IndexFunc_impl_summed_2.f k l0 a1).bind fun t195 => (some (decide (t195 ≥ 0)))) = some r := h
 clear h
 obtain ⟨t195, A3, H⟩ := bnd_ H
 try dsimp only at H
 obtain rfl := Option.some.inj H
 go_enter Try.func96, Try.ntmps96
 go_wp2_with (first | (refine gl_ 118 (some 7) Try.func118 #[.slice A0 l0.length c0, .func (.func 97) #[] #[]] ?_; (with_reducible refine (slices_IndexFunc_impl_summed_2.calls k _ _ l0 a1 t195 _ ?side1 ?side2 A3.out).mono ?_); (case side1 => exact cC_ HR0.out); (case side2 => exact HC0.out); rintro e w4 ⟨rfl, hb⟩; refine ⟨_, rfl, ?_⟩; replace HB := Aside0.mk (below_step cB0_ hb); (try clear hb); (try clear hb2); (try clear hk); (try clear hi)))
 go_ret
 exact ⟨ce_, cB0_⟩

end Go.Proofs.Ythgmicingbjemaa.PFnGroups
