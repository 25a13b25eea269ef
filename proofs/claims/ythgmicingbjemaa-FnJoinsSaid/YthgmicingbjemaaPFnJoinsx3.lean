-- Written by fprint, a program of this session, out of Lean's own print of the translation. Lean checks it.
import Derived.Test.YthgmicingbjemaaDense
import Derived.Test.YthgmicingbjemaaPFnJoinsx0
import Derived.Test.YthgmicingbjemaaPFnJoinsx1
import Derived.Test.YthgmicingbjemaaPFnJoinsx2
namespace Go.Proofs.Ythgmicingbjemaa.PFnJoins
open Go.RowKit Go.Proofs.YthgmicingbjemaaW.PrintWords Go.Proofs.YthgmicingbjemaaW.PrintLast Go.Proofs.YthgmicingbjemaaW.PrintMore
attribute [local go_sem] max2_int min2_int max_two min_two max_three min_three max_four min_four
set_option linter.unusedVariables false
set_option maxHeartbeats 8000000
set_option maxRecDepth 100000
set_option linter.unusedSimpArgs false

theorem b3_1 {p : Prop} (h : p := by refine cO_ ?_; refine blk_put (cs := #[.slice A123_0 ((rd_T42 l0 x17_1).f0).length c123_0, .int .i64 0]) ?_ 1 _ rfl; refine cO_ ?_; refine blk_put (cs := #[.slice none 0 0, .int .i64 0]) ?_ 0 _ rfl; refine cO_ ?_; exact BK124.out) : p := h
theorem b3_3 {p : Prop} (h : p := by exact cB2_ GE124.out GE126.out) : p := h
theorem b3_4 {p : Prop} (h : p := by exact cB1_ GE120.out) : p := h
theorem b3_5 {p : Prop} (h : p := by exact cB1_ GE124.out) : p := h
/-! ### impl_sameSets_1: function 108 -/
def impl_sameSets_1.f (k : Nat) (l0_0 : List Int) (a0_1 : Int) (l1_0 : List Int) (a1_1 : Int) : Option (Bool) := if a0_1 = a1_1 then ((slices_Equal_int64_int64.f k l0_0 l1_0).bind fun t122 => (some t122)) else (some false)
theorem impl_sameSets_1.mono : ∀ a0 a1 a2 a3 k, LeO (impl_sameSets_1.f k a0 a1 a2 a3) (impl_sameSets_1.f (k + 1) a0 a1 a2 a3) := by
 intro a0 a1 a2 a3 k
 unfold impl_sameSets_1.f
 repeat' first
   | (with_reducible exact slices_Equal_int64_int64.mono _ _ _)
   | (with_reducible exact LeO.refl _)
   | (with_reducible exact LeO.none _)
   | (with_reducible refine LeO.ite ?_ ?_)
   | (with_reducible refine LeO.bind ?_ (fun _ => ?_))
   | refine LeO.ite ?_ ?_
   | refine LeO.bind ?_ (fun _ => ?_)
theorem impl_sameSets_1.calls (k : Nat) (A0_0 : Option Addr) (c0_0 : Nat) (l0_0 : List Int) (a0_1 : Int) (A1_0 : Option Addr) (c1_0 : Nat) (l1_0 : List Int) (a1_1 : Int) (r : Bool) (w : World) (hr0_0 : Kd.C (Kd.int .i64) w A0_0 l0_0.length l0_0) (hc0_0 : l0_0.length ≤ c0_0) (hr1_0 : Kd.C (Kd.int .i64) w A1_0 l1_0.length l1_0) (hc1_0 : l1_0.length ≤ c1_0) (h : impl_sameSets_1.f k l0_0 a0_1 l1_0 a1_1 = some r) :
  Calls Try.prog 108 #[.agg #[.slice A0_0 l0_0.length c0_0, .int .i64 a0_1], .agg #[.slice A1_0 l1_0.length c1_0, .int .i64 a1_1]] w fun e w' => e = .returned (.bool r) ∧ Below w.heap.size w w' := by
 have hu42 := Try.underlying42
 have HR0_0 := Aside0.mk hr0_0
 have HC0_0 := Aside0.mk hc0_0
 clear hr0_0 hc0_0
 have HR1_0 := Aside0.mk hr1_0
 have HC1_0 := Aside0.mk hc1_0
 clear hr1_0 hc1_0
 have HB := Aside0.mk (Below.refl w.heap.size w)
 have H : (if a0_1 = a1_1 then ((slices_Equal_int64_int64.f k l0_0 l1_0).bind fun t122 => (some t122)) else (some false)) = some r := h
 clear h
 by_cases c3 : a0_1 = a1_1
 ·rw [if_pos c3] at H
  have c3b0 : (a0_1 == a1_1) = true := beq_iff_eq.mpr c3
  have c3b1 : (a0_1 != a1_1) = false := bne_eq_false_iff_eq.mpr c3
  clear c3
  obtain ⟨t122, A4, H⟩ := bnd_ H
  try dsimp only at H
  obtain rfl := Option.some.inj H
  go_enter Try.func108, Try.ntmps108
  go_wp2_with (first | (refine bx_ 2 #[.slice A0_0 l0_0.length c0_0, .int .i64 a0_1] 42 ?_; intro gb120 hg w5 hbox hb; have BK120 := Aside0.mk (hbox); have GW120 := Aside0.mk ((by rw [hg]; exact (below_size cB0_) : w.heap.size ≤ gb120)); have GE120 := Aside0.mk ((by rw [hg]; exact (below_size cB0_) : w.heap.size ≤ gb120)); replace HB := Aside0.mk (below_step cB0_ hb); clear hb hbox hg) | (refine bx_ 3 #[.slice A1_0 l1_0.length c1_0, .int .i64 a1_1] 42 ?_; intro gb121 hg w6 hbox hb; have BK121 := Aside0.mk (hbox); have GW121 := Aside0.mk ((by rw [hg]; exact (below_size b3_4) : w.heap.size ≤ gb121)); have GE121 := Aside0.mk ((by rw [hg]; exact (below_size b3_4) : w.heap.size ≤ gb121)); replace HB := Aside0.mk (below_step b3_4 hb); have NB120_121 := Aside0.mk ((by rw [hg]; exact Nat.ne_of_lt (blk_lt (g := gb120) (o := .cells #[.slice A0_0 l0_0.length c0_0, .int .i64 a0_1] 42 (0, 0)) (cO_ BK120.out)) : gb120 ≠ gb121)); have NB121_120 := Aside0.mk ((by rw [hg]; exact Nat.ne_of_gt (blk_lt (g := gb120) (o := .cells #[.slice A0_0 l0_0.length c0_0, .int .i64 a0_1] 42 (0, 0)) (cO_ BK120.out)) : gb121 ≠ gb120)); replace BK120 := Aside0.mk (blk_below (g := gb120) (o := .cells #[.slice A0_0 l0_0.length c0_0, .int .i64 a0_1] 42 (0, 0)) (cO_ BK120.out) hb); clear hb hbox hg; have hnb7 := NB120_121.out; have hnc7 := NB121_120.out; obtain ⟨hcz8_0, hcz8_1, hfz8_0, hfz8_1⟩ := cells2 BK120.out; obtain ⟨hcz9_0, hcz9_1, hfz9_0, hfz9_1⟩ := cells2 BK121.out) | (go_at_call 86; (with_reducible refine (slices_Equal_int64_int64.calls k _ _ l0_0 _ _ l1_0 t122 _ ?side1 ?side2 ?side3 ?side4 A4.out).mono ?_); (case side1 => exact cC_ (Kd.C_below HR0_0.out HB.out)); (case side2 => exact HC0_0.out); (case side3 => exact cC_ (Kd.C_below HR1_0.out HB.out)); (case side4 => exact HC1_0.out); rintro e w' ⟨rfl, ⟨nd, rfl⟩⟩))
  go_ret
  exact ⟨ce_, cB2_ GE120.out GE121.out⟩
 rw [if_neg c3] at H
 have c3b0 : (a0_1 == a1_1) = false := beq_eq_false_iff_ne.mpr c3
 have c3b1 : (a0_1 != a1_1) = true := bne_iff_ne.mpr c3
 obtain rfl := Option.some.inj H
 go_enter Try.func108, Try.ntmps108
 go_wp2_with (first | (refine bx_ 2 #[.slice A0_0 l0_0.length c0_0, .int .i64 a0_1] 42 ?_; intro gb120 hg w10 hbox hb; have BK120 := Aside0.mk (hbox); have GW120 := Aside0.mk ((by rw [hg]; exact (below_size cB0_) : w.heap.size ≤ gb120)); have GE120 := Aside0.mk ((by rw [hg]; exact (below_size cB0_) : w.heap.size ≤ gb120)); replace HB := Aside0.mk (below_step cB0_ hb); clear hb hbox hg) | (refine bx_ 3 #[.slice A1_0 l1_0.length c1_0, .int .i64 a1_1] 42 ?_; intro gb121 hg w11 hbox hb; have BK121 := Aside0.mk (hbox); have GW121 := Aside0.mk ((by rw [hg]; exact (below_size b3_4) : w.heap.size ≤ gb121)); have GE121 := Aside0.mk ((by rw [hg]; exact (below_size b3_4) : w.heap.size ≤ gb121)); replace HB := Aside0.mk (below_step b3_4 hb); have NB120_121 := Aside0.mk ((by rw [hg]; exact Nat.ne_of_lt (blk_lt (g := gb120) (o := .cells #[.slice A0_0 l0_0.length c0_0, .int .i64 a0_1] 42 (0, 0)) (cO_ BK120.out)) : gb120 ≠ gb121)); have NB121_120 := Aside0.mk ((by rw [hg]; exact Nat.ne_of_gt (blk_lt (g := gb120) (o := .cells #[.slice A0_0 l0_0.length c0_0, .int .i64 a0_1] 42 (0, 0)) (cO_ BK120.out)) : gb121 ≠ gb120)); replace BK120 := Aside0.mk (blk_below (g := gb120) (o := .cells #[.slice A0_0 l0_0.length c0_0, .int .i64 a0_1] 42 (0, 0)) (cO_ BK120.out) hb); clear hb hbox hg; have hnb12 := NB120_121.out; have hnc12 := NB121_120.out; obtain ⟨hcz13_0, hcz13_1, hfz13_0, hfz13_1⟩ := cells2 BK120.out; obtain ⟨hcz14_0, hcz14_1, hfz14_0, hfz14_1⟩ := cells2 BK121.out))
 go_ret
 exact ⟨ce_, cB2_ GE120.out GE121.out⟩

/-! ### slices_EqualFunc_impl_sameSets_1: function 107 -/
def slices_EqualFunc_impl_sameSets_1.l0 : Nat → List (S42) → List (S42) → Int → Int → Option (Bool)
 | 0, _, _, _, _ => none
 | k + 1, x1, x15, x16, x17 => if x17 < x16 then (if 0 ≤ x17 then (if x17 < (x15.length : Int) then (if x17 < (x1.length : Int) then ((impl_sameSets_1.f k ((rd_T42 x15 x17).f0) ((rd_T42 x15 x17).f1) ((rd_T42 x1 x17).f0) ((rd_T42 x1 x17).f1)).bind fun t127 => (if t127 = true then (slices_EqualFunc_impl_sameSets_1.l0 k x1 x15 x16 (wrap64 (x17 + 1))) else (some false))) else (none)) else (none)) else (none)) else (some true)
def slices_EqualFunc_impl_sameSets_1.f (k : Nat) (l0 : List (S42)) (l1 : List (S42)) (a2 : Unit) : Option (Bool) := if (l0.length : Int) = (l1.length : Int) then (slices_EqualFunc_impl_sameSets_1.l0 k l1 l0 (l0.length : Int) 0) else (some false)
theorem slices_EqualFunc_impl_sameSets_1.mono_l : ∀ k, (∀ y0 y1 y2 y3, LeO (slices_EqualFunc_impl_sameSets_1.l0 k y0 y1 y2 y3) (slices_EqualFunc_impl_sameSets_1.l0 (k + 1) y0 y1 y2 y3))
 | 0 => fun _ _ _ _ r h => by simp [slices_EqualFunc_impl_sameSets_1.l0] at h
 | k + 1 => by
  have ih0 := slices_EqualFunc_impl_sameSets_1.mono_l k
  ·intro y0 y1 y2 y3
   unfold slices_EqualFunc_impl_sameSets_1.l0
   repeat' first
   | (with_reducible exact ih0 _ _ _ _)
   | (with_reducible exact impl_sameSets_1.mono _ _ _ _ _)
   | (with_reducible exact LeO.refl _)
   | (with_reducible exact LeO.none _)
   | (with_reducible refine LeO.ite ?_ ?_)
   | (with_reducible refine LeO.bind ?_ (fun _ => ?_))
   | refine LeO.ite ?_ ?_
   | refine LeO.bind ?_ (fun _ => ?_)
theorem slices_EqualFunc_impl_sameSets_1.mono : ∀ a0 a1 a2 k, LeO (slices_EqualFunc_impl_sameSets_1.f k a0 a1 a2) (slices_EqualFunc_impl_sameSets_1.f (k + 1) a0 a1 a2) := by
 intro a0 a1 a2 k
 have ih0 := slices_EqualFunc_impl_sameSets_1.mono_l k
 unfold slices_EqualFunc_impl_sameSets_1.f
 repeat' first
   | (with_reducible exact ih0 _ _ _ _)
   | (with_reducible exact impl_sameSets_1.mono _ _ _ _ _)
   | (with_reducible exact LeO.refl _)
   | (with_reducible exact LeO.none _)
   | (with_reducible refine LeO.ite ?_ ?_)
   | (with_reducible refine LeO.bind ?_ (fun _ => ?_))
   | refine LeO.ite ?_ ?_
   | refine LeO.bind ?_ (fun _ => ?_)
theorem slices_EqualFunc_impl_sameSets_1.calls (k : Nat) (A0 : Option Addr) (c0 : Nat) (l0 : List (S42)) (A1 : Option Addr) (c1 : Nat) (l1 : List (S42)) (a2 : Unit) (r : Bool) (w : World) (hr0 : Kd.C k42 w A0 l0.length l0) (hc0 : l0.length ≤ c0) (hr1 : Kd.C k42 w A1 l1.length l1) (hc1 : l1.length ≤ c1) (h : slices_EqualFunc_impl_sameSets_1.f k l0 l1 a2 = some r) :
  Calls Try.prog 107 #[.slice A0 l0.length c0, .slice A1 l1.length c1, .func (.func 108) #[] #[]] w fun e w' => e = .returned (.bool r) ∧ Below w.heap.size w w' := by
 have hu42 := Try.underlying42
 have HR0 := Aside0.mk hr0
 have HC0 := Aside0.mk hc0
 clear hr0 hc0
 have HR1 := Aside0.mk hr1
 have HC1 := Aside0.mk hc1
 clear hr1 hc1
 have HB := Aside0.mk (Below.refl w.heap.size w)
 have H : (if (l0.length : Int) = (l1.length : Int) then (slices_EqualFunc_impl_sameSets_1.l0 k l1 l0 (l0.length : Int) 0) else (some false)) = some r := h
 clear h
 by_cases c4 : (l0.length : Int) = (l1.length : Int)
 rotate_left
 ·rw [if_neg c4] at H
  have c4b0 : ((l0.length : Int) == (l1.length : Int)) = false := beq_eq_false_iff_ne.mpr c4
  have c4b1 : ((l0.length : Int) != (l1.length : Int)) = true := bne_iff_ne.mpr c4
  have c4b2 : (l0.length == l1.length) = false := by first | simpa using c4 | (simp at c4 ⊢; omega)
  obtain rfl := Option.some.inj H
  go_enter Try.func107, Try.ntmps107
  go_wp2
  go_ret
  exact ⟨ce_, cB0_⟩
 rw [if_pos c4] at H
 have c4b0 : ((l0.length : Int) == (l1.length : Int)) = true := beq_iff_eq.mpr c4
 have c4b1 : ((l0.length : Int) != (l1.length : Int)) = false := bne_eq_false_iff_eq.mpr c4
 have c4b2 : (l0.length == l1.length) = true := by first | simpa using c4 | (simp at c4 ⊢; omega)
 clear c4
 have H' := Aside0.mk H
 clear H
 go_enter Try.func107, Try.ntmps107
 go_wp2
 go_loopg [17] k (fun kq v17 w' => ∃ (x17_1 : Int), v17 = .int .i64 x17_1 ∧ Aside0 (slices_EqualFunc_impl_sameSets_1.l0 kq l1 l0 (l0.length : Int) x17_1 = some r) ∧ Aside0 (kq ≤ k) ∧ Aside0 (Below w.heap.size w w'))
 case atStart => exact ⟨(0), cs_, H', ⟨Nat.le_refl _⟩, ⟨cB0_⟩⟩
 case round =>
  clear H'
  try clear c1
  try clear p2
  try clear c4
  try clear c4b0
  try clear c4b1
  try clear c4b2
  obtain ⟨x17_1, rfl, HA, HK1, HB⟩ := hrel
  cases gk with
  | zero => exact absurd HA.out (by simp [slices_EqualFunc_impl_sameSets_1.l0])
  | succ k1 =>
   have H := HA.out
   clear HA
   simp only [slices_EqualFunc_impl_sameSets_1.l0] at H
   by_cases c5 : x17_1 < (l0.length : Int)
   rotate_left
   ·rw [if_neg c5] at H
    have c5b0 := decide_eq_false c5
    clear c5
    obtain rfl := Option.some.inj H
    go_wp2
    go_ret
    exact ⟨ce_, cB0_⟩
   rw [if_pos c5] at H
   have c5b0 := decide_eq_true c5
   clear c5
   by_cases c6 : 0 ≤ x17_1
   rotate_left
   ·rw [if_neg c6] at H
    exact absurd H (by simp)
   rw [if_pos c6] at H
   have c6b0 := decide_eq_true c6
   clear c6
   by_cases c7 : x17_1 < (l0.length : Int)
   rotate_left
   ·rw [if_neg c7] at H
    exact absurd H (by simp)
   rw [if_pos c7] at H
   have c7b0 := decide_eq_true c7
   clear c7
   by_cases c8 : x17_1 < (l1.length : Int)
   rotate_left
   ·rw [if_neg c8] at H
    exact absurd H (by simp)
   rw [if_pos c8] at H
   have c8b0 := decide_eq_true c8
   clear c8
   obtain ⟨t127, A9, H⟩ := bnd_ H
   try dsimp only at H
   by_cases c10 : t127 = true
   ·subst c10
    rw [if_pos rfl] at H
    have H' := Aside0.mk H
    clear H
    have p123 : 0 ≤ (x17_1 : Int) := cd_
    have q123 : x17_1 < (l0.length : Int) := cd_
    obtain ⟨ad123, A123_0, c123_0, e123, hx123_0, hx123_1, hl123_0, hi123_0⟩ := at_T42 HR0.out x17_1 p123 q123
    cases e123
    replace hx123_0 := pw_cell_below HB.out hx123_0
    replace hx123_1 := pw_cell_below HB.out hx123_1
    have HR123_0 := Aside0.mk hi123_0
    have HC123_0 := Aside0.mk hl123_0
    clear hi123_0 hl123_0
    replace p123 := eq_true p123
    replace q123 := eq_true q123
    go_wp2_with (first | (refine bx_ 8 #[.slice none 0 0, .int .i64 0] 42 ?_; intro gb124 hg w11 hbox hb; have BK124 := Aside0.mk (hbox); have GW124 := Aside0.mk ((by rw [hg]; exact (below_size cB0_) : w.heap.size ≤ gb124)); have GE124 := Aside0.mk ((by rw [hg]; exact (below_size cB0_) : w.heap.size ≤ gb124)); replace HB := Aside0.mk (below_step cB0_ hb); clear hb hbox hg; obtain ⟨hcz12_0, hcz12_1, hfz12_0, hfz12_1⟩ := cells2 BK124.out; have p125 : 0 ≤ (x17_1 : Int) := cd_; have q125 : x17_1 < (l1.length : Int) := cd_; obtain ⟨ad125, A125_0, c125_0, e125, hx125_0, hx125_1, hl125_0, hi125_0⟩ := at_T42 HR1.out x17_1 p125 q125; cases e125; have hn125_0 : ad125.block ≠ gb124 := Nat.ne_of_lt (Nat.lt_of_lt_of_le (by have := World.block_lt_of_cell? _ _ hx125_0; first | rwa [add_block] at this | exact this) GW124.out); have hn125_1 : ad125.block ≠ gb124 := Nat.ne_of_lt (Nat.lt_of_lt_of_le (by have := World.block_lt_of_cell? _ _ hx125_0; first | rwa [add_block] at this | exact this) GW124.out); replace hx125_0 := pw_cell_below HB.out hx125_0; replace hx125_1 := pw_cell_below HB.out hx125_1; have HR125_0 := Aside0.mk hi125_0; have HC125_0 := Aside0.mk hl125_0; clear hi125_0 hl125_0; replace hx125_0 := (cell_far (p := ⟨gb124, 0, none⟩) (by first | (rw [add_block]; exact hn125_0) | (show (Addr.add _ _).block ≠ _; rw [add_block]; exact hn125_0) | exact hn125_0) (.slice A123_0 ((rd_T42 l0 x17_1).f0).length c123_0)).trans hx125_0; replace hx125_1 := (cell_far (p := ⟨gb124, 0, none⟩) (by first | (rw [add_block]; exact hn125_0) | (show (Addr.add _ _).block ≠ _; rw [add_block]; exact hn125_0) | exact hn125_0) (.slice A123_0 ((rd_T42 l0 x17_1).f0).length c123_0)).trans hx125_1; replace hx125_0 := (cell_far (p := ⟨gb124, 1, none⟩) (by first | (rw [add_block]; exact hn125_1) | (show (Addr.add _ _).block ≠ _; rw [add_block]; exact hn125_1) | exact hn125_1) (.int .i64 ((rd_T42 l0 x17_1).f1))).trans hx125_0; replace hx125_1 := (cell_far (p := ⟨gb124, 1, none⟩) (by first | (rw [add_block]; exact hn125_1) | (show (Addr.add _ _).block ≠ _; rw [add_block]; exact hn125_1) | exact hn125_1) (.int .i64 ((rd_T42 l0 x17_1).f1))).trans hx125_1; clear hn125_0; clear hn125_1; replace p125 := eq_true p125; replace q125 := eq_true q125) | (refine bx_ 9 #[.slice none 0 0, .int .i64 0] 42 ?_; intro gb126 hg w13 hbox hb; have BK126 := Aside0.mk (hbox); have GW126 := Aside0.mk ((by rw [hg]; exact (below_size b3_5) : w.heap.size ≤ gb126)); have GE126 := Aside0.mk ((by rw [hg]; exact (below_size b3_5) : w.heap.size ≤ gb126)); replace HB := Aside0.mk (below_step b3_5 hb); have NB124_126 := Aside0.mk ((by rw [hg]; exact Nat.ne_of_lt (blk_lt (g := gb124) (o := .cells #[.slice A123_0 ((rd_T42 l0 x17_1).f0).length c123_0, .int .i64 ((rd_T42 l0 x17_1).f1)] 42 (0, 0)) b3_1) : gb124 ≠ gb126)); have NB126_124 := Aside0.mk ((by rw [hg]; exact Nat.ne_of_gt (blk_lt (g := gb124) (o := .cells #[.slice A123_0 ((rd_T42 l0 x17_1).f0).length c123_0, .int .i64 ((rd_T42 l0 x17_1).f1)] 42 (0, 0)) b3_1) : gb126 ≠ gb124)); replace BK124 := Aside0.mk (blk_below (g := gb124) (o := .cells #[.slice A123_0 ((rd_T42 l0 x17_1).f0).length c123_0, .int .i64 ((rd_T42 l0 x17_1).f1)] 42 (0, 0)) b3_1 hb); clear hb hbox hg; have hnb14 := NB126_124.out; have hnc14 := NB124_126.out; obtain ⟨hcz15_0, hcz15_1, hfz15_0, hfz15_1⟩ := cells2 BK126.out; obtain ⟨hcz16_0, hcz16_1, hfz16_0, hfz16_1⟩ := cells2 BK124.out) | ((refine gate_fn_ (f := 108) (by with_reducible rfl) (by rfl) ?_); refine goesF_ (some 29) rfl rfl Try.func108 (by kernel_rfl) rfl #[.agg #[.slice A123_0 ((rd_T42 l0 x17_1).f0).length c123_0, .int .i64 ((rd_T42 l0 x17_1).f1)], .agg #[.slice A125_0 ((rd_T42 l1 x17_1).f0).length c125_0, .int .i64 ((rd_T42 l1 x17_1).f1)]] rfl (by rfl) cx_ ?_; (with_reducible refine (impl_sameSets_1.calls k1 _ _ ((rd_T42 l0 x17_1).f0) ((rd_T42 l0 x17_1).f1) _ _ ((rd_T42 l1 x17_1).f0) ((rd_T42 l1 x17_1).f1) true _ ?side1 ?side2 ?side3 ?side4 A9.out).mono ?_); (case side1 => exact (by exact Kd.C_below HR123_0.out b3_3)); (case side2 => exact HC123_0.out); (case side3 => exact (by exact Kd.C_below HR125_0.out b3_3)); (case side4 => exact HC125_0.out); rintro e w17 ⟨rfl, hb⟩; refine ⟨_, rfl, ?_⟩; replace BK124 := Aside0.mk (blk_below (g := gb124) (o := .cells #[.slice A123_0 ((rd_T42 l0 x17_1).f0).length c123_0, .int .i64 ((rd_T42 l0 x17_1).f1)] 42 (0, 0)) (by refine cO_ ?_; refine blk_far ?_ NB124_126.out _; refine cO_ ?_; refine blk_far ?_ NB124_126.out _; refine cO_ ?_; exact BK124.out) hb); replace BK126 := Aside0.mk (blk_below (g := gb126) (o := .cells #[.slice A125_0 ((rd_T42 l1 x17_1).f0).length c125_0, .int .i64 ((rd_T42 l1 x17_1).f1)] 42 (0, 0)) (by refine cO_ ?_; refine blk_put (cs := #[.slice A125_0 ((rd_T42 l1 x17_1).f0).length c125_0, .int .i64 0]) ?_ 1 _ rfl; refine cO_ ?_; refine blk_put (cs := #[.slice none 0 0, .int .i64 0]) ?_ 0 _ rfl; refine cO_ ?_; exact BK126.out) hb); replace HB := Aside0.mk (below_step b3_3 hb); (try clear hb); (try clear hb2); (try clear hk); (try clear hi)))
    go_roundg k1
    case measure => have := HK1.out; omega
    case rel => exact ⟨(wrap64 (x17_1 + 1)), cs_, H', ⟨co_ HK1.out⟩, ⟨cB2_ GE124.out GE126.out⟩⟩
   replace c10 := Bool.eq_false_iff.mpr c10
   subst c10
   rw [if_neg (show ¬ (false = true) by decide)] at H
   obtain rfl := Option.some.inj H
   have p123 : 0 ≤ (x17_1 : Int) := cd_
   have q123 : x17_1 < (l0.length : Int) := cd_
   obtain ⟨ad123, A123_0, c123_0, e123, hx123_0, hx123_1, hl123_0, hi123_0⟩ := at_T42 HR0.out x17_1 p123 q123
   cases e123
   replace hx123_0 := pw_cell_below HB.out hx123_0
   replace hx123_1 := pw_cell_below HB.out hx123_1
   have HR123_0 := Aside0.mk hi123_0
   have HC123_0 := Aside0.mk hl123_0
   clear hi123_0 hl123_0
   replace p123 := eq_true p123
   replace q123 := eq_true q123
   go_wp2_with (first | (refine bx_ 8 #[.slice none 0 0, .int .i64 0] 42 ?_; intro gb124 hg w18 hbox hb; have BK124 := Aside0.mk (hbox); have GW124 := Aside0.mk ((by rw [hg]; exact (below_size cB0_) : w.heap.size ≤ gb124)); have GE124 := Aside0.mk ((by rw [hg]; exact (below_size cB0_) : w.heap.size ≤ gb124)); replace HB := Aside0.mk (below_step cB0_ hb); clear hb hbox hg; obtain ⟨hcz19_0, hcz19_1, hfz19_0, hfz19_1⟩ := cells2 BK124.out; have p125 : 0 ≤ (x17_1 : Int) := cd_; have q125 : x17_1 < (l1.length : Int) := cd_; obtain ⟨ad125, A125_0, c125_0, e125, hx125_0, hx125_1, hl125_0, hi125_0⟩ := at_T42 HR1.out x17_1 p125 q125; cases e125; have hn125_0 : ad125.block ≠ gb124 := Nat.ne_of_lt (Nat.lt_of_lt_of_le (by have := World.block_lt_of_cell? _ _ hx125_0; first | rwa [add_block] at this | exact this) GW124.out); have hn125_1 : ad125.block ≠ gb124 := Nat.ne_of_lt (Nat.lt_of_lt_of_le (by have := World.block_lt_of_cell? _ _ hx125_0; first | rwa [add_block] at this | exact this) GW124.out); replace hx125_0 := pw_cell_below HB.out hx125_0; replace hx125_1 := pw_cell_below HB.out hx125_1; have HR125_0 := Aside0.mk hi125_0; have HC125_0 := Aside0.mk hl125_0; clear hi125_0 hl125_0; replace hx125_0 := (cell_far (p := ⟨gb124, 0, none⟩) (by first | (rw [add_block]; exact hn125_0) | (show (Addr.add _ _).block ≠ _; rw [add_block]; exact hn125_0) | exact hn125_0) (.slice A123_0 ((rd_T42 l0 x17_1).f0).length c123_0)).trans hx125_0; replace hx125_1 := (cell_far (p := ⟨gb124, 0, none⟩) (by first | (rw [add_block]; exact hn125_0) | (show (Addr.add _ _).block ≠ _; rw [add_block]; exact hn125_0) | exact hn125_0) (.slice A123_0 ((rd_T42 l0 x17_1).f0).length c123_0)).trans hx125_1; replace hx125_0 := (cell_far (p := ⟨gb124, 1, none⟩) (by first | (rw [add_block]; exact hn125_1) | (show (Addr.add _ _).block ≠ _; rw [add_block]; exact hn125_1) | exact hn125_1) (.int .i64 ((rd_T42 l0 x17_1).f1))).trans hx125_0; replace hx125_1 := (cell_far (p := ⟨gb124, 1, none⟩) (by first | (rw [add_block]; exact hn125_1) | (show (Addr.add _ _).block ≠ _; rw [add_block]; exact hn125_1) | exact hn125_1) (.int .i64 ((rd_T42 l0 x17_1).f1))).trans hx125_1; clear hn125_0; clear hn125_1; replace p125 := eq_true p125; replace q125 := eq_true q125) | (refine bx_ 9 #[.slice none 0 0, .int .i64 0] 42 ?_; intro gb126 hg w20 hbox hb; have BK126 := Aside0.mk (hbox); have GW126 := Aside0.mk ((by rw [hg]; exact (below_size b3_5) : w.heap.size ≤ gb126)); have GE126 := Aside0.mk ((by rw [hg]; exact (below_size b3_5) : w.heap.size ≤ gb126)); replace HB := Aside0.mk (below_step b3_5 hb); have NB124_126 := Aside0.mk ((by rw [hg]; exact Nat.ne_of_lt (blk_lt (g := gb124) (o := .cells #[.slice A123_0 ((rd_T42 l0 x17_1).f0).length c123_0, .int .i64 ((rd_T42 l0 x17_1).f1)] 42 (0, 0)) b3_1) : gb124 ≠ gb126)); have NB126_124 := Aside0.mk ((by rw [hg]; exact Nat.ne_of_gt (blk_lt (g := gb124) (o := .cells #[.slice A123_0 ((rd_T42 l0 x17_1).f0).length c123_0, .int .i64 ((rd_T42 l0 x17_1).f1)] 42 (0, 0)) b3_1) : gb126 ≠ gb124)); replace BK124 := Aside0.mk (blk_below (g := gb124) (o := .cells #[.slice A123_0 ((rd_T42 l0 x17_1).f0).length c123_0, .int .i64 ((rd_T42 l0 x17_1).f1)] 42 (0, 0)) b3_1 hb); clear hb hbox hg; have hnb21 := NB126_124.out; have hnc21 := NB124_126.out; obtain ⟨hcz22_0, hcz22_1, hfz22_0, hfz22_1⟩ := cells2 BK126.out; obtain ⟨hcz23_0, hcz23_1, hfz23_0, hfz23_1⟩ := cells2 BK124.out) | ((refine gate_fn_ (f := 108) (by with_reducible rfl) (by rfl) ?_); refine goesF_ (some 29) rfl rfl Try.func108 (by kernel_rfl) rfl #[.agg #[.slice A123_0 ((rd_T42 l0 x17_1).f0).length c123_0, .int .i64 ((rd_T42 l0 x17_1).f1)], .agg #[.slice A125_0 ((rd_T42 l1 x17_1).f0).length c125_0, .int .i64 ((rd_T42 l1 x17_1).f1)]] rfl (by rfl) cx_ ?_; (with_reducible refine (impl_sameSets_1.calls k1 _ _ ((rd_T42 l0 x17_1).f0) ((rd_T42 l0 x17_1).f1) _ _ ((rd_T42 l1 x17_1).f0) ((rd_T42 l1 x17_1).f1) false _ ?side1 ?side2 ?side3 ?side4 A9.out).mono ?_); (case side1 => exact (by exact Kd.C_below HR123_0.out b3_3)); (case side2 => exact HC123_0.out); (case side3 => exact (by exact Kd.C_below HR125_0.out b3_3)); (case side4 => exact HC125_0.out); rintro e w24 ⟨rfl, hb⟩; refine ⟨_, rfl, ?_⟩; replace BK124 := Aside0.mk (blk_below (g := gb124) (o := .cells #[.slice A123_0 ((rd_T42 l0 x17_1).f0).length c123_0, .int .i64 ((rd_T42 l0 x17_1).f1)] 42 (0, 0)) (by refine cO_ ?_; refine blk_far ?_ NB124_126.out _; refine cO_ ?_; refine blk_far ?_ NB124_126.out _; refine cO_ ?_; exact BK124.out) hb); replace BK126 := Aside0.mk (blk_below (g := gb126) (o := .cells #[.slice A125_0 ((rd_T42 l1 x17_1).f0).length c125_0, .int .i64 ((rd_T42 l1 x17_1).f1)] 42 (0, 0)) (by refine cO_ ?_; refine blk_put (cs := #[.slice A125_0 ((rd_T42 l1 x17_1).f0).length c125_0, .int .i64 0]) ?_ 1 _ rfl; refine cO_ ?_; refine blk_put (cs := #[.slice none 0 0, .int .i64 0]) ?_ 0 _ rfl; refine cO_ ?_; exact BK126.out) hb); replace HB := Aside0.mk (below_step b3_3 hb); (try clear hb); (try clear hb2); (try clear hk); (try clear hi)))
   go_ret
   exact ⟨ce_, cB2_ GE124.out GE126.out⟩

/-! ### impl_sameSets: function 72 -/
def impl_sameSets.f (k : Nat) (l0 : List (S42)) (l1 : List (S42)) : Option (Bool) := (slices_EqualFunc_impl_sameSets_1.f k l0 l1 ()).bind fun t128 => (some t128)
theorem impl_sameSets.mono : ∀ a0 a1 k, LeO (impl_sameSets.f k a0 a1) (impl_sameSets.f (k + 1) a0 a1) := by
 intro a0 a1 k
 unfold impl_sameSets.f
 repeat' first
   | (with_reducible exact slices_EqualFunc_impl_sameSets_1.mono _ _ _ _)
   | (with_reducible exact LeO.refl _)
   | (with_reducible exact LeO.none _)
   | (with_reducible refine LeO.ite ?_ ?_)
   | (with_reducible refine LeO.bind ?_ (fun _ => ?_))
   | refine LeO.ite ?_ ?_
   | refine LeO.bind ?_ (fun _ => ?_)
theorem impl_sameSets.calls (k : Nat) (A0 : Option Addr) (c0 : Nat) (l0 : List (S42)) (A1 : Option Addr) (c1 : Nat) (l1 : List (S42)) (r : Bool) (w : World) (hr0 : Kd.C k42 w A0 l0.length l0) (hc0 : l0.length ≤ c0) (hr1 : Kd.C k42 w A1 l1.length l1) (hc1 : l1.length ≤ c1) (h : impl_sameSets.f k l0 l1 = some r) :
  Calls Try.prog 72 #[.slice A0 l0.length c0, .slice A1 l1.length c1] w fun e w' => e = .returned (.bool r) ∧ Below w.heap.size w w' := by
 have HR0 := Aside0.mk hr0
 have HC0 := Aside0.mk hc0
 clear hr0 hc0
 have HR1 := Aside0.mk hr1
 have HC1 := Aside0.mk hc1
 clear hr1 hc1
 have HB := Aside0.mk (Below.refl w.heap.size w)
 have H : ((slices_EqualFunc_impl_sameSets_1.f k l0 l1 ()).bind fun t128 => (some t128)) = some r := h
 clear h
 obtain ⟨t128, A3, H⟩ := bnd_ H
 try dsimp only at H
 obtain rfl := Option.some.inj H
 go_enter Try.func72, Try.ntmps72
 go_wp2_with (first | (refine gl_ 107 (some 7) Try.func107 #[.slice A0 l0.length c0, .slice A1 l1.length c1, .func (.func 108) #[] #[]] ?_; (with_reducible refine (slices_EqualFunc_impl_sameSets_1.calls k _ _ l0 _ _ l1 () t128 _ ?side1 ?side2 ?side3 ?side4 A3.out).mono ?_); (case side1 => exact cC_ HR0.out); (case side2 => exact HC0.out); (case side3 => exact cC_ HR1.out); (case side4 => exact HC1.out); rintro e w4 ⟨rfl, hb⟩; refine ⟨_, rfl, ?_⟩; replace HB := Aside0.mk (below_step cB0_ hb); (try clear hb); (try clear hb2); (try clear hk); (try clear hi)))
 go_ret
 exact ⟨ce_, cB0_⟩

/-! ### impl_SameSets: function 27 -/
def impl_SameSets.f (k : Nat) (l0 : List (S42)) (l1 : List (S42)) : Option (Bool) := (impl_sameSets.f k l0 l1).bind fun t129 => (some t129)
theorem impl_SameSets.mono : ∀ a0 a1 k, LeO (impl_SameSets.f k a0 a1) (impl_SameSets.f (k + 1) a0 a1) := by
 intro a0 a1 k
 unfold impl_SameSets.f
 repeat' first
   | (with_reducible exact impl_sameSets.mono _ _ _)
   | (with_reducible exact LeO.refl _)
   | (with_reducible exact LeO.none _)
   | (with_reducible refine LeO.ite ?_ ?_)
   | (with_reducible refine LeO.bind ?_ (fun _ => ?_))
   | refine LeO.ite ?_ ?_
   | refine LeO.bind ?_ (fun _ => ?_)
theorem impl_SameSets.calls (k : Nat) (A0 : Option Addr) (c0 : Nat) (l0 : List (S42)) (A1 : Option Addr) (c1 : Nat) (l1 : List (S42)) (r : Bool) (w : World) (hr0 : Kd.C k42 w A0 l0.length l0) (hc0 : l0.length ≤ c0) (hr1 : Kd.C k42 w A1 l1.length l1) (hc1 : l1.length ≤ c1) (h : impl_SameSets.f k l0 l1 = some r) :
  Calls Try.prog 27 #[.slice A0 l0.length c0, .slice A1 l1.length c1] w fun e w' => e = .returned (.bool r) ∧ Below w.heap.size w w' := by
 have HR0 := Aside0.mk hr0
 have HC0 := Aside0.mk hc0
 clear hr0 hc0
 have HR1 := Aside0.mk hr1
 have HC1 := Aside0.mk hc1
 clear hr1 hc1
 have HB := Aside0.mk (Below.refl w.heap.size w)
 have H : ((impl_sameSets.f k l0 l1).bind fun t129 => (some t129)) = some r := h
 clear h
 obtain ⟨t129, A3, H⟩ := bnd_ H
 try dsimp only at H
 obtain rfl := Option.some.inj H
 go_enter Try.func27, Try.ntmps27
 go_wp2_with (first | (refine gl_ 72 (some 7) Try.func72 #[.slice A0 l0.length c0, .slice A1 l1.length c1] ?_; (with_reducible refine (impl_sameSets.calls k _ _ l0 _ _ l1 t129 _ ?side1 ?side2 ?side3 ?side4 A3.out).mono ?_); (case side1 => exact cC_ HR0.out); (case side2 => exact HC0.out); (case side3 => exact cC_ HR1.out); (case side4 => exact HC1.out); rintro e w4 ⟨rfl, hb⟩; refine ⟨_, rfl, ?_⟩; replace HB := Aside0.mk (below_step cB0_ hb); (try clear hb); (try clear hb2); (try clear hk); (try clear hi)))
 go_ret
 exact ⟨ce_, cB0_⟩

/-! ### slices_Clone_int64_int64: function 63 -/
def slices_Clone_int64_int64.f (l0 : List Int) : Option (List Int) := if l0.length < 17592186044416 then some l0 else none
theorem slices_Clone_int64_int64.calls (A0 : Option Addr) (c0 : Nat) (l0 : List Int) (r : List Int) (w : World) (hr0 : Kd.C (Kd.int .i64) w A0 l0.length l0) (hc0 : l0.length ≤ c0) (h : slices_Clone_int64_int64.f l0 = some r) :
  Calls Try.prog 63 #[.slice A0 l0.length c0] w fun e w' => ∃ v0_ : Value, e = .returned (v0_) ∧ Kd.R (Kd.int .i64) 2 w' w.heap.size (fun _ => True) v0_ r ∧ Below w.heap.size w w' := by
 have hq_ : ∀ (w : World) (a : Option Addr) (n c n' c' : Nat), (binOp .eql 40 (.slice a n c) (.slice none n' c')).run Try.prog w = .ok (.bool a.isNone) w := by
  intro w a n c n' c'
  have h1 : ∀ d : Nat, (Op.equalIn (d + 1) 40 (.slice a n c) (.slice none n' c')).run Try.prog w = .ok a.isNone w := by
   intro d
   cases a <;> simp [Op.equalIn, run_underlying Try.underlying40]
  simp only [binOp]
  simp [Op.equal, Op.maxDepth, h1 9999]
 have hlim : l0.length < 17592186044416 ∧ l0 = r := by
  unfold slices_Clone_int64_int64.f at h
  by_cases c : l0.length < 17592186044416
  ·rw [if_pos c] at h; exact ⟨c, Option.some.inj h⟩
  ·rw [if_neg c] at h; exact absurd h (by simp)
 obtain ⟨hl, rfl⟩ := hlim
 clear h
 have hnil : A0 = none → l0 = [] := by
  intro h0
  by_cases hp : 0 < l0.length
  ·obtain ⟨ad, h1, _⟩ := hr0.2.2 hp
   rw [h0] at h1; cases h1
  ·exact List.eq_nil_of_length_eq_zero (by omega)
 cases A0 with
 | none =>
  have h0 := hnil rfl
  subst h0
  clear hnil hr0 hc0 hl
  have HB := Aside0.mk (Below.refl w.heap.size w)
  go_enter Try.func63, Try.ntmps63
  go_wp2
  go_ret
  exact ⟨_, rfl, Kd.R_nil _ _ _ _ _, HB.out⟩
 | some ad =>
  clear hnil
  have HR0 := Aside0.mk hr0
  have HC0 := Aside0.mk hc0
  have HL_ := Aside0.mk hl
  clear hr0 hc0 hl
  have HB := Aside0.mk (Below.refl w.heap.size w)
  go_enter Try.func63, Try.ntmps63
  go_wp2_with (first | ((with_reducible refine gate_dst (N := 5) rfl ?_); refine Kd.R_lit (Kd.int .i64) _ 2 ?hg (N := 5) ?hd (xs := ([] : List Int)) (inner := []) (ok := fun _ => True) (okp := fun _ => True) ?hr ?hp (fun _ hk => hk) trivial (Below.refl _ _) (Nat.le_refl _) (by simp) ?_; (case hd => rfl); (case hg => rfl); (case hr => first | (go_simp; done) | (go_simp; rfl)); (case hp => exact (Reps.none _ _)); intro v161 w3 ho4 hb hg_ hnew_; clear hg_ hnew_; have HO162 := Aside0.mk (Kd.R_lower ho4 (below_size HB.out)); replace HB := Aside0.mk (below_step HB.out hb); clear hb ho4) | ((with_reducible refine gate_builtin (b := .append) (xs := #[.tmp 5, .tmp 6]) rfl ?_); at_builtin; refine Kd.R_append_rows (Kd.int .i64) (w0 := w) w.heap.size rfl (.tmp 5) (.tmp 6) 40 2 (.int .i64 0) 8 rfl Try.underlying40 info2 rfl (by decide) (by omega) v161 ([] : List Int) l0 _ _ _ (fun _ => True) (fun _ => False) rfl rfl ?aO ?aR (fun _ _ h => h) (fun _ h => h.elim) ?aF ?aB ?aS ?aL ?_; (case aR => exact (Kd.C_below HR0.out HB.out)); (case aB => exact HB.out); (case aF => exact (fun _ _ => trivial)); (case aO => exact HO162.out); (case aS => exact (below_size HB.out)); (case aL => have := HL_.out; simp only [List.length_nil]; omega); intro v164 w5 ho hb hg hat; rw [List.nil_append] at ho; replace HB := Aside0.mk (hb); have HO165 := Aside0.mk (ho); clear HO162; clear ho hb hg hat))
  go_ret
  exact ⟨_, rfl, HO165.out, HB.out⟩

-- NOT PRINTED: function 91 (impl_Entry_91)

/-! ### impl_byRow: function 93 -/
def impl_byRow.f (k : Nat) (l0_0 : List Int) (a0_1 : Int) (l1_0 : List Int) (a1_1 : Int) : Option (Int) := (impl_CompareRows.f k l0_0 l1_0).bind fun t132 => (some t132)
theorem impl_byRow.mono : ∀ a0 a1 a2 a3 k, LeO (impl_byRow.f k a0 a1 a2 a3) (impl_byRow.f (k + 1) a0 a1 a2 a3) := by
 intro a0 a1 a2 a3 k
 unfold impl_byRow.f
 repeat' first
   | (with_reducible exact impl_CompareRows.mono _ _ _)
   | (with_reducible exact LeO.refl _)
   | (with_reducible exact LeO.none _)
   | (with_reducible refine LeO.ite ?_ ?_)
   | (with_reducible refine LeO.bind ?_ (fun _ => ?_))
   | refine LeO.ite ?_ ?_
   | refine LeO.bind ?_ (fun _ => ?_)
theorem impl_byRow.calls (k : Nat) (A0_0 : Option Addr) (c0_0 : Nat) (l0_0 : List Int) (a0_1 : Int) (A1_0 : Option Addr) (c1_0 : Nat) (l1_0 : List Int) (a1_1 : Int) (r : Int) (w : World) (hr0_0 : Kd.C (Kd.int .i64) w A0_0 l0_0.length l0_0) (hc0_0 : l0_0.length ≤ c0_0) (hr1_0 : Kd.C (Kd.int .i64) w A1_0 l1_0.length l1_0) (hc1_0 : l1_0.length ≤ c1_0) (h : impl_byRow.f k l0_0 a0_1 l1_0 a1_1 = some r) :
  Calls Try.prog 93 #[.agg #[.slice A0_0 l0_0.length c0_0, .int .i64 a0_1], .agg #[.slice A1_0 l1_0.length c1_0, .int .i64 a1_1]] w fun e w' => e = .returned (.int .i64 r) ∧ Below w.heap.size w w' := by
 have hu42 := Try.underlying42
 have HR0_0 := Aside0.mk hr0_0
 have HC0_0 := Aside0.mk hc0_0
 clear hr0_0 hc0_0
 have HR1_0 := Aside0.mk hr1_0
 have HC1_0 := Aside0.mk hc1_0
 clear hr1_0 hc1_0
 have HB := Aside0.mk (Below.refl w.heap.size w)
 have H : ((impl_CompareRows.f k l0_0 l1_0).bind fun t132 => (some t132)) = some r := h
 clear h
 obtain ⟨t132, A3, H⟩ := bnd_ H
 try dsimp only at H
 obtain rfl := Option.some.inj H
 go_enter Try.func93, Try.ntmps93
 go_wp2_with (first | (refine bx_ 2 #[.slice A0_0 l0_0.length c0_0, .int .i64 a0_1] 42 ?_; intro gb130 hg w4 hbox hb; have BK130 := Aside0.mk (hbox); have GW130 := Aside0.mk ((by rw [hg]; exact (below_size cB0_) : w.heap.size ≤ gb130)); have GE130 := Aside0.mk ((by rw [hg]; exact (below_size cB0_) : w.heap.size ≤ gb130)); replace HB := Aside0.mk (below_step cB0_ hb); clear hb hbox hg) | (refine bx_ 3 #[.slice A1_0 l1_0.length c1_0, .int .i64 a1_1] 42 ?_; intro gb131 hg w5 hbox hb; have BK131 := Aside0.mk (hbox); have GW131 := Aside0.mk ((by rw [hg]; exact (below_size (cB1_ GE130.out)) : w.heap.size ≤ gb131)); have GE131 := Aside0.mk ((by rw [hg]; exact (below_size (cB1_ GE130.out)) : w.heap.size ≤ gb131)); replace HB := Aside0.mk (below_step (cB1_ GE130.out) hb); have NB130_131 := Aside0.mk ((by rw [hg]; exact Nat.ne_of_lt (blk_lt (g := gb130) (o := .cells #[.slice A0_0 l0_0.length c0_0, .int .i64 a0_1] 42 (0, 0)) (cO_ BK130.out)) : gb130 ≠ gb131)); have NB131_130 := Aside0.mk ((by rw [hg]; exact Nat.ne_of_gt (blk_lt (g := gb130) (o := .cells #[.slice A0_0 l0_0.length c0_0, .int .i64 a0_1] 42 (0, 0)) (cO_ BK130.out)) : gb131 ≠ gb130)); replace BK130 := Aside0.mk (blk_below (g := gb130) (o := .cells #[.slice A0_0 l0_0.length c0_0, .int .i64 a0_1] 42 (0, 0)) (cO_ BK130.out) hb); clear hb hbox hg; have hnb6 := NB130_131.out; have hnc6 := NB131_130.out; obtain ⟨hcz7_0, hcz7_1, hfz7_0, hfz7_1⟩ := cells2 BK130.out; obtain ⟨hcz8_0, hcz8_1, hfz8_0, hfz8_1⟩ := cells2 BK131.out) | (refine gl_ 25 (some 9) Try.func25 #[.slice A0_0 l0_0.length c0_0, .slice A1_0 l1_0.length c1_0] ?_; (with_reducible refine (impl_CompareRows.calls k _ _ l0_0 _ _ l1_0 t132 _ ?side1 ?side2 ?side3 ?side4 A3.out).mono ?_); (case side1 => exact cC_ (Kd.C_below HR0_0.out HB.out)); (case side2 => exact HC0_0.out); (case side3 => exact cC_ (Kd.C_below HR1_0.out HB.out)); (case side4 => exact HC1_0.out); rintro e w9 ⟨rfl, hb⟩; refine ⟨_, rfl, ?_⟩; replace BK130 := Aside0.mk (blk_below (g := gb130) (o := .cells #[.slice A0_0 l0_0.length c0_0, .int .i64 a0_1] 42 (0, 0)) (cO_ BK130.out) hb); replace BK131 := Aside0.mk (blk_below (g := gb131) (o := .cells #[.slice A1_0 l1_0.length c1_0, .int .i64 a1_1] 42 (0, 0)) (cO_ BK131.out) hb); replace HB := Aside0.mk (below_step (cB2_ GE130.out GE131.out) hb); (try clear hb); (try clear hb2); (try clear hk); (try clear hi)))
 go_ret
 exact ⟨ce_, cB2_ GE130.out GE131.out⟩

/-! ### impl_summed_1: function 95 -/
def impl_summed_1.f (l0_0 : List Int) (a0_1 : Int) : Option (Bool) := some (a0_1 == 0)
theorem impl_summed_1.calls (A0_0 : Option Addr) (c0_0 : Nat) (l0_0 : List Int) (a0_1 : Int) (r : Bool) (w : World) (hr0_0 : Kd.C (Kd.int .i64) w A0_0 l0_0.length l0_0) (hc0_0 : l0_0.length ≤ c0_0) (h : impl_summed_1.f l0_0 a0_1 = some r) :
  Calls Try.prog 95 #[.agg #[.slice A0_0 l0_0.length c0_0, .int .i64 a0_1]] w fun e w' => e = .returned (.bool r) ∧ Below w.heap.size w w' := by
 have hu42 := Try.underlying42
 have HR0_0 := Aside0.mk hr0_0
 have HC0_0 := Aside0.mk hc0_0
 clear hr0_0 hc0_0
 have HB := Aside0.mk (Below.refl w.heap.size w)
 have H : (some (a0_1 == 0)) = some r := h
 clear h
 obtain rfl := Option.some.inj H
 go_enter Try.func95, Try.ntmps95
 go_wp2_with (first | (refine bx_ 1 #[.slice A0_0 l0_0.length c0_0, .int .i64 a0_1] 42 ?_; intro gb133 hg w2 hbox hb; have BK133 := Aside0.mk (hbox); have GW133 := Aside0.mk ((by rw [hg]; exact (below_size cB0_) : w.heap.size ≤ gb133)); have GE133 := Aside0.mk ((by rw [hg]; exact (below_size cB0_) : w.heap.size ≤ gb133)); replace HB := Aside0.mk (below_step cB0_ hb); clear hb hbox hg; obtain ⟨hcz3_0, hcz3_1, hfz3_0, hfz3_1⟩ := cells2 BK133.out))
 go_ret
 exact ⟨ce_, cB1_ GE133.out⟩

/-! ### impl_summed_2: function 97 -/
def impl_summed_2.f (l0_0 : List Int) (a0_1 : Int) : Option (Bool) := (impl_isWeight.f a0_1).bind fun t135 => (some (!t135))
theorem impl_summed_2.calls (A0_0 : Option Addr) (c0_0 : Nat) (l0_0 : List Int) (a0_1 : Int) (r : Bool) (w : World) (hr0_0 : Kd.C (Kd.int .i64) w A0_0 l0_0.length l0_0) (hc0_0 : l0_0.length ≤ c0_0) (h : impl_summed_2.f l0_0 a0_1 = some r) :
  Calls Try.prog 97 #[.agg #[.slice A0_0 l0_0.length c0_0, .int .i64 a0_1]] w fun e w' => e = .returned (.bool r) ∧ Below w.heap.size w w' := by
 have hu42 := Try.underlying42
 have HR0_0 := Aside0.mk hr0_0
 have HC0_0 := Aside0.mk hc0_0
 clear hr0_0 hc0_0
 have HB := Aside0.mk (Below.refl w.heap.size w)
 have H : ((impl_isWeight.f a0_1).bind fun t135 => (some (!t135))) = some r := h
 clear h
 obtain ⟨t135, A2, H⟩ := bnd_ H
 try dsimp only at H
 obtain rfl := Option.some.inj H
 go_enter Try.func97, Try.ntmps97
 go_wp2_with (first | (refine bx_ 1 #[.slice A0_0 l0_0.length c0_0, .int .i64 a0_1] 42 ?_; intro gb134 hg w3 hbox hb; have BK134 := Aside0.mk (hbox); have GW134 := Aside0.mk ((by rw [hg]; exact (below_size cB0_) : w.heap.size ≤ gb134)); have GE134 := Aside0.mk ((by rw [hg]; exact (below_size cB0_) : w.heap.size ≤ gb134)); replace HB := Aside0.mk (below_step cB0_ hb); clear hb hbox hg; obtain ⟨hcz4_0, hcz4_1, hfz4_0, hfz4_1⟩ := cells2 BK134.out) | (refine gl_ 49 (some 5) Try.func49 #[.int .i64 a0_1] ?_; (with_reducible refine (impl_isWeight.calls a0_1 t135 _ A2.out).mono ?_); rintro e w' ⟨rfl, ⟨nd, rfl⟩⟩; refine ⟨_, rfl, ?_⟩))
 go_ret
 exact ⟨ce_, cB1_ GE134.out⟩

-- NOT PRINTED: function 9000004 (slices_insertionSortCmpFunc_impl_byRow)

-- NOT PRINTED: function 9000007 (slices_swapRangeCmpFunc_impl_byRow)

-- NOT PRINTED: function 9000006 (slices_rotateCmpFunc_impl_byRow)

-- NOT PRINTED: function 9000005 (slices_symMergeCmpFunc_impl_byRow)

-- NOT PRINTED: function 9000003 (slices_stableCmpFunc_impl_byRow)

-- NOT PRINTED: function 9000002 (slices_SortStableFunc_impl_byRow)

/-! ### slices_IndexFunc_impl_summed_1: function 118 -/
def slices_IndexFunc_impl_summed_1.l0 : Nat → List (S42) → Int → Int → Option (Int)
 | 0, _, _, _ => none
 | k + 1, x0, x7, x8 => if x8 < x7 then (if 0 ≤ x8 then (if x8 < (x0.length : Int) then ((impl_summed_1.f ((rd_T42 x0 x8).f0) ((rd_T42 x0 x8).f1)).bind fun t149 => (if t149 = true then (some x8) else (slices_IndexFunc_impl_summed_1.l0 k x0 x7 (wrap64 (x8 + 1))))) else (none)) else (none)) else (some (-1))
def slices_IndexFunc_impl_summed_1.f (k : Nat) (l0 : List (S42)) (a1 : Unit) : Option (Int) := slices_IndexFunc_impl_summed_1.l0 k l0 (l0.length : Int) 0
theorem slices_IndexFunc_impl_summed_1.mono_l : ∀ k, (∀ y0 y1 y2, LeO (slices_IndexFunc_impl_summed_1.l0 k y0 y1 y2) (slices_IndexFunc_impl_summed_1.l0 (k + 1) y0 y1 y2))
 | 0 => fun _ _ _ r h => by simp [slices_IndexFunc_impl_summed_1.l0] at h
 | k + 1 => by
  have ih0 := slices_IndexFunc_impl_summed_1.mono_l k
  ·intro y0 y1 y2
   unfold slices_IndexFunc_impl_summed_1.l0
   repeat' first
   | (with_reducible exact ih0 _ _ _)
   | (with_reducible exact LeO.refl _)
   | (with_reducible exact LeO.none _)
   | (with_reducible refine LeO.ite ?_ ?_)
   | (with_reducible refine LeO.bind ?_ (fun _ => ?_))
   | refine LeO.ite ?_ ?_
   | refine LeO.bind ?_ (fun _ => ?_)
theorem slices_IndexFunc_impl_summed_1.mono : ∀ a0 a1 k, LeO (slices_IndexFunc_impl_summed_1.f k a0 a1) (slices_IndexFunc_impl_summed_1.f (k + 1) a0 a1) := by
 intro a0 a1 k
 have ih0 := slices_IndexFunc_impl_summed_1.mono_l k
 unfold slices_IndexFunc_impl_summed_1.f
 repeat' first
   | (with_reducible exact ih0 _ _ _)
   | (with_reducible exact LeO.refl _)
   | (with_reducible exact LeO.none _)
   | (with_reducible refine LeO.ite ?_ ?_)
   | (with_reducible refine LeO.bind ?_ (fun _ => ?_))
   | refine LeO.ite ?_ ?_
   | refine LeO.bind ?_ (fun _ => ?_)
theorem slices_IndexFunc_impl_summed_1.calls (k : Nat) (A0 : Option Addr) (c0 : Nat) (l0 : List (S42)) (a1 : Unit) (r : Int) (w : World) (hr0 : Kd.C k42 w A0 l0.length l0) (hc0 : l0.length ≤ c0) (h : slices_IndexFunc_impl_summed_1.f k l0 a1 = some r) :
  Calls Try.prog 118 #[.slice A0 l0.length c0, .func (.func 95) #[] #[]] w fun e w' => e = .returned (.int .i64 r) ∧ Below w.heap.size w w' := by
 have hu42 := Try.underlying42
 have HR0 := Aside0.mk hr0
 have HC0 := Aside0.mk hc0
 clear hr0 hc0
 have HB := Aside0.mk (Below.refl w.heap.size w)
 have H : (slices_IndexFunc_impl_summed_1.l0 k l0 (l0.length : Int) 0) = some r := h
 clear h
 have H' := Aside0.mk H
 clear H
 go_enter Try.func118, Try.ntmps118
 go_wp2
 go_loopg [8] k (fun kq v8 w' => ∃ (x8_1 : Int), v8 = .int .i64 x8_1 ∧ Aside0 (slices_IndexFunc_impl_summed_1.l0 kq l0 (l0.length : Int) x8_1 = some r) ∧ Aside0 (kq ≤ k) ∧ Aside0 (Below w.heap.size w w'))
 case atStart => exact ⟨(0), cs_, H', ⟨Nat.le_refl _⟩, ⟨cB0_⟩⟩
 case round =>
  clear H'
  try clear p2
  obtain ⟨x8_1, rfl, HA, HK1, HB⟩ := hrel
  cases gk with
  | zero => exact absurd HA.out (by simp [slices_IndexFunc_impl_summed_1.l0])
  | succ k1 =>
   have H := HA.out
   clear HA
   simp only [slices_IndexFunc_impl_summed_1.l0] at H
   by_cases c3 : x8_1 < (l0.length : Int)
   rotate_left
   ·rw [if_neg c3] at H
    have c3b0 := decide_eq_false c3
    clear c3
    obtain rfl := Option.some.inj H
    go_wp2
    go_ret
    exact ⟨ce_, cB0_⟩
   rw [if_pos c3] at H
   have c3b0 := decide_eq_true c3
   clear c3
   by_cases c4 : 0 ≤ x8_1
   rotate_left
   ·rw [if_neg c4] at H
    exact absurd H (by simp)
   rw [if_pos c4] at H
   have c4b0 := decide_eq_true c4
   clear c4
   by_cases c5 : x8_1 < (l0.length : Int)
   rotate_left
   ·rw [if_neg c5] at H
    exact absurd H (by simp)
   rw [if_pos c5] at H
   have c5b0 := decide_eq_true c5
   clear c5
   obtain ⟨t149, A6, H⟩ := bnd_ H
   try dsimp only at H
   by_cases c7 : t149 = true
   ·subst c7
    rw [if_pos rfl] at H
    obtain rfl := Option.some.inj H
    have p148 : 0 ≤ (x8_1 : Int) := cd_
    have q148 : x8_1 < (l0.length : Int) := cd_
    obtain ⟨ad148, A148_0, c148_0, e148, hx148_0, hx148_1, hl148_0, hi148_0⟩ := at_T42 HR0.out x8_1 p148 q148
    cases e148
    replace hx148_0 := pw_cell_below HB.out hx148_0
    replace hx148_1 := pw_cell_below HB.out hx148_1
    have HR148_0 := Aside0.mk hi148_0
    have HC148_0 := Aside0.mk hl148_0
    clear hi148_0 hl148_0
    replace p148 := eq_true p148
    replace q148 := eq_true q148
    go_wp2_with (first | ((refine gate_fn_ (f := 95) (by with_reducible rfl) (by rfl) ?_); refine goesF_ (some 16) rfl rfl Try.func95 (by kernel_rfl) rfl #[.agg #[.slice A148_0 ((rd_T42 l0 x8_1).f0).length c148_0, .int .i64 ((rd_T42 l0 x8_1).f1)]] rfl (by rfl) cx_ ?_; (with_reducible refine (impl_summed_1.calls _ _ ((rd_T42 l0 x8_1).f0) ((rd_T42 l0 x8_1).f1) true _ ?side1 ?side2 A6.out).mono ?_); (case side1 => exact cC_ (Kd.C_below HR148_0.out HB.out)); (case side2 => exact HC148_0.out); rintro e w8 ⟨rfl, hb⟩; refine ⟨_, rfl, ?_⟩; replace HB := Aside0.mk (below_step cB0_ hb); (try clear hb); (try clear hb2); (try clear hk); (try clear hi)))
    go_ret
    exact ⟨ce_, cB0_⟩
   replace c7 := Bool.eq_false_iff.mpr c7
   subst c7
   rw [if_neg (show ¬ (false = true) by decide)] at H
   have H' := Aside0.mk H
   clear H
   have p148 : 0 ≤ (x8_1 : Int) := cd_
   have q148 : x8_1 < (l0.length : Int) := cd_
   obtain ⟨ad148, A148_0, c148_0, e148, hx148_0, hx148_1, hl148_0, hi148_0⟩ := at_T42 HR0.out x8_1 p148 q148
   cases e148
   replace hx148_0 := pw_cell_below HB.out hx148_0
   replace hx148_1 := pw_cell_below HB.out hx148_1
   have HR148_0 := Aside0.mk hi148_0
   have HC148_0 := Aside0.mk hl148_0
   clear hi148_0 hl148_0
   replace p148 := eq_true p148
   replace q148 := eq_true q148
   go_wp2_with (first | ((refine gate_fn_ (f := 95) (by with_reducible rfl) (by rfl) ?_); refine goesF_ (some 16) rfl rfl Try.func95 (by kernel_rfl) rfl #[.agg #[.slice A148_0 ((rd_T42 l0 x8_1).f0).length c148_0, .int .i64 ((rd_T42 l0 x8_1).f1)]] rfl (by rfl) cx_ ?_; (with_reducible refine (impl_summed_1.calls _ _ ((rd_T42 l0 x8_1).f0) ((rd_T42 l0 x8_1).f1) false _ ?side1 ?side2 A6.out).mono ?_); (case side1 => exact cC_ (Kd.C_below HR148_0.out HB.out)); (case side2 => exact HC148_0.out); rintro e w9 ⟨rfl, hb⟩; refine ⟨_, rfl, ?_⟩; replace HB := Aside0.mk (below_step cB0_ hb); (try clear hb); (try clear hb2); (try clear hk); (try clear hi)))
   go_roundg k1
   case measure => have := HK1.out; omega
   case rel => exact ⟨(wrap64 (x8_1 + 1)), cs_, H', ⟨co_ HK1.out⟩, ⟨cB0_⟩⟩

-- NOT PRINTED: function 9000008 (slices_DeleteFunc_impl_summed_1)

/-! ### slices_IndexFunc_impl_summed_2: function 118 -/
def slices_IndexFunc_impl_summed_2.l0 : Nat → List (S42) → Int → Int → Option (Int)
 | 0, _, _, _ => none
 | k + 1, x0, x7, x8 => if x8 < x7 then (if 0 ≤ x8 then (if x8 < (x0.length : Int) then ((impl_summed_2.f ((rd_T42 x0 x8).f0) ((rd_T42 x0 x8).f1)).bind fun t155 => (if t155 = true then (some x8) else (slices_IndexFunc_impl_summed_2.l0 k x0 x7 (wrap64 (x8 + 1))))) else (none)) else (none)) else (some (-1))
def slices_IndexFunc_impl_summed_2.f (k : Nat) (l0 : List (S42)) (a1 : Unit) : Option (Int) := slices_IndexFunc_impl_summed_2.l0 k l0 (l0.length : Int) 0
theorem slices_IndexFunc_impl_summed_2.mono_l : ∀ k, (∀ y0 y1 y2, LeO (slices_IndexFunc_impl_summed_2.l0 k y0 y1 y2) (slices_IndexFunc_impl_summed_2.l0 (k + 1) y0 y1 y2))
 | 0 => fun _ _ _ r h => by simp [slices_IndexFunc_impl_summed_2.l0] at h
 | k + 1 => by
  have ih0 := slices_IndexFunc_impl_summed_2.mono_l k
  ·intro y0 y1 y2
   unfold slices_IndexFunc_impl_summed_2.l0
   repeat' first
   | (with_reducible exact ih0 _ _ _)
   | (with_reducible exact LeO.refl _)
   | (with_reducible exact LeO.none _)
   | (with_reducible refine LeO.ite ?_ ?_)
   | (with_reducible refine LeO.bind ?_ (fun _ => ?_))
   | refine LeO.ite ?_ ?_
   | refine LeO.bind ?_ (fun _ => ?_)
theorem slices_IndexFunc_impl_summed_2.mono : ∀ a0 a1 k, LeO (slices_IndexFunc_impl_summed_2.f k a0 a1) (slices_IndexFunc_impl_summed_2.f (k + 1) a0 a1) := by
 intro a0 a1 k
 have ih0 := slices_IndexFunc_impl_summed_2.mono_l k
 unfold slices_IndexFunc_impl_summed_2.f
 repeat' first
   | (with_reducible exact ih0 _ _ _)
   | (with_reducible exact LeO.refl _)
   | (with_reducible exact LeO.none _)
   | (with_reducible refine LeO.ite ?_ ?_)
   | (with_reducible refine LeO.bind ?_ (fun _ => ?_))
   | refine LeO.ite ?_ ?_
   | refine LeO.bind ?_ (fun _ => ?_)
theorem slices_IndexFunc_impl_summed_2.calls (k : Nat) (A0 : Option Addr) (c0 : Nat) (l0 : List (S42)) (a1 : Unit) (r : Int) (w : World) (hr0 : Kd.C k42 w A0 l0.length l0) (hc0 : l0.length ≤ c0) (h : slices_IndexFunc_impl_summed_2.f k l0 a1 = some r) :
  Calls Try.prog 118 #[.slice A0 l0.length c0, .func (.func 97) #[] #[]] w fun e w' => e = .returned (.int .i64 r) ∧ Below w.heap.size w w' := by
 have hu42 := Try.underlying42
 have HR0 := Aside0.mk hr0
 have HC0 := Aside0.mk hc0
 clear hr0 hc0
 have HB := Aside0.mk (Below.refl w.heap.size w)
 have H : (slices_IndexFunc_impl_summed_2.l0 k l0 (l0.length : Int) 0) = some r := h
 clear h
 have H' := Aside0.mk H
 clear H
 go_enter Try.func118, Try.ntmps118
 go_wp2
 go_loopg [8] k (fun kq v8 w' => ∃ (x8_1 : Int), v8 = .int .i64 x8_1 ∧ Aside0 (slices_IndexFunc_impl_summed_2.l0 kq l0 (l0.length : Int) x8_1 = some r) ∧ Aside0 (kq ≤ k) ∧ Aside0 (Below w.heap.size w w'))
 case atStart => exact ⟨(0), cs_, H', ⟨Nat.le_refl _⟩, ⟨cB0_⟩⟩
 case round =>
  clear H'
  try clear p2
  obtain ⟨x8_1, rfl, HA, HK1, HB⟩ := hrel
  cases gk with
  | zero => exact absurd HA.out (by simp [slices_IndexFunc_impl_summed_2.l0])
  | succ k1 =>
   have H := HA.out
   clear HA
   simp only [slices_IndexFunc_impl_summed_2.l0] at H
   by_cases c3 : x8_1 < (l0.length : Int)
   rotate_left
   ·rw [if_neg c3] at H
    have c3b0 := decide_eq_false c3
    clear c3
    obtain rfl := Option.some.inj H
    go_wp2
    go_ret
    exact ⟨ce_, cB0_⟩
   rw [if_pos c3] at H
   have c3b0 := decide_eq_true c3
   clear c3
   by_cases c4 : 0 ≤ x8_1
   rotate_left
   ·rw [if_neg c4] at H
    exact absurd H (by simp)
   rw [if_pos c4] at H
   have c4b0 := decide_eq_true c4
   clear c4
   by_cases c5 : x8_1 < (l0.length : Int)
   rotate_left
   ·rw [if_neg c5] at H
    exact absurd H (by simp)
   rw [if_pos c5] at H
   have c5b0 := decide_eq_true c5
   clear c5
   obtain ⟨t155, A6, H⟩ := bnd_ H
   try dsimp only at H
   by_cases c7 : t155 = true
   ·subst c7
    rw [if_pos rfl] at H
    obtain rfl := Option.some.inj H
    have p154 : 0 ≤ (x8_1 : Int) := cd_
    have q154 : x8_1 < (l0.length : Int) := cd_
    obtain ⟨ad154, A154_0, c154_0, e154, hx154_0, hx154_1, hl154_0, hi154_0⟩ := at_T42 HR0.out x8_1 p154 q154
    cases e154
    replace hx154_0 := pw_cell_below HB.out hx154_0
    replace hx154_1 := pw_cell_below HB.out hx154_1
    have HR154_0 := Aside0.mk hi154_0
    have HC154_0 := Aside0.mk hl154_0
    clear hi154_0 hl154_0
    replace p154 := eq_true p154
    replace q154 := eq_true q154
    go_wp2_with (first | ((refine gate_fn_ (f := 97) (by with_reducible rfl) (by rfl) ?_); refine goesF_ (some 16) rfl rfl Try.func97 (by kernel_rfl) rfl #[.agg #[.slice A154_0 ((rd_T42 l0 x8_1).f0).length c154_0, .int .i64 ((rd_T42 l0 x8_1).f1)]] rfl (by rfl) cx_ ?_; (with_reducible refine (impl_summed_2.calls _ _ ((rd_T42 l0 x8_1).f0) ((rd_T42 l0 x8_1).f1) true _ ?side1 ?side2 A6.out).mono ?_); (case side1 => exact cC_ (Kd.C_below HR154_0.out HB.out)); (case side2 => exact HC154_0.out); rintro e w8 ⟨rfl, hb⟩; refine ⟨_, rfl, ?_⟩; replace HB := Aside0.mk (below_step cB0_ hb); (try clear hb); (try clear hb2); (try clear hk); (try clear hi)))
    go_ret
    exact ⟨ce_, cB0_⟩
   replace c7 := Bool.eq_false_iff.mpr c7
   subst c7
   rw [if_neg (show ¬ (false = true) by decide)] at H
   have H' := Aside0.mk H
   clear H
   have p154 : 0 ≤ (x8_1 : Int) := cd_
   have q154 : x8_1 < (l0.length : Int) := cd_
   obtain ⟨ad154, A154_0, c154_0, e154, hx154_0, hx154_1, hl154_0, hi154_0⟩ := at_T42 HR0.out x8_1 p154 q154
   cases e154
   replace hx154_0 := pw_cell_below HB.out hx154_0
   replace hx154_1 := pw_cell_below HB.out hx154_1
   have HR154_0 := Aside0.mk hi154_0
   have HC154_0 := Aside0.mk hl154_0
   clear hi154_0 hl154_0
   replace p154 := eq_true p154
   replace q154 := eq_true q154
   go_wp2_with (first | ((refine gate_fn_ (f := 97) (by with_reducible rfl) (by rfl) ?_); refine goesF_ (some 16) rfl rfl Try.func97 (by kernel_rfl) rfl #[.agg #[.slice A154_0 ((rd_T42 l0 x8_1).f0).length c154_0, .int .i64 ((rd_T42 l0 x8_1).f1)]] rfl (by rfl) cx_ ?_; (with_reducible refine (impl_summed_2.calls _ _ ((rd_T42 l0 x8_1).f0) ((rd_T42 l0 x8_1).f1) false _ ?side1 ?side2 A6.out).mono ?_); (case side1 => exact cC_ (Kd.C_below HR154_0.out HB.out)); (case side2 => exact HC154_0.out); rintro e w9 ⟨rfl, hb⟩; refine ⟨_, rfl, ?_⟩; replace HB := Aside0.mk (below_step cB0_ hb); (try clear hb); (try clear hb2); (try clear hk); (try clear hi)))
   go_roundg k1
   case measure => have := HK1.out; omega
   case rel => exact ⟨(wrap64 (x8_1 + 1)), cs_, H', ⟨co_ HK1.out⟩, ⟨cB0_⟩⟩

/-! ### slices_ContainsFunc_impl_summed_2: function 96 -/
def slices_ContainsFunc_impl_summed_2.f (k : Nat) (l0 : List (S42)) (a1 : Unit) : Option (Bool) := (slices_IndexFunc_impl_summed_2.f k l0 a1).bind fun t156 => (some (decide (t156 ≥ 0)))
theorem slices_ContainsFunc_impl_summed_2.mono : ∀ a0 a1 k, LeO (slices_ContainsFunc_impl_summed_2.f k a0 a1) (slices_ContainsFunc_impl_summed_2.f (k + 1) a0 a1) := by
 intro a0 a1 k
 unfold slices_ContainsFunc_impl_summed_2.f
 repeat' first
   | (with_reducible exact slices_IndexFunc_impl_summed_2.mono _ _ _)
   | (with_reducible exact LeO.refl _)
   | (with_reducible exact LeO.none _)
   | (with_reducible refine LeO.ite ?_ ?_)
   | (with_reducible refine LeO.bind ?_ (fun _ => ?_))
   | refine LeO.ite ?_ ?_
   | refine LeO.bind ?_ (fun _ => ?_)
theorem slices_ContainsFunc_impl_summed_2.calls (k : Nat) (A0 : Option Addr) (c0 : Nat) (l0 : List (S42)) (a1 : Unit) (r : Bool) (w : World) (hr0 : Kd.C k42 w A0 l0.length l0) (hc0 : l0.length ≤ c0) (h : slices_ContainsFunc_impl_summed_2.f k l0 a1 = some r) :
  Calls Try.prog 96 #[.slice A0 l0.length c0, .func (.func 97) #[] #[]] w fun e w' => e = .returned (.bool r) ∧ Below w.heap.size w w' := by
 have HR0 := Aside0.mk hr0
 have HC0 := Aside0.mk hc0
 clear hr0 hc0
 have HB := Aside0.mk (Below.refl w.heap.size w)
 have H : ((slices_IndexFunc_impl_summed_2.f k l0 a1).bind fun t156 => (some (decide (t156 ≥ 0)))) = some r := h
 clear h
 obtain ⟨t156, A3, H⟩ := bnd_ H
 try dsimp only at H
 obtain rfl := Option.some.inj H
 go_enter Try.func96, Try.ntmps96
 go_wp2_with (first | (refine gl_ 118 (some 7) Try.func118 #[.slice A0 l0.length c0, .func (.func 97) #[] #[]] ?_; (with_reducible refine (slices_IndexFunc_impl_summed_2.calls k _ _ l0 a1 t156 _ ?side1 ?side2 A3.out).mono ?_); (case side1 => exact cC_ HR0.out); (case side2 => exact HC0.out); rintro e w4 ⟨rfl, hb⟩; refine ⟨_, rfl, ?_⟩; replace HB := Aside0.mk (below_step cB0_ hb); (try clear hb); (try clear hb2); (try clear hk); (try clear hi)))
 go_ret
 exact ⟨ce_, cB0_⟩

end Go.Proofs.Ythgmicingbjemaa.PFnJoins
