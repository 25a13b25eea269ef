-- Written by fprint, a program of this session, out of Lean's own print of the translation. Lean checks it.
import Derived.Test.YthgmicingbjemaaDense
import Derived.Test.YthgmicingbjemaaPFnGroupsx0
import Derived.Test.YthgmicingbjemaaPFnGroupsx2
import Derived.Test.YthgmicingbjemaaPFnGroupsx6
namespace Go.Proofs.Ythgmicingbjemaa.PFnGroups
open Go.RowKit Go.Proofs.YthgmicingbjemaaW.PrintWords Go.Proofs.YthgmicingbjemaaW.PrintLast Go.Proofs.YthgmicingbjemaaW.PrintMore
attribute [local go_sem] max2_int min2_int max_two min_two max_three min_three max_four min_four   -- for this text's walks alone
set_option linter.unusedVariables false
set_option linter.unusedSimpArgs false

theorem b11_2 {p : Prop} (h : p := by exact cB1_ GE342.out) : p := h
theorem b11_3 {p : Prop} (h : p := by refine cO_ ?_; refine blk_put (cs := #[.slice A341_0 ((rd_T42 l0 x14_1).f0).length c341_0, .int .i64 0]) ?_ 1 _ rfl; refine cO_ ?_; refine blk_put (cs := #[.slice none 0 0, .int .i64 0]) ?_ 0 _ rfl; refine cO_ ?_; exact BK342.out) : p := h
theorem b11_4 {p : Prop} (h : p := by refine cS_ ?_; exact (Kd.S_mono (Kd.S_far (p := ⟨gb342, 1, none⟩) (Kd.S_far (p := ⟨gb342, 0, none⟩) (Kd.S_mono HO_6.out (fun k_ hk => (⟨hk, hk.2⟩ : _ ∧ k_ ≠ gb342))) (fun _ hk => hk.2) (.slice A341_0 ((rd_T42 l0 x14_1).f0).length c341_0)) (fun _ hk => hk.2) (.int .i64 ((rd_T42 l0 x14_1).f1))) (fun _ h_ => h_.1))) : p := h
theorem b11_5 {p : Prop} (h : p := by exact cC_ (Kd.C_below HR0.out HB.out)) : p := h
/-! ### impl_mulWeight: function 87 -/
def impl_mulWeight.j0 : Nat → Int → Int → Bool → Option (Int × Bool)
 | 0, _, _, _ => none
 | k + 1, x0, x1, x11 => if x11 = true then (some (0, true)) else (if (mx x1 (wrap64 (-x1))) = 0 then (none) else (if (mx x0 (wrap64 (-x0))) > (wrap64 (Int.tdiv (1000000000000 : Int) (mx x1 (wrap64 (-x1))))) then (some (0, false)) else (some (wrap64 (x0 * x1), true))))
def impl_mulWeight.f (k : Nat) (a0 : Int) (a1 : Int) : Option (Int × Bool) := if a0 = 0 then (impl_mulWeight.j0 k a0 a1 true) else (impl_mulWeight.j0 k a0 a1 (a1 == 0))
theorem impl_mulWeight.mono_l : ∀ k, (∀ y0 y1 y2, LeO (impl_mulWeight.j0 k y0 y1 y2) (impl_mulWeight.j0 (k + 1) y0 y1 y2))
 | 0 => fun _ _ _ r h => by simp [impl_mulWeight.j0] at h
 | k + 1 => by
  have ih0 := impl_mulWeight.mono_l k
  ·intro y0 y1 y2
   unfold impl_mulWeight.j0
   repeat' first
   | (with_reducible exact ih0 _ _ _)
   | (with_reducible exact LeO.refl _)
   | (with_reducible exact LeO.none _)
   | (with_reducible refine LeO.ite ?_ ?_)
   | (with_reducible refine LeO.bind ?_ (fun _ => ?_))
   | exact ih0 _ _ _
   | exact LeO.none _
   | refine LeO.ite ?_ ?_
   | refine LeO.bind ?_ (fun _ => ?_)
theorem impl_mulWeight.mono : ∀ a0 a1 k, LeO (impl_mulWeight.f k a0 a1) (impl_mulWeight.f (k + 1) a0 a1) := by
 intro a0 a1 k
 have ih0 := impl_mulWeight.mono_l k
 unfold impl_mulWeight.f
 repeat' first
   | (with_reducible exact ih0 _ _ _)
   | (with_reducible exact LeO.refl _)
   | (with_reducible exact LeO.none _)
   | (with_reducible refine LeO.ite ?_ ?_)
   | (with_reducible refine LeO.bind ?_ (fun _ => ?_))
   | exact ih0 _ _ _
   | exact LeO.none _
   | refine LeO.ite ?_ ?_
   | refine LeO.bind ?_ (fun _ => ?_)
set_option maxHeartbeats 8000000 in
set_option maxRecDepth 100000 in
theorem impl_mulWeight.calls (k : Nat) (a0 : Int) (a1 : Int) (r1 : Int) (r2 : Bool) (w : World) (h : impl_mulWeight.f k a0 a1 = some (r1, r2)) :
  Calls Try.prog 87 #[.int .i64 a0, .int .i64 a1] w fun e w' => e = .returned (.tuple #[.int .i64 r1, .bool r2]) ∧ Below w.heap.size w w' := by
 have HB := Aside0.mk (Below.refl w.heap.size w)
 have H : (if a0 = 0 then (impl_mulWeight.j0 k a0 a1 true) else (impl_mulWeight.j0 k a0 a1 (a1 == 0))) = some (r1, r2) := h
 clear h
 have HC3 := Aside0.mk H
 clear H
 go_enter Try.func87, Try.ntmps87
 go_upto_region 1 with (fail)
 go_cut [11] (fun v11 wc => ∃ (kq : Nat) (x11_2 : Bool), v11 = .bool x11_2 ∧ Aside0 (impl_mulWeight.j0 kq a0 a1 x11_2 = some (r1, r2)) ∧ Aside0 (kq ≤ k) ∧ Aside0 (Below w.heap.size w wc))
 case first =>
  have H := HC3.out
  clear HC3
  by_cases c4 : a0 = 0
  ·rw [if_pos c4] at H
   have c4b0 : (a0 == 0) = true := beq_iff_eq.mpr c4
   have c4b1 : (a0 != 0) = false := bne_eq_false_iff_eq.mpr c4
   clear c4
   (first | rw [c4b0] | (simp only [i64_w, i32_w]; rw [c4b0]) | skip)
   have H' := Aside0.mk H
   clear H
   go_wp2
   go_meet
   case rel => exact ⟨_, (true), cs_, H', ⟨cm_⟩, ⟨cB0_⟩⟩
  ·rw [if_neg c4] at H
   have c4b0 : (a0 == 0) = false := beq_eq_false_iff_ne.mpr c4
   have c4b1 : (a0 != 0) = true := bne_iff_ne.mpr c4
   (first | rw [c4b0] | (simp only [i64_w, i32_w]; rw [c4b0]) | skip)
   have H' := Aside0.mk H
   clear H
   go_wp2
   go_meet
   case rel => exact ⟨_, ((a1 == 0)), cs_, H', ⟨cm_⟩, ⟨cB0_⟩⟩
 case rest =>
  clear HC3
  try clear p2
  try clear c4
  try clear c4b0
  try clear c4b1
  obtain ⟨kq, x11_2, rfl, HA, HJ2, HB⟩ := hcut
  cases kq with
  | zero => exact absurd HA.out (by simp [impl_mulWeight.j0])
  | succ kj2 =>
   have H := HA.out
   clear HA
   simp only [impl_mulWeight.j0] at H
   by_cases c5 : x11_2 = true
   ·subst c5
    rw [if_pos rfl] at H
    simp only [Option.some.injEq, Prod.mk.injEq] at H
    obtain ⟨rfl, rfl⟩ := H
    go_wp2
    go_ret2
    exact ⟨ce_, cB0_⟩
   ·replace c5 := Bool.eq_false_iff.mpr c5
    subst c5
    rw [if_neg (show ¬ (false = true) by decide)] at H
    obtain ⟨ji6, hji6⟩ : ∃ j_ : Int, (mx a0 (wrap64 (-a0))) = j_ := ⟨_, rfl⟩
    replace H : (if (mx a1 (wrap64 (-a1))) = 0 then (none) else (if (ji6) > (wrap64 (Int.tdiv (1000000000000 : Int) (mx a1 (wrap64 (-a1))))) then (some (0, false)) else (some (wrap64 (a0 * a1), true)))) = some (r1, r2) := by first | (rw [hji6] at H; exact H) | (simp only [hji6] at H ⊢; exact H)
    have hji6_ : (if a0 < (wrap64 (-a0)) then (wrap64 (-a0)) else a0) = ji6 := hji6
    obtain ⟨ji7, hji7⟩ : ∃ j_ : Int, (mx a1 (wrap64 (-a1))) = j_ := ⟨_, rfl⟩
    replace H : (if (ji7) = 0 then (none) else (if (ji6) > (wrap64 (Int.tdiv (1000000000000 : Int) (ji7))) then (some (0, false)) else (some (wrap64 (a0 * a1), true)))) = some (r1, r2) := by first | (rw [hji7] at H; exact H) | (simp only [hji7] at H ⊢; exact H)
    have hji7_ : (if a1 < (wrap64 (-a1)) then (wrap64 (-a1)) else a1) = ji7 := hji7
    by_cases c8 : (ji7) = 0
    ·rw [if_pos c8] at H
     exact absurd H (by simp)
    ·rw [if_neg c8] at H
     have c8b0 : ((ji7) == 0) = false := beq_eq_false_iff_ne.mpr c8
     have c8b1 : ((ji7) != 0) = true := bne_iff_ne.mpr c8
     by_cases c9 : (ji6) > (wrap64 (Int.tdiv (1000000000000 : Int) (ji7)))
     ·rw [if_pos c9] at H
      have c9b0 : decide ((wrap64 (Int.tdiv (1000000000000 : Int) (ji7))) < (ji6)) = true := decide_eq_true c9
      clear c9
      simp only [Option.some.injEq, Prod.mk.injEq] at H
      obtain ⟨rfl, rfl⟩ := H
      go_wp2
      go_ret2
      exact ⟨by first | rfl | (simp [errW_none, errW_some] <;> rfl) | (simp only [← hji6, ← hji7]; first | rfl | (simp [errW_none, errW_some] <;> rfl)) | (simp [*, errW_none, errW_some] <;> rfl), cB0_⟩
     ·rw [if_neg c9] at H
      have c9b0 : decide ((wrap64 (Int.tdiv (1000000000000 : Int) (ji7))) < (ji6)) = false := decide_eq_false c9
      clear c9
      simp only [Option.some.injEq, Prod.mk.injEq] at H
      obtain ⟨rfl, rfl⟩ := H
      go_wp2
      go_ret2
      exact ⟨by first | rfl | (simp [errW_none, errW_some] <;> rfl) | (simp only [← hji6, ← hji7]; first | rfl | (simp [errW_none, errW_some] <;> rfl)) | (simp [*, errW_none, errW_some] <;> rfl), cB0_⟩

/-! ### impl_scaled: function 82 -/
def impl_scaled.l0 : Nat → Int → List (S42) → List (S42) → Int → Int → Option ((List (S42)) × Bool)
 | 0, _, _, _, _, _ => none
 | k + 1, x1, x6, x12, x13, x14 => if x14 < x13 then (if 0 ≤ x14 then (if x14 < (x12.length : Int) then ((impl_mulWeight.f k ((rd_T42 x12 x14).f1) x1).bind fun bt343 => (if bt343.2 = true then (if bt343.1 = 0 then (impl_scaled.l0 k x1 x6 x12 x13 (wrap64 (x14 + 1))) else ((slices_Clone_int64_int64.f ((rd_T42 x12 x14).f0)).bind fun t345 => (if x6.length < 4398046511104 then (impl_scaled.l0 k x1 (x6 ++ [(⟨t345, bt343.1⟩ : S42)]) x12 x13 (wrap64 (x14 + 1))) else (none)))) else (some (([] : List (S42)), false)))) else (none)) else (none)) else (some (x6, true))
def impl_scaled.f (k : Nat) (l0 : List (S42)) (a1 : Int) : Option ((List (S42)) × Bool) := impl_scaled.l0 k a1 (([] : List (S42))) l0 (l0.length : Int) 0
theorem impl_scaled.mono_l : ∀ k, (∀ y0 y1 y2 y3 y4, LeO (impl_scaled.l0 k y0 y1 y2 y3 y4) (impl_scaled.l0 (k + 1) y0 y1 y2 y3 y4))
 | 0 => fun _ _ _ _ _ r h => by simp [impl_scaled.l0] at h
 | k + 1 => by
  have ih0 := impl_scaled.mono_l k
  ·intro y0 y1 y2 y3 y4
   unfold impl_scaled.l0
   repeat' first
   | (with_reducible exact ih0 _ _ _ _ _)
   | (with_reducible exact impl_mulWeight.mono _ _ _)
   | (with_reducible exact LeO.refl _)
   | (with_reducible exact LeO.none _)
   | (with_reducible refine LeO.ite ?_ ?_)
   | (with_reducible refine LeO.bind ?_ (fun _ => ?_))
   | exact ih0 _ _ _ _ _
   | exact impl_mulWeight.mono _ _ _
   | exact LeO.none _
   | refine LeO.ite ?_ ?_
   | refine LeO.bind ?_ (fun _ => ?_)
theorem impl_scaled.mono : ∀ a0 a1 k, LeO (impl_scaled.f k a0 a1) (impl_scaled.f (k + 1) a0 a1) := by
 intro a0 a1 k
 have ih0 := impl_scaled.mono_l k
 unfold impl_scaled.f
 repeat' first
   | (with_reducible exact ih0 _ _ _ _ _)
   | (with_reducible exact impl_mulWeight.mono _ _ _)
   | (with_reducible exact LeO.refl _)
   | (with_reducible exact LeO.none _)
   | (with_reducible refine LeO.ite ?_ ?_)
   | (with_reducible refine LeO.bind ?_ (fun _ => ?_))
   | exact ih0 _ _ _ _ _
   | exact impl_mulWeight.mono _ _ _
   | exact LeO.none _
   | refine LeO.ite ?_ ?_
   | refine LeO.bind ?_ (fun _ => ?_)
set_option maxHeartbeats 8000000 in
set_option maxRecDepth 100000 in
theorem impl_scaled.calls (k : Nat) (A0 : Option Addr) (c0 : Nat) (l0 : List (S42)) (a1 : Int) (r1 : List (S42)) (r2 : Bool) (w : World) (hr0 : Kd.C k42 w A0 l0.length l0) (hc0 : l0.length ≤ c0) (h : impl_scaled.f k l0 a1 = some (r1, r2)) :
  Calls Try.prog 82 #[.slice A0 l0.length c0, .int .i64 a1] w fun e w' => ∃ v0_ : Value, e = .returned (.tuple #[v0_, .bool r2]) ∧ Kd.S k42 42 w' w.heap.size (fun _ => True) v0_ r1 ∧ Below w.heap.size w w' := by
 have hu42 := Try.underlying42
 have HR0 := Aside0.mk hr0
 have HC0 := Aside0.mk hc0
 clear hr0 hc0
 have HB := Aside0.mk (Below.refl w.heap.size w)
 have H : (impl_scaled.l0 k a1 (([] : List (S42))) l0 (l0.length : Int) 0) = some (r1, r2) := h
 clear h
 obtain ⟨y338, hy_⟩ : ∃ y_ : List (S42), y_ = (([] : List (S42))) := ⟨_, rfl⟩
 replace H : (impl_scaled.l0 k a1 y338 l0 (l0.length : Int) 0) = some (r1, r2) := yb_
 have Ny338 := Aside0.mk hy_
 clear hy_
 have H' := Aside0.mk H
 clear H
 go_enter Try.func82, Try.ntmps82
 go_wp2_with (first | ((with_reducible refine gate_dst (N := 11) rfl ?_); refine Kd.S_lit k42 _ 42 ?hg (N := 11) ?hd (xs := ([] : List (S42))) (inner := []) (ok := fun _ => True) (okp := fun _ => True) ?hr ?hp (fun _ hk => hk) trivial (Below.refl _ _) (Nat.le_refl _) (by simp) ?_; (case hd => rfl); (case hg => rfl); (case hr => first | (go_simp; done) | (go_simp; rfl)); (case hp => exact (Reps.none _ _)); intro v339 w3 ho4 hb hg_ hnew_; clear hg_ hnew_; (first | rw [← Ny338.out] at ho4 | (simp only [Int.reduceToNat] at ho4; rw [← Ny338.out] at ho4)); have HO340 := Aside0.mk (Kd.S_lower ho4 (below_size cB0_)); replace HB := Aside0.mk (below_step cB0_ hb); clear hb ho4))
 go_loopg [6, 14] k (fun kq v6 v14 w' => ∃ (x6_1 : List (S42)) (x14_1 : Int), v14 = .int .i64 x14_1 ∧ Aside0 (impl_scaled.l0 kq a1 x6_1 l0 (l0.length : Int) x14_1 = some (r1, r2)) ∧ Aside0 (kq ≤ k) ∧ Aside0 (Kd.S k42 42 w' w.heap.size (fun _ => True) v6 x6_1) ∧ Aside0 (Below w.heap.size w w'))
 case atStart => exact ⟨(y338), (0), cs_, H', ⟨Nat.le_refl _⟩, ⟨cS_ HO340.out⟩, ⟨cB0_⟩⟩
 case round =>
  clear H'
  try clear p2
  obtain ⟨x6_1, x14_1, rfl, HA, HK1, HO_6, HB⟩ := hrel
  cases gk with
  | zero => exact absurd HA.out (by simp [impl_scaled.l0])
  | succ k1 =>
   have H := HA.out
   clear HA
   simp only [impl_scaled.l0] at H
   by_cases c5 : x14_1 < (l0.length : Int)
   ·rw [if_pos c5] at H
    have c5b0 : decide (x14_1 < (l0.length : Int)) = true := decide_eq_true c5
    clear c5
    by_cases c6 : 0 ≤ x14_1
    ·rw [if_pos c6] at H
     have c6b0 : decide (0 ≤ x14_1) = true := decide_eq_true c6
     clear c6
     by_cases c7 : x14_1 < (l0.length : Int)
     ·rw [if_pos c7] at H
      have c7b0 : decide (x14_1 < (l0.length : Int)) = true := decide_eq_true c7
      clear c7
      obtain ⟨⟨t343, t344⟩, A8, H⟩ := bnd_ H
      try dsimp only at H
      by_cases c9 : t344 = true
      ·subst c9
       rw [if_pos rfl] at H
       by_cases c10 : t343 = 0
       ·rw [if_pos c10] at H
        have c10b0 : (t343 == 0) = true := beq_iff_eq.mpr c10
        have c10b1 : (t343 != 0) = false := bne_eq_false_iff_eq.mpr c10
        clear c10
        have H' := Aside0.mk H
        clear H
        have p341 : 0 ≤ (x14_1 : Int) := of_decide_eq_true ca_
        have q341 : x14_1 < (l0.length : Int) := of_decide_eq_true ca_
        obtain ⟨ad341, A341_0, c341_0, e341, hx341_0, hx341_1, hl341_0, hi341_0⟩ := at_T42 HR0.out x14_1 p341 q341
        cases e341
        replace hx341_0 := (HB.out.cell (World.block_lt_of_cell? w _ hx341_0)).trans hx341_0
        replace hx341_1 := (HB.out.cell (World.block_lt_of_cell? w _ hx341_1)).trans hx341_1
        have HR341_0 := Aside0.mk hi341_0
        have HC341_0 := Aside0.mk hl341_0
        clear hi341_0 hl341_0
        replace p341 := eq_true p341
        replace q341 := eq_true q341
        go_wp2_with (first | (refine bx_ 8 #[.slice none 0 0, .int .i64 0] 42 ?_; intro gb342 hg w11 hbox hb; replace HO_6 := Aside0.mk (Kd.S_below (Kd.S_elderB (cS_ HO_6.out) gb342 (Nat.le_of_eq hg.symm)) hb); have BK342 := Aside0.mk (hbox); have GW342 := Aside0.mk ((by rw [hg]; exact (below_size cB0_) : w.heap.size ≤ gb342)); have GE342 := Aside0.mk ((by rw [hg]; exact (below_size cB0_) : w.heap.size ≤ gb342)); replace HB := Aside0.mk (below_step cB0_ hb); clear hb hbox hg; obtain ⟨hcz12_0, hcz12_1, hfz12_0, hfz12_1⟩ := cells2 BK342.out) | (refine gl_ 87 (some 22) Try.func87 #[.int .i64 ((rd_T42 l0 x14_1).f1), .int .i64 a1] ?_; (with_reducible refine (impl_mulWeight.calls k1 ((rd_T42 l0 x14_1).f1) a1 t343 true _ A8.out).mono ?_); rintro e w13 ⟨rfl, hb⟩; refine ⟨_, rfl, ?_⟩; replace HO_6 := Aside0.mk (Kd.S_below b11_4 hb); replace BK342 := Aside0.mk (blk_below (g := gb342) (o := .cells #[.slice A341_0 ((rd_T42 l0 x14_1).f0).length c341_0, .int .i64 ((rd_T42 l0 x14_1).f1)] 42 (0, 0)) b11_3 hb); replace HB := Aside0.mk (below_step b11_2 hb); (try clear hb); (try clear hb2); (try clear hk); (try clear hi)))
        go_roundg k1
        case measure => have := HK1.out; omega
        case rel => exact ⟨(x6_1), (wrap64 (x14_1 + 1)), cs_, H', ⟨co_ HK1.out⟩, ⟨by refine cS_ ?_; exact Kd.S_mono HO_6.out (fun _ hk => trivial)⟩, ⟨cB1_ GE342.out⟩⟩
       ·rw [if_neg c10] at H
        have c10b0 : (t343 == 0) = false := beq_eq_false_iff_ne.mpr c10
        have c10b1 : (t343 != 0) = true := bne_iff_ne.mpr c10
        obtain ⟨t345, A14, H⟩ := bnd_ H
        try dsimp only at H
        by_cases c15 : x6_1.length < 4398046511104
        ·rw [if_pos c15] at H
         have LMc15 := Aside0.mk c15
         clear c15
         obtain ⟨y348, hy_⟩ : ∃ y_ : List (S42), y_ = (x6_1 ++ [(⟨t345, t343⟩ : S42)]) := ⟨_, rfl⟩
         replace H : (impl_scaled.l0 k1 a1 y348 l0 (l0.length : Int) (wrap64 (x14_1 + 1))) = some (r1, r2) := yb_
         have Ny348 := Aside0.mk hy_
         clear hy_
         have H' := Aside0.mk H
         clear H
         have p341 : 0 ≤ (x14_1 : Int) := of_decide_eq_true ca_
         have q341 : x14_1 < (l0.length : Int) := of_decide_eq_true ca_
         obtain ⟨ad341, A341_0, c341_0, e341, hx341_0, hx341_1, hl341_0, hi341_0⟩ := at_T42 HR0.out x14_1 p341 q341
         cases e341
         replace hx341_0 := (HB.out.cell (World.block_lt_of_cell? w _ hx341_0)).trans hx341_0
         replace hx341_1 := (HB.out.cell (World.block_lt_of_cell? w _ hx341_1)).trans hx341_1
         have HR341_0 := Aside0.mk hi341_0
         have HC341_0 := Aside0.mk hl341_0
         clear hi341_0 hl341_0
         replace p341 := eq_true p341
         replace q341 := eq_true q341
         go_wp2_with (first | (refine bx_ 8 #[.slice none 0 0, .int .i64 0] 42 ?_; intro gb342 hg w16 hbox hb; replace HO_6 := Aside0.mk (Kd.S_below (Kd.S_elderB (cS_ HO_6.out) gb342 (Nat.le_of_eq hg.symm)) hb); have BK342 := Aside0.mk (hbox); have GW342 := Aside0.mk ((by rw [hg]; exact (below_size cB0_) : w.heap.size ≤ gb342)); have GE342 := Aside0.mk ((by rw [hg]; exact (below_size cB0_) : w.heap.size ≤ gb342)); replace HB := Aside0.mk (below_step cB0_ hb); clear hb hbox hg; obtain ⟨hcz17_0, hcz17_1, hfz17_0, hfz17_1⟩ := cells2 BK342.out) | (refine gl_ 87 (some 22) Try.func87 #[.int .i64 ((rd_T42 l0 x14_1).f1), .int .i64 a1] ?_; (with_reducible refine (impl_mulWeight.calls k1 ((rd_T42 l0 x14_1).f1) a1 t343 true _ A8.out).mono ?_); rintro e w18 ⟨rfl, hb⟩; refine ⟨_, rfl, ?_⟩; replace HO_6 := Aside0.mk (Kd.S_below b11_4 hb); replace BK342 := Aside0.mk (blk_below (g := gb342) (o := .cells #[.slice A341_0 ((rd_T42 l0 x14_1).f0).length c341_0, .int .i64 ((rd_T42 l0 x14_1).f1)] 42 (0, 0)) b11_3 hb); replace HB := Aside0.mk (below_step b11_2 hb); (try clear hb); (try clear hb2); (try clear hk); (try clear hi); obtain ⟨hcz19_0, hcz19_1, hfz19_0, hfz19_1⟩ := cells2 BK342.out) | (refine gl_ 63 (some 32) Try.func63 #[.slice A341_0 ((rd_T42 l0 x14_1).f0).length c341_0] ?_; (with_reducible refine (slices_Clone_int64_int64.calls _ _ ((rd_T42 l0 x14_1).f0) t345 _ ?side1 ?side2 A14.out).mono ?_); (case side1 => exact cC_ (Kd.C_below HR341_0.out HB.out)); (case side2 => exact HC341_0.out); rintro e w20 ⟨v346, rfl, ho0, hb⟩; refine ⟨_, rfl, ?_⟩; replace HO_6 := Aside0.mk (Kd.S_elder' (cS_ HO_6.out) (Kd.R_base ho0) hb); have HO347 := Aside0.mk (Kd.R_lower ho0 (below_size b11_2)); replace BK342 := Aside0.mk (blk_below (g := gb342) (o := .cells #[.slice A341_0 ((rd_T42 l0 x14_1).f0).length c341_0, .int .i64 ((rd_T42 l0 x14_1).f1)] 42 (0, 0)) (cO_ BK342.out) hb); replace HB := Aside0.mk (below_step b11_2 hb); (try clear hb); (try clear hb2); (try clear hk); (try clear hi); (try clear ho0); obtain ⟨Ao21, co21, eo21⟩ := Kd.R_slice HO347.out; subst eo21) | ((with_reducible refine gate_builtin (b := .append) (xs := #[.tmp 29, .tmp 35]) rfl ?_); at_builtin; refine Kd.S_append k42 (w0 := w) w.heap.size rfl (.tmp 29) (.tmp 35) 24 42 (.agg #[(.slice none 0 0), (.int .i64 0)]) 32 rfl Try.underlying24 info42 rfl (by decide) (by omega) u6 x6_1 (⟨t345, t343⟩ : S42) [.slice Ao21 t345.length co21, .int .i64 t343] (fun k_ => k_ ≠ gb342) (fun k_ => some k_ = (.slice Ao21 t345.length co21 : Value).ownBlock) rfl rfl ?aP (fun k_ hk_ => ((Kd.R_mono (ok' := fun k_ => ((fun k_ => k_ ≠ gb342)) k_ ∧ some k_ ≠ (u6 : Value).ownBlock) (Kd.R_types (Kd.R_apart' (HO347.out) (Kd.S_typed HO_6.out) (by decide)) BK342.out (by decide)) (fun k_ hk => ⟨hk.2, hk.1.2⟩))).1 k_ hk_.symm) ?aF ?aO ?aB ?aS ?aL ?_; (case aP => exact (by exact k42_mkM _ _ _ (⟨t345, t343⟩ : S42) (Kd.R_mono (Kd.R_tight rfl (Kd.R_mono (ok' := fun k_ => ((fun k_ => k_ ≠ gb342)) k_ ∧ some k_ ≠ (u6 : Value).ownBlock) (Kd.R_types (Kd.R_apart' (HO347.out) (Kd.S_typed HO_6.out) (by decide)) BK342.out (by decide)) (fun k_ hk => ⟨hk.2, hk.1.2⟩))) (fun _ h_ => h_)))); (case aB => exact b11_2); (case aF => exact (by exact (fun k_ hk => Kd.freshB (g := gb342) (o := .cells #[.slice A341_0 ((rd_T42 l0 x14_1).f0).length c341_0, .int .i64 ((rd_T42 l0 x14_1).f1)] 42 (0, 0)) (cO_ BK342.out) k_ hk))); (case aO => exact (by exact (by refine cS_ ?_; exact Kd.S_mono HO_6.out (fun k_ hk => ⟨hk.1.2, fun e_ => hk.2 e_⟩)))); (case aS => exact (by exact (below_size b11_2))); (case aL => exact co_ LMc15.out); intro v349 w22 ho hb hg hat; rw [← Ny348.out] at ho; replace BK342 := Aside0.mk (blk_grown (g := gb342) (o := .cells #[.slice A341_0 ((rd_T42 l0 x14_1).f0).length c341_0, .int .i64 ((rd_T42 l0 x14_1).f1)] 42 (0, 0)) (cO_ BK342.out) hg (Kd.S_away HO_6.out (fun _ hk => hk.1.2))); replace HB := Aside0.mk (hb); have HO350 := Aside0.mk (ho); clear HO_6; clear HO347; clear ho hb hg hat))
         go_roundg k1
         case measure => have := HK1.out; omega
         case rel => exact ⟨(y348), (wrap64 (x14_1 + 1)), cs_, H', ⟨co_ HK1.out⟩, ⟨by refine cS_ ?_; exact Kd.S_mono HO350.out (fun _ hk => trivial)⟩, ⟨cB1_ GE342.out⟩⟩
        ·rw [if_neg c15] at H
         exact absurd H (by simp)
      ·replace c9 := Bool.eq_false_iff.mpr c9
       subst c9
       rw [if_neg (show ¬ (false = true) by decide)] at H
       simp only [Option.some.injEq, Prod.mk.injEq] at H
       obtain ⟨rfl, rfl⟩ := H
       have p341 : 0 ≤ (x14_1 : Int) := of_decide_eq_true ca_
       have q341 : x14_1 < (l0.length : Int) := of_decide_eq_true ca_
       obtain ⟨ad341, A341_0, c341_0, e341, hx341_0, hx341_1, hl341_0, hi341_0⟩ := at_T42 HR0.out x14_1 p341 q341
       cases e341
       replace hx341_0 := (HB.out.cell (World.block_lt_of_cell? w _ hx341_0)).trans hx341_0
       replace hx341_1 := (HB.out.cell (World.block_lt_of_cell? w _ hx341_1)).trans hx341_1
       have HR341_0 := Aside0.mk hi341_0
       have HC341_0 := Aside0.mk hl341_0
       clear hi341_0 hl341_0
       replace p341 := eq_true p341
       replace q341 := eq_true q341
       go_wp2_with (first | (refine bx_ 8 #[.slice none 0 0, .int .i64 0] 42 ?_; intro gb342 hg w23 hbox hb; replace HO_6 := Aside0.mk (Kd.S_below (Kd.S_elderB (cS_ HO_6.out) gb342 (Nat.le_of_eq hg.symm)) hb); have BK342 := Aside0.mk (hbox); have GW342 := Aside0.mk ((by rw [hg]; exact (below_size cB0_) : w.heap.size ≤ gb342)); have GE342 := Aside0.mk ((by rw [hg]; exact (below_size cB0_) : w.heap.size ≤ gb342)); replace HB := Aside0.mk (below_step cB0_ hb); clear hb hbox hg; obtain ⟨hcz24_0, hcz24_1, hfz24_0, hfz24_1⟩ := cells2 BK342.out) | (refine gl_ 87 (some 22) Try.func87 #[.int .i64 ((rd_T42 l0 x14_1).f1), .int .i64 a1] ?_; (with_reducible refine (impl_mulWeight.calls k1 ((rd_T42 l0 x14_1).f1) a1 t343 false _ A8.out).mono ?_); rintro e w25 ⟨rfl, hb⟩; refine ⟨_, rfl, ?_⟩; replace HO_6 := Aside0.mk (Kd.S_below b11_4 hb); replace BK342 := Aside0.mk (blk_below (g := gb342) (o := .cells #[.slice A341_0 ((rd_T42 l0 x14_1).f0).length c341_0, .int .i64 ((rd_T42 l0 x14_1).f1)] 42 (0, 0)) b11_3 hb); replace HB := Aside0.mk (below_step b11_2 hb); (try clear hb); (try clear hb2); (try clear hk); (try clear hi)))
       go_ret2
       exact ⟨_, ce_, by first | exact Kd.S_nil _ _ _ _ _ | exact Kd.N_nil _ _ _ _ _ | exact Kd.V_nil _ _ _ _ _ | exact Kd.Q_nil _ _ _ _ _ | exact Kd.R_nil _ _ _ _ _, cB1_ GE342.out⟩
     ·rw [if_neg c7] at H
      exact absurd H (by simp)
    ·rw [if_neg c6] at H
     exact absurd H (by simp)
   ·rw [if_neg c5] at H
    have c5b0 : decide (x14_1 < (l0.length : Int)) = false := decide_eq_false c5
    clear c5
    simp only [Option.some.injEq, Prod.mk.injEq] at H
    obtain ⟨rfl, rfl⟩ := H
    go_wp2
    go_ret2
    exact ⟨_, ce_, cS_ HO_6.out, cB0_⟩

/-! ### impl_NegateSet: function 36 -/
def impl_NegateSet.f (k : Nat) (l0 : List (S42)) : Option (Int × (List (S42))) := (impl_SetFault.f k l0).bind fun t352 => (if t352 = 0 then ((impl_scaled.f k l0 (-1)).bind fun bt353 => (some (0, bt353.1))) else (some (t352, ([] : List (S42)))))
theorem impl_NegateSet.mono : ∀ a0 k, LeO (impl_NegateSet.f k a0) (impl_NegateSet.f (k + 1) a0) := by
 intro a0 k
 unfold impl_NegateSet.f
 repeat' first
   | (with_reducible exact impl_SetFault.mono _ _)
   | (with_reducible exact impl_scaled.mono _ _ _)
   | (with_reducible exact LeO.refl _)
   | (with_reducible exact LeO.none _)
   | (with_reducible refine LeO.ite ?_ ?_)
   | (with_reducible refine LeO.bind ?_ (fun _ => ?_))
   | exact impl_SetFault.mono _ _
   | exact impl_scaled.mono _ _ _
   | exact LeO.none _
   | refine LeO.ite ?_ ?_
   | refine LeO.bind ?_ (fun _ => ?_)
set_option maxHeartbeats 8000000 in
set_option maxRecDepth 100000 in
theorem impl_NegateSet.calls (k : Nat) (A0 : Option Addr) (c0 : Nat) (l0 : List (S42)) (r1 : Int) (r2 : List (S42)) (w : World) (hr0 : Kd.C k42 w A0 l0.length l0) (hc0 : l0.length ≤ c0) (h : impl_NegateSet.f k l0 = some (r1, r2)) :
  Calls Try.prog 36 #[.slice A0 l0.length c0] w fun e w' => ∃ v1_ : Value, e = .returned (.agg #[.int .i64 r1, v1_]) ∧ Kd.S k42 42 w' w.heap.size (fun _ => True) v1_ r2 ∧ Below w.heap.size w w' := by
 have hu26 := Try.underlying26
 have HR0 := Aside0.mk hr0
 have HC0 := Aside0.mk hc0
 clear hr0 hc0
 have HB := Aside0.mk (Below.refl w.heap.size w)
 have H : ((impl_SetFault.f k l0).bind fun t352 => (if t352 = 0 then ((impl_scaled.f k l0 (-1)).bind fun bt353 => (some (0, bt353.1))) else (some (t352, ([] : List (S42)))))) = some (r1, r2) := h
 clear h
 obtain ⟨t352, A2, H⟩ := bnd_ H
 try dsimp only at H
 by_cases c3 : t352 = 0
 ·rw [if_pos c3] at H
  have c3b0 : (t352 == 0) = true := beq_iff_eq.mpr c3
  have c3b1 : (t352 != 0) = false := bne_eq_false_iff_eq.mpr c3
  clear c3
  obtain ⟨⟨t353, t354⟩, A4, H⟩ := bnd_ H
  try dsimp only at H
  simp only [Option.some.injEq, Prod.mk.injEq] at H
  obtain ⟨rfl, rfl⟩ := H
  go_enter Try.func36, Try.ntmps36
  go_wp2_with (first | (refine bx_ 2 #[.int .i64 0, .slice none 0 0] 26 ?_; intro gb351 hg w5 hbox hb; have BK351 := Aside0.mk (hbox); have GW351 := Aside0.mk ((by rw [hg]; exact (below_size cB0_) : w.heap.size ≤ gb351)); have GE351 := Aside0.mk ((by rw [hg]; exact (below_size cB0_) : w.heap.size ≤ gb351)); replace HB := Aside0.mk (below_step cB0_ hb); clear hb hbox hg) | (refine gl_ 26 (some 7) Try.func26 #[.slice A0 l0.length c0] ?_; (with_reducible refine (impl_SetFault.calls k _ _ l0 t352 _ ?side1 ?side2 A2.out).mono ?_); (case side1 => exact b11_5); (case side2 => exact HC0.out); rintro e w6 ⟨rfl, hb⟩; refine ⟨_, rfl, ?_⟩; replace BK351 := Aside0.mk (blk_below (g := gb351) (o := .cells #[.int .i64 0, .slice none 0 0] 26 (0, 0)) (cO_ BK351.out) hb); replace HB := Aside0.mk (below_step (cB1_ GE351.out) hb); (try clear hb); (try clear hb2); (try clear hk); (try clear hi)) | (refine gl_ 82 (some 14) Try.func82 #[.slice A0 l0.length c0, .int .i64 (-1)] ?_; (with_reducible refine (impl_scaled.calls k _ _ l0 (-1) t353 t354 _ ?side1 ?side2 A4.out).mono ?_); (case side1 => exact b11_5); (case side2 => exact HC0.out); rintro e w7 ⟨v355, rfl, ho0, hb⟩; refine ⟨_, rfl, ?_⟩; have HO356 := Aside0.mk (Kd.S_lower ho0 (below_size (cB1_ GE351.out))); replace BK351 := Aside0.mk (blk_below (g := gb351) (o := .cells #[.int .i64 0, .slice none 0 0] 26 (0, 0)) (cO_ BK351.out) hb); replace HB := Aside0.mk (below_step (cB1_ GE351.out) hb); (try clear hb); (try clear hb2); (try clear hk); (try clear hi); (try clear ho0); obtain ⟨Ao8, co8, eo8⟩ := Kd.S_slice HO356.out; subst eo8; obtain ⟨hcz9_0, hcz9_1, hfz9_0, hfz9_1⟩ := cells2 BK351.out))
  refine bodyPost_ret (results_cell_row rfl _ _ gb351 26 #[.int .i64 0, .slice Ao8 t353.length co8] (0, 0) _ rfl (by refine cO_ ?_; refine blk_put (cs := #[.int .i64 0, .slice none 0 0]) ?_ 1 _ rfl; refine cO_ ?_; refine blk_put (cs := #[.int .i64 0, .slice none 0 0]) ?_ 0 _ rfl; refine cO_ ?_; exact BK351.out) Try.underlying26 rfl (by kernel_rfl)) rfl ?_
  exact ⟨_, ce_, by refine cS_ ?_; exact Kd.S_mono (Kd.S_far (p := ⟨gb351, 1, none⟩) (Kd.S_far (p := ⟨gb351, 0, none⟩) (Kd.S_types HO356.out BK351.out (by decide)) (fun _ hk => hk.2) (.int .i64 0)) (fun _ hk => hk.2) (.slice Ao8 t353.length co8)) (fun _ hk => trivial), cB1_ GE351.out⟩
 ·rw [if_neg c3] at H
  have c3b0 : (t352 == 0) = false := beq_eq_false_iff_ne.mpr c3
  have c3b1 : (t352 != 0) = true := bne_iff_ne.mpr c3
  simp only [Option.some.injEq, Prod.mk.injEq] at H
  obtain ⟨rfl, rfl⟩ := H
  go_enter Try.func36, Try.ntmps36
  go_wp2_with (first | (refine bx_ 2 #[.int .i64 0, .slice none 0 0] 26 ?_; intro gb351 hg w10 hbox hb; have BK351 := Aside0.mk (hbox); have GW351 := Aside0.mk ((by rw [hg]; exact (below_size cB0_) : w.heap.size ≤ gb351)); have GE351 := Aside0.mk ((by rw [hg]; exact (below_size cB0_) : w.heap.size ≤ gb351)); replace HB := Aside0.mk (below_step cB0_ hb); clear hb hbox hg) | (refine gl_ 26 (some 7) Try.func26 #[.slice A0 l0.length c0] ?_; (with_reducible refine (impl_SetFault.calls k _ _ l0 t352 _ ?side1 ?side2 A2.out).mono ?_); (case side1 => exact b11_5); (case side2 => exact HC0.out); rintro e w11 ⟨rfl, hb⟩; refine ⟨_, rfl, ?_⟩; replace BK351 := Aside0.mk (blk_below (g := gb351) (o := .cells #[.int .i64 0, .slice none 0 0] 26 (0, 0)) (cO_ BK351.out) hb); replace HB := Aside0.mk (below_step (cB1_ GE351.out) hb); (try clear hb); (try clear hb2); (try clear hk); (try clear hi); obtain ⟨hcz12_0, hcz12_1, hfz12_0, hfz12_1⟩ := cells2 BK351.out))
  refine bodyPost_ret (results_cell_row rfl _ _ gb351 26 #[.int .i64 t352, .slice none 0 0] (0, 0) _ rfl (by refine cO_ ?_; refine blk_put (cs := #[.int .i64 t352, .slice none 0 0]) ?_ 1 _ rfl; refine cO_ ?_; refine blk_put (cs := #[.int .i64 0, .slice none 0 0]) ?_ 0 _ rfl; refine cO_ ?_; exact BK351.out) Try.underlying26 rfl (by kernel_rfl)) rfl ?_
  exact ⟨_, ce_, by first | exact Kd.S_nil _ _ _ _ _ | exact Kd.N_nil _ _ _ _ _ | exact Kd.V_nil _ _ _ _ _ | exact Kd.Q_nil _ _ _ _ _ | exact Kd.R_nil _ _ _ _ _, cB1_ GE351.out⟩

/-! ### impl_TotalWeight: function 37 -/
def impl_TotalWeight.l0 : Nat → Int → List (S42) → Int → Int → Option (Int × Int)
 | 0, _, _, _, _ => none
 | k + 1, x4, x13, x14, x15 => if x15 < x14 then (if 0 ≤ x15 then (if x15 < (x13.length : Int) then (impl_TotalWeight.l0 k (wrap64 (x4 + ((rd_T42 x13 x15).f1))) x13 x14 (wrap64 (x15 + 1))) else (none)) else (none)) else (some (0, x4))
def impl_TotalWeight.f (k : Nat) (l0 : List (S42)) : Option (Int × Int) := (impl_SetFault.f k l0).bind fun t358 => (if t358 = 0 then (impl_TotalWeight.l0 k 0 l0 (l0.length : Int) 0) else (some (t358, 0)))
theorem impl_TotalWeight.mono_l : ∀ k, (∀ y0 y1 y2 y3, LeO (impl_TotalWeight.l0 k y0 y1 y2 y3) (impl_TotalWeight.l0 (k + 1) y0 y1 y2 y3))
 | 0 => fun _ _ _ _ r h => by simp [impl_TotalWeight.l0] at h
 | k + 1 => by
  have ih0 := impl_TotalWeight.mono_l k
  ·intro y0 y1 y2 y3
   unfold impl_TotalWeight.l0
   repeat' first
   | (with_reducible exact ih0 _ _ _ _)
   | (with_reducible exact impl_SetFault.mono _ _)
   | (with_reducible exact LeO.refl _)
   | (with_reducible exact LeO.none _)
   | (with_reducible refine LeO.ite ?_ ?_)
   | (with_reducible refine LeO.bind ?_ (fun _ => ?_))
   | exact ih0 _ _ _ _
   | exact impl_SetFault.mono _ _
   | exact LeO.none _
   | refine LeO.ite ?_ ?_
   | refine LeO.bind ?_ (fun _ => ?_)
theorem impl_TotalWeight.mono : ∀ a0 k, LeO (impl_TotalWeight.f k a0) (impl_TotalWeight.f (k + 1) a0) := by
 intro a0 k
 have ih0 := impl_TotalWeight.mono_l k
 unfold impl_TotalWeight.f
 repeat' first
   | (with_reducible exact ih0 _ _ _ _)
   | (with_reducible exact impl_SetFault.mono _ _)
   | (with_reducible exact LeO.refl _)
   | (with_reducible exact LeO.none _)
   | (with_reducible refine LeO.ite ?_ ?_)
   | (with_reducible refine LeO.bind ?_ (fun _ => ?_))
   | exact ih0 _ _ _ _
   | exact impl_SetFault.mono _ _
   | exact LeO.none _
   | refine LeO.ite ?_ ?_
   | refine LeO.bind ?_ (fun _ => ?_)
set_option maxHeartbeats 8000000 in
set_option maxRecDepth 100000 in
theorem impl_TotalWeight.calls (k : Nat) (A0 : Option Addr) (c0 : Nat) (l0 : List (S42)) (r1 : Int) (r2 : Int) (w : World) (hr0 : Kd.C k42 w A0 l0.length l0) (hc0 : l0.length ≤ c0) (h : impl_TotalWeight.f k l0 = some (r1, r2)) :
  Calls Try.prog 37 #[.slice A0 l0.length c0] w fun e w' => e = .returned (.agg #[.int .i64 r1, .int .i64 r2]) ∧ Below w.heap.size w w' := by
 have hu55 := Try.underlying55
 have hu42 := Try.underlying42
 have HR0 := Aside0.mk hr0
 have HC0 := Aside0.mk hc0
 clear hr0 hc0
 have HB := Aside0.mk (Below.refl w.heap.size w)
 have H : ((impl_SetFault.f k l0).bind fun t358 => (if t358 = 0 then (impl_TotalWeight.l0 k 0 l0 (l0.length : Int) 0) else (some (t358, 0)))) = some (r1, r2) := h
 clear h
 obtain ⟨t358, A2, H⟩ := bnd_ H
 try dsimp only at H
 by_cases c3 : t358 = 0
 ·rw [if_pos c3] at H
  have c3b0 : (t358 == 0) = true := beq_iff_eq.mpr c3
  have c3b1 : (t358 != 0) = false := bne_eq_false_iff_eq.mpr c3
  clear c3
  have H' := Aside0.mk H
  clear H
  go_enter Try.func37, Try.ntmps37
  go_wp2_with (first | (refine bx_ 2 #[.int .i64 0, .int .i64 0] 55 ?_; intro gb357 hg w4 hbox hb; have BK357 := Aside0.mk (hbox); have GW357 := Aside0.mk ((by rw [hg]; exact (below_size cB0_) : w.heap.size ≤ gb357)); have GE357 := Aside0.mk ((by rw [hg]; exact (below_size cB0_) : w.heap.size ≤ gb357)); replace HB := Aside0.mk (below_step cB0_ hb); clear hb hbox hg) | (refine gl_ 26 (some 8) Try.func26 #[.slice A0 l0.length c0] ?_; (with_reducible refine (impl_SetFault.calls k _ _ l0 t358 _ ?side1 ?side2 A2.out).mono ?_); (case side1 => exact b11_5); (case side2 => exact HC0.out); rintro e w5 ⟨rfl, hb⟩; refine ⟨_, rfl, ?_⟩; replace BK357 := Aside0.mk (blk_below (g := gb357) (o := .cells #[.int .i64 0, .int .i64 0] 55 (0, 0)) (cO_ BK357.out) hb); replace HB := Aside0.mk (below_step (cB1_ GE357.out) hb); (try clear hb); (try clear hb2); (try clear hk); (try clear hi)))
  go_loopg [4, 15] k (fun kq v4 v15 w' => ∃ (x4_1 : Int) (x15_1 : Int), v4 = .int .i64 x4_1 ∧ v15 = .int .i64 x15_1 ∧ Aside0 (impl_TotalWeight.l0 kq x4_1 l0 (l0.length : Int) x15_1 = some (r1, r2)) ∧ Aside0 (kq ≤ k) ∧ Aside0 (w'.heap[gb357]? = some (.cells #[.int .i64 0, .int .i64 0] 55 (0, 0))) ∧ Aside0 (Below w.heap.size w w'))
  case atStart => exact ⟨(0), (0), cs_, cs_, H', ⟨Nat.le_refl _⟩, ⟨cO_ BK357.out⟩, ⟨cB1_ GE357.out⟩⟩
  case round =>
   clear H'
   try clear c2
   try clear p2
   try clear c3
   try clear c3b0
   try clear c3b1
   obtain ⟨x4_1, x15_1, rfl, rfl, HA, HK1, BK357, HB⟩ := hrel
   cases gk with
   | zero => exact absurd HA.out (by simp [impl_TotalWeight.l0])
   | succ k1 =>
    have H := HA.out
    clear HA
    simp only [impl_TotalWeight.l0] at H
    by_cases c6 : x15_1 < (l0.length : Int)
    ·rw [if_pos c6] at H
     have c6b0 : decide (x15_1 < (l0.length : Int)) = true := decide_eq_true c6
     clear c6
     by_cases c7 : 0 ≤ x15_1
     ·rw [if_pos c7] at H
      have c7b0 : decide (0 ≤ x15_1) = true := decide_eq_true c7
      clear c7
      by_cases c8 : x15_1 < (l0.length : Int)
      ·rw [if_pos c8] at H
       have c8b0 : decide (x15_1 < (l0.length : Int)) = true := decide_eq_true c8
       clear c8
       have H' := Aside0.mk H
       clear H
       have p359 : 0 ≤ (x15_1 : Int) := of_decide_eq_true ca_
       have q359 : x15_1 < (l0.length : Int) := of_decide_eq_true ca_
       obtain ⟨ad359, A359_0, c359_0, e359, hx359_0, hx359_1, hl359_0, hi359_0⟩ := at_T42 HR0.out x15_1 p359 q359
       cases e359
       replace hx359_0 := (HB.out.cell (World.block_lt_of_cell? w _ hx359_0)).trans hx359_0
       replace hx359_1 := (HB.out.cell (World.block_lt_of_cell? w _ hx359_1)).trans hx359_1
       have HR359_0 := Aside0.mk hi359_0
       have HC359_0 := Aside0.mk hl359_0
       clear hi359_0 hl359_0
       replace p359 := eq_true p359
       replace q359 := eq_true q359
       go_wp2_with (first | (refine bx_ 6 #[.slice none 0 0, .int .i64 0] 42 ?_; intro gb360 hg w9 hbox hb; have BK360 := Aside0.mk (hbox); have GW360 := Aside0.mk ((by rw [hg]; exact (below_size (cB1_ GE357.out)) : w.heap.size ≤ gb360)); have GE360 := Aside0.mk ((by rw [hg]; exact (below_size (cB1_ GE357.out)) : w.heap.size ≤ gb360)); replace HB := Aside0.mk (below_step (cB1_ GE357.out) hb); have NB357_360 := Aside0.mk ((by rw [hg]; exact Nat.ne_of_lt (blk_lt (g := gb357) (o := .cells #[.int .i64 0, .int .i64 0] 55 (0, 0)) (cO_ BK357.out)) : gb357 ≠ gb360)); have NB360_357 := Aside0.mk ((by rw [hg]; exact Nat.ne_of_gt (blk_lt (g := gb357) (o := .cells #[.int .i64 0, .int .i64 0] 55 (0, 0)) (cO_ BK357.out)) : gb360 ≠ gb357)); replace BK357 := Aside0.mk (blk_below (g := gb357) (o := .cells #[.int .i64 0, .int .i64 0] 55 (0, 0)) (cO_ BK357.out) hb); clear hb hbox hg; have hnb10 := NB360_357.out; have hnc10 := NB357_360.out; obtain ⟨hcz11_0, hcz11_1, hfz11_0, hfz11_1⟩ := cells2 BK360.out))
       go_roundg k1
       case measure => have := HK1.out; omega
       case rel => exact ⟨(wrap64 (x4_1 + ((rd_T42 l0 x15_1).f1))), (wrap64 (x15_1 + 1)), cs_, cs_, H', ⟨co_ HK1.out⟩, ⟨by refine cO_ ?_; refine blk_far ?_ NB357_360.out _; refine cO_ ?_; refine blk_far ?_ NB357_360.out _; refine cO_ ?_; exact BK357.out⟩, ⟨cB2_ GE357.out GE360.out⟩⟩
      ·rw [if_neg c8] at H
       exact absurd H (by simp)
     ·rw [if_neg c7] at H
      exact absurd H (by simp)
    ·rw [if_neg c6] at H
     have c6b0 : decide (x15_1 < (l0.length : Int)) = false := decide_eq_false c6
     clear c6
     simp only [Option.some.injEq, Prod.mk.injEq] at H
     obtain ⟨rfl, rfl⟩ := H
     obtain ⟨hcz12_0, hcz12_1, hfz12_0, hfz12_1⟩ := cells2 BK357.out
     go_wp2
     refine bodyPost_ret (results_cell_row rfl _ _ gb357 55 #[.int .i64 0, .int .i64 x4_1] (0, 0) _ rfl (by refine cO_ ?_; refine blk_put (cs := #[.int .i64 0, .int .i64 0]) ?_ 1 _ rfl; refine cO_ ?_; refine blk_put (cs := #[.int .i64 0, .int .i64 0]) ?_ 0 _ rfl; refine cO_ ?_; exact BK357.out) Try.underlying55 rfl (by kernel_rfl)) rfl ?_
     exact ⟨ce_, cB1_ GE357.out⟩
 ·rw [if_neg c3] at H
  have c3b0 : (t358 == 0) = false := beq_eq_false_iff_ne.mpr c3
  have c3b1 : (t358 != 0) = true := bne_iff_ne.mpr c3
  simp only [Option.some.injEq, Prod.mk.injEq] at H
  obtain ⟨rfl, rfl⟩ := H
  go_enter Try.func37, Try.ntmps37
  go_wp2_with (first | (refine bx_ 2 #[.int .i64 0, .int .i64 0] 55 ?_; intro gb357 hg w13 hbox hb; have BK357 := Aside0.mk (hbox); have GW357 := Aside0.mk ((by rw [hg]; exact (below_size cB0_) : w.heap.size ≤ gb357)); have GE357 := Aside0.mk ((by rw [hg]; exact (below_size cB0_) : w.heap.size ≤ gb357)); replace HB := Aside0.mk (below_step cB0_ hb); clear hb hbox hg) | (refine gl_ 26 (some 8) Try.func26 #[.slice A0 l0.length c0] ?_; (with_reducible refine (impl_SetFault.calls k _ _ l0 t358 _ ?side1 ?side2 A2.out).mono ?_); (case side1 => exact b11_5); (case side2 => exact HC0.out); rintro e w14 ⟨rfl, hb⟩; refine ⟨_, rfl, ?_⟩; replace BK357 := Aside0.mk (blk_below (g := gb357) (o := .cells #[.int .i64 0, .int .i64 0] 55 (0, 0)) (cO_ BK357.out) hb); replace HB := Aside0.mk (below_step (cB1_ GE357.out) hb); (try clear hb); (try clear hb2); (try clear hk); (try clear hi); obtain ⟨hcz15_0, hcz15_1, hfz15_0, hfz15_1⟩ := cells2 BK357.out))
  refine bodyPost_ret (results_cell_row rfl _ _ gb357 55 #[.int .i64 t358, .int .i64 0] (0, 0) _ rfl (by refine cO_ ?_; refine blk_put (cs := #[.int .i64 t358, .int .i64 0]) ?_ 1 _ rfl; refine cO_ ?_; refine blk_put (cs := #[.int .i64 0, .int .i64 0]) ?_ 0 _ rfl; refine cO_ ?_; exact BK357.out) Try.underlying55 rfl (by kernel_rfl)) rfl ?_
  exact ⟨ce_, cB1_ GE357.out⟩

end Go.Proofs.Ythgmicingbjemaa.PFnGroups
