-- Written by fprint, a program of this session, out of Lean's own print of the translation. Lean checks it.
import Derived.Test.YthgmicingbjemaaDoorDense
import Derived.Test.YthgmicingbjemaaDoorPFnSumsx0
import Derived.Test.YthgmicingbjemaaDoorPFnSumsx2
import Derived.Test.YthgmicingbjemaaDoorPFnSumsx3
import Derived.Test.YthgmicingbjemaaDoorPFnSumsx8
namespace Go.Proofs.YthgmicingbjemaaDoor.PFnSums
open Go.RowKit Go.Proofs.YthgmicingbjemaaDoorW.PrintWords Go.Proofs.YthgmicingbjemaaDoorW.PrintLast Go.Proofs.YthgmicingbjemaaDoorW.PrintMore
attribute [local go_sem] max2_int min2_int max_two min_two max_three min_three max_four min_four   -- for this text's walks alone
set_option linter.unusedVariables false
set_option linter.unusedSimpArgs false

theorem b9_2 {p : Prop} (h : p := by refine cO_ ?_; refine blk_put (cs := #[.slice A316_0 ((rd_T31 l0 x17_1).f0).length c316_0, .int .i64 0]) ?_ 1 _ rfl; refine cO_ ?_; refine blk_put (cs := #[.slice none 0 0, .int .i64 0]) ?_ 0 _ rfl; refine cO_ ?_; exact BK317.out) : p := h
theorem b9_3 {p : Prop} (h : p := by exact cB1_ GE304.out) : p := h
theorem b9_4 {p : Prop} (h : p := by exact cC_ (Kd.C_below HR0.out HB.out)) : p := h
theorem b9_6 {p : Prop} (h : p := by exact cB1_ GE295.out) : p := h
theorem b9_7 {p : Prop} (h : p := by refine cO_ ?_; refine blk_put (cs := #[.slice A294_0 ((rd_T31 l0 x14_1).f0).length c294_0, .int .i64 0]) ?_ 1 _ rfl; refine cO_ ?_; refine blk_put (cs := #[.slice none 0 0, .int .i64 0]) ?_ 0 _ rfl; refine cO_ ?_; exact BK295.out) : p := h
theorem b9_8 {p : Prop} (h : p := by exact cB2_ GE317.out GE319.out) : p := h
theorem b9_9 {p : Prop} (h : p := by exact cO_ BK304.out) : p := h
theorem b9_12 {p : Prop} (h : p := by refine cS_ ?_; exact (Kd.S_mono (Kd.S_far (p := ⟨gb295, 1, none⟩) (Kd.S_far (p := ⟨gb295, 0, none⟩) (Kd.S_mono HO_6.out (fun k_ hk => (⟨hk, hk.2⟩ : _ ∧ k_ ≠ gb295))) (fun _ hk => hk.2) (.slice A294_0 ((rd_T31 l0 x14_1).f0).length c294_0)) (fun _ hk => hk.2) (.int .i64 ((rd_T31 l0 x14_1).f1))) (fun _ h_ => h_.1))) : p := h
theorem q9_0 {p : Prop} (h : p := by first | exact Kd.S_nil _ _ _ _ _ | exact Kd.N_nil _ _ _ _ _ | exact Kd.V_nil _ _ _ _ _ | exact Kd.Q_nil _ _ _ _ _ | exact Kd.R_nil _ _ _ _ _) : p := h
/-! ### impl_scaled: function 25 -/
def impl_scaled.l0 : Nat → Int → List (S31) → List (S31) → Int → Int → Option ((List (S31)) × Bool)
 | 0, _, _, _, _, _ => none
 | k + 1, x1, x6, x12, x13, x14 => if x14 < x13 then (if 0 ≤ x14 then (if x14 < (x12.length : Int) then ((impl_mulWeight.f k ((rd_T31 x12 x14).f1) x1).bind fun bt296 => (if bt296.2 = true then (if bt296.1 = 0 then (impl_scaled.l0 k x1 x6 x12 x13 (wrap64 (x14 + 1))) else ((slices_Clone_int64_int64.f ((rd_T31 x12 x14).f0)).bind fun t298 => (if x6.length < 4398046511104 then (impl_scaled.l0 k x1 (x6 ++ [(⟨t298, bt296.1⟩ : S31)]) x12 x13 (wrap64 (x14 + 1))) else (none)))) else (some (([] : List (S31)), false)))) else (none)) else (none)) else (some (x6, true))
def impl_scaled.f (k : Nat) (l0 : List (S31)) (a1 : Int) : Option ((List (S31)) × Bool) := impl_scaled.l0 k a1 (([] : List (S31))) l0 (l0.length : Int) 0
theorem impl_scaled.mono_l : ∀ k, (∀ y0 y1 y2 y3 y4, LeO (impl_scaled.l0 k y0 y1 y2 y3 y4) (impl_scaled.l0 (k + 1) y0 y1 y2 y3 y4))
 | 0 => fun _ _ _ _ _ r h => by simp [impl_scaled.l0] at h
 | k + 1 => by
  have ih0 := impl_scaled.mono_l k
  ·intro y0 y1 y2 y3 y4
   unfold impl_scaled.l0
   repeat' first
   | (with_reducible exact ih0 _ _ _ _ _)
   | (with_reducible exact impl_mulWeight.mono _ _ _)
   | (with_reducible exact LeO.refl _)
   | (with_reducible exact LeO.none _)
   | (with_reducible refine LeO.ite ?_ ?_)
   | (with_reducible refine LeO.bind ?_ (fun _ => ?_))
   | exact ih0 _ _ _ _ _
   | exact impl_mulWeight.mono _ _ _
   | exact LeO.none _
   | refine LeO.ite ?_ ?_
   | refine LeO.bind ?_ (fun _ => ?_)
theorem impl_scaled.mono : ∀ a0 a1 k, LeO (impl_scaled.f k a0 a1) (impl_scaled.f (k + 1) a0 a1) := by
 intro a0 a1 k
 have ih0 := impl_scaled.mono_l k
 unfold impl_scaled.f
 repeat' first
   | (with_reducible exact ih0 _ _ _ _ _)
   | (with_reducible exact impl_mulWeight.mono _ _ _)
   | (with_reducible exact LeO.refl _)
   | (with_reducible exact LeO.none _)
   | (with_reducible refine LeO.ite ?_ ?_)
   | (with_reducible refine LeO.bind ?_ (fun _ => ?_))
   | exact ih0 _ _ _ _ _
   | exact impl_mulWeight.mono _ _ _
   | exact LeO.none _
   | refine LeO.ite ?_ ?_
   | refine LeO.bind ?_ (fun _ => ?_)
set_option maxHeartbeats 8000000 in
set_option maxRecDepth 100000 in
theorem impl_scaled.calls (k : Nat) (A0 : Option Addr) (c0 : Nat) (l0 : List (S31)) (a1 : Int) (r1 : List (S31)) (r2 : Bool) (w : World) (hr0 : Kd.C k31 w A0 l0.length l0) (hc0 : l0.length ≤ c0) (h : impl_scaled.f k l0 a1 = some (r1, r2)) :
  Calls Tryd.prog 25 #[.slice A0 l0.length c0, .int .i64 a1] w fun e w' => ∃ v0_ : Value, e = .returned (.tuple #[v0_, .bool r2]) ∧ Kd.S k31 31 w' w.heap.size (fun _ => True) v0_ r1 ∧ Below w.heap.size w w' := by
 have hu31 := Tryd.underlying31
 have HR0 := Aside0.mk hr0
 have HC0 := Aside0.mk hc0
 clear hr0 hc0
 have HB := Aside0.mk (Below.refl w.heap.size w)
 have H : (impl_scaled.l0 k a1 (([] : List (S31))) l0 (l0.length : Int) 0) = some (r1, r2) := h
 clear h
 obtain ⟨y291, hy_⟩ : ∃ y_ : List (S31), y_ = (([] : List (S31))) := ⟨_, rfl⟩
 replace H : (impl_scaled.l0 k a1 y291 l0 (l0.length : Int) 0) = some (r1, r2) := yb_
 have Ny291 := Aside0.mk hy_
 clear hy_
 have H' := Aside0.mk H
 clear H
 go_enter Tryd.func25, Tryd.ntmps25
 go_wp2_with (first | ((with_reducible refine gate_dst (N := 11) rfl ?_); refine Kd.S_lit k31 _ 31 ?hg (N := 11) ?hd (xs := ([] : List (S31))) (inner := []) (ok := fun _ => True) (okp := fun _ => True) ?hr ?hp (fun _ hk => hk) trivial (Below.refl _ _) (Nat.le_refl _) (by simp) ?_; (case hd => rfl); (case hg => rfl); (case hr => first | (go_simp; done) | (go_simp; rfl)); (case hp => exact (Reps.none _ _)); intro v292 w3 ho4 hb hg_ hnew_; clear hg_ hnew_; (first | rw [← Ny291.out] at ho4 | (simp only [Int.reduceToNat] at ho4; rw [← Ny291.out] at ho4)); have HO293 := Aside0.mk (Kd.S_lower ho4 (below_size cB0_)); replace HB := Aside0.mk (below_step cB0_ hb); clear hb ho4))
 go_loopg [6, 14] k (fun kq v6 v14 w' => ∃ (x6_1 : List (S31)) (x14_1 : Int), v14 = .int .i64 x14_1 ∧ Aside0 (impl_scaled.l0 kq a1 x6_1 l0 (l0.length : Int) x14_1 = some (r1, r2)) ∧ Aside0 (kq ≤ k) ∧ Aside0 (Kd.S k31 31 w' w.heap.size (fun _ => True) v6 x6_1) ∧ Aside0 (Below w.heap.size w w'))
 case atStart => exact ⟨(y291), (0), cs_, H', ⟨Nat.le_refl _⟩, ⟨cS_ HO293.out⟩, ⟨cB0_⟩⟩
 case round =>
  clear H'
  try clear c2
  try clear p2
  obtain ⟨x6_1, x14_1, rfl, HA, HK1, HO_6, HB⟩ := hrel
  cases gk with
  | zero => exact absurd HA.out (by simp [impl_scaled.l0])
  | succ k1 =>
   have H := HA.out
   clear HA
   simp only [impl_scaled.l0] at H
   by_cases c5 : x14_1 < (l0.length : Int)
   rotate_left
   ·rw [if_neg c5] at H
    have c5b0 : decide (x14_1 < (l0.length : Int)) = false := decide_eq_false c5
    clear c5
    simp only [Option.some.injEq, Prod.mk.injEq] at H
    obtain ⟨rfl, rfl⟩ := H
    go_wp2
    go_ret2
    exact ⟨_, ce_, cS_ HO_6.out, cB0_⟩
   rw [if_pos c5] at H
   have c5b0 : decide (x14_1 < (l0.length : Int)) = true := decide_eq_true c5
   clear c5
   by_cases c6 : 0 ≤ x14_1
   rotate_left
   ·rw [if_neg c6] at H
    exact absurd H (by simp)
   rw [if_pos c6] at H
   have c6b0 : decide (0 ≤ x14_1) = true := decide_eq_true c6
   clear c6
   by_cases c7 : x14_1 < (l0.length : Int)
   rotate_left
   ·rw [if_neg c7] at H
    exact absurd H (by simp)
   rw [if_pos c7] at H
   have c7b0 : decide (x14_1 < (l0.length : Int)) = true := decide_eq_true c7
   clear c7
   obtain ⟨⟨t296, t297⟩, A8, H⟩ := bnd_ H
   try dsimp only at H
   by_cases c9 : t297 = true
   rotate_left
   ·replace c9 := Bool.eq_false_iff.mpr c9
    subst c9
    rw [if_neg (show ¬ (false = true) by decide)] at H
    simp only [Option.some.injEq, Prod.mk.injEq] at H
    obtain ⟨rfl, rfl⟩ := H
    have p294 : 0 ≤ (x14_1 : Int) := of_decide_eq_true ca_
    have q294 : x14_1 < (l0.length : Int) := of_decide_eq_true ca_
    obtain ⟨ad294, A294_0, c294_0, e294, hx294_0, hx294_1, hl294_0, hi294_0⟩ := at_T31 HR0.out x14_1 p294 q294
    cases e294
    replace hx294_0 := (HB.out.cell (World.block_lt_of_cell? w _ hx294_0)).trans hx294_0
    replace hx294_1 := (HB.out.cell (World.block_lt_of_cell? w _ hx294_1)).trans hx294_1
    have HR294_0 := Aside0.mk hi294_0
    have HC294_0 := Aside0.mk hl294_0
    clear hi294_0 hl294_0
    replace p294 := eq_true p294
    replace q294 := eq_true q294
    go_wp2_with (first | (refine bx_ 8 #[.slice none 0 0, .int .i64 0] 31 ?_; intro gb295 hg w23 hbox hb; replace HO_6 := Aside0.mk (Kd.S_below (Kd.S_elderB (cS_ HO_6.out) gb295 (Nat.le_of_eq hg.symm)) hb); have BK295 := Aside0.mk (hbox); have GW295 := Aside0.mk ((by rw [hg]; exact (below_size cB0_) : w.heap.size ≤ gb295)); have GE295 := Aside0.mk ((by rw [hg]; exact (below_size cB0_) : w.heap.size ≤ gb295)); replace HB := Aside0.mk (below_step cB0_ hb); clear hb hbox hg; obtain ⟨hcz24_0, hcz24_1, hfz24_0, hfz24_1⟩ := cells2 BK295.out) | (refine gl_ 43 (some 22) Tryd.func43 #[.int .i64 ((rd_T31 l0 x14_1).f1), .int .i64 a1] ?_; (with_reducible refine (impl_mulWeight.calls k1 ((rd_T31 l0 x14_1).f1) a1 t296 false _ A8.out).mono ?_); rintro e w25 ⟨rfl, hb⟩; refine ⟨_, rfl, ?_⟩; replace HO_6 := Aside0.mk (Kd.S_below b9_12 hb); replace BK295 := Aside0.mk (blk_below (g := gb295) (o := .cells #[.slice A294_0 ((rd_T31 l0 x14_1).f0).length c294_0, .int .i64 ((rd_T31 l0 x14_1).f1)] 31 (0, 0)) b9_7 hb); replace HB := Aside0.mk (below_step b9_6 hb); (try clear hb); (try clear hb2); (try clear hk); (try clear hi)))
    go_ret2
    exact ⟨_, ce_, q9_0, cB1_ GE295.out⟩
   subst c9
   rw [if_pos rfl] at H
   by_cases c10 : t296 = 0
   ·rw [if_pos c10] at H
    have c10b0 : (t296 == 0) = true := beq_iff_eq.mpr c10
    have c10b1 : (t296 != 0) = false := bne_eq_false_iff_eq.mpr c10
    clear c10
    have H' := Aside0.mk H
    clear H
    have p294 : 0 ≤ (x14_1 : Int) := of_decide_eq_true ca_
    have q294 : x14_1 < (l0.length : Int) := of_decide_eq_true ca_
    obtain ⟨ad294, A294_0, c294_0, e294, hx294_0, hx294_1, hl294_0, hi294_0⟩ := at_T31 HR0.out x14_1 p294 q294
    cases e294
    replace hx294_0 := (HB.out.cell (World.block_lt_of_cell? w _ hx294_0)).trans hx294_0
    replace hx294_1 := (HB.out.cell (World.block_lt_of_cell? w _ hx294_1)).trans hx294_1
    have HR294_0 := Aside0.mk hi294_0
    have HC294_0 := Aside0.mk hl294_0
    clear hi294_0 hl294_0
    replace p294 := eq_true p294
    replace q294 := eq_true q294
    go_wp2_with (first | (refine bx_ 8 #[.slice none 0 0, .int .i64 0] 31 ?_; intro gb295 hg w11 hbox hb; replace HO_6 := Aside0.mk (Kd.S_below (Kd.S_elderB (cS_ HO_6.out) gb295 (Nat.le_of_eq hg.symm)) hb); have BK295 := Aside0.mk (hbox); have GW295 := Aside0.mk ((by rw [hg]; exact (below_size cB0_) : w.heap.size ≤ gb295)); have GE295 := Aside0.mk ((by rw [hg]; exact (below_size cB0_) : w.heap.size ≤ gb295)); replace HB := Aside0.mk (below_step cB0_ hb); clear hb hbox hg; obtain ⟨hcz12_0, hcz12_1, hfz12_0, hfz12_1⟩ := cells2 BK295.out) | (refine gl_ 43 (some 22) Tryd.func43 #[.int .i64 ((rd_T31 l0 x14_1).f1), .int .i64 a1] ?_; (with_reducible refine (impl_mulWeight.calls k1 ((rd_T31 l0 x14_1).f1) a1 t296 true _ A8.out).mono ?_); rintro e w13 ⟨rfl, hb⟩; refine ⟨_, rfl, ?_⟩; replace HO_6 := Aside0.mk (Kd.S_below b9_12 hb); replace BK295 := Aside0.mk (blk_below (g := gb295) (o := .cells #[.slice A294_0 ((rd_T31 l0 x14_1).f0).length c294_0, .int .i64 ((rd_T31 l0 x14_1).f1)] 31 (0, 0)) b9_7 hb); replace HB := Aside0.mk (below_step b9_6 hb); (try clear hb); (try clear hb2); (try clear hk); (try clear hi)))
    go_roundg k1
    case measure => have := HK1.out; omega
    case rel => exact ⟨(x6_1), (wrap64 (x14_1 + 1)), cs_, H', ⟨co_ HK1.out⟩, ⟨by refine cS_ ?_; exact Kd.S_mono HO_6.out (fun _ hk => trivial)⟩, ⟨cB1_ GE295.out⟩⟩
   rw [if_neg c10] at H
   have c10b0 : (t296 == 0) = false := beq_eq_false_iff_ne.mpr c10
   have c10b1 : (t296 != 0) = true := bne_iff_ne.mpr c10
   obtain ⟨t298, A14, H⟩ := bnd_ H
   try dsimp only at H
   by_cases c15 : x6_1.length < 4398046511104
   rotate_left
   ·rw [if_neg c15] at H
    exact absurd H (by simp)
   rw [if_pos c15] at H
   have LMc15 := Aside0.mk c15
   clear c15
   obtain ⟨y301, hy_⟩ : ∃ y_ : List (S31), y_ = (x6_1 ++ [(⟨t298, t296⟩ : S31)]) := ⟨_, rfl⟩
   replace H : (impl_scaled.l0 k1 a1 y301 l0 (l0.length : Int) (wrap64 (x14_1 + 1))) = some (r1, r2) := yb_
   have Ny301 := Aside0.mk hy_
   clear hy_
   have H' := Aside0.mk H
   clear H
   have p294 : 0 ≤ (x14_1 : Int) := of_decide_eq_true ca_
   have q294 : x14_1 < (l0.length : Int) := of_decide_eq_true ca_
   obtain ⟨ad294, A294_0, c294_0, e294, hx294_0, hx294_1, hl294_0, hi294_0⟩ := at_T31 HR0.out x14_1 p294 q294
   cases e294
   replace hx294_0 := (HB.out.cell (World.block_lt_of_cell? w _ hx294_0)).trans hx294_0
   replace hx294_1 := (HB.out.cell (World.block_lt_of_cell? w _ hx294_1)).trans hx294_1
   have HR294_0 := Aside0.mk hi294_0
   have HC294_0 := Aside0.mk hl294_0
   clear hi294_0 hl294_0
   replace p294 := eq_true p294
   replace q294 := eq_true q294
   go_wp2_with (first | (refine bx_ 8 #[.slice none 0 0, .int .i64 0] 31 ?_; intro gb295 hg w16 hbox hb; replace HO_6 := Aside0.mk (Kd.S_below (Kd.S_elderB (cS_ HO_6.out) gb295 (Nat.le_of_eq hg.symm)) hb); have BK295 := Aside0.mk (hbox); have GW295 := Aside0.mk ((by rw [hg]; exact (below_size cB0_) : w.heap.size ≤ gb295)); have GE295 := Aside0.mk ((by rw [hg]; exact (below_size cB0_) : w.heap.size ≤ gb295)); replace HB := Aside0.mk (below_step cB0_ hb); clear hb hbox hg; obtain ⟨hcz17_0, hcz17_1, hfz17_0, hfz17_1⟩ := cells2 BK295.out) | (refine gl_ 43 (some 22) Tryd.func43 #[.int .i64 ((rd_T31 l0 x14_1).f1), .int .i64 a1] ?_; (with_reducible refine (impl_mulWeight.calls k1 ((rd_T31 l0 x14_1).f1) a1 t296 true _ A8.out).mono ?_); rintro e w18 ⟨rfl, hb⟩; refine ⟨_, rfl, ?_⟩; replace HO_6 := Aside0.mk (Kd.S_below b9_12 hb); replace BK295 := Aside0.mk (blk_below (g := gb295) (o := .cells #[.slice A294_0 ((rd_T31 l0 x14_1).f0).length c294_0, .int .i64 ((rd_T31 l0 x14_1).f1)] 31 (0, 0)) b9_7 hb); replace HB := Aside0.mk (below_step b9_6 hb); (try clear hb); (try clear hb2); (try clear hk); (try clear hi); obtain ⟨hcz19_0, hcz19_1, hfz19_0, hfz19_1⟩ := cells2 BK295.out) | (refine gl_ 36 (some 32) Tryd.func36 #[.slice A294_0 ((rd_T31 l0 x14_1).f0).length c294_0] ?_; (with_reducible refine (slices_Clone_int64_int64.calls _ _ ((rd_T31 l0 x14_1).f0) t298 _ ?side1 ?side2 A14.out).mono ?_); (case side1 => exact cC_ (Kd.C_below HR294_0.out HB.out)); (case side2 => exact HC294_0.out); rintro e w20 ⟨v299, rfl, ho0, hb⟩; refine ⟨_, rfl, ?_⟩; replace HO_6 := Aside0.mk (Kd.S_elder' (cS_ HO_6.out) (Kd.R_base ho0) hb); have HO300 := Aside0.mk (Kd.R_lower ho0 (below_size b9_6)); replace BK295 := Aside0.mk (blk_below (g := gb295) (o := .cells #[.slice A294_0 ((rd_T31 l0 x14_1).f0).length c294_0, .int .i64 ((rd_T31 l0 x14_1).f1)] 31 (0, 0)) (cO_ BK295.out) hb); replace HB := Aside0.mk (below_step b9_6 hb); (try clear hb); (try clear hb2); (try clear hk); (try clear hi); (try clear ho0); obtain ⟨Ao21, co21, eo21⟩ := Kd.R_slice HO300.out; subst eo21) | ((with_reducible refine gate_builtin (b := .append) (xs := #[.tmp 29, .tmp 35]) rfl ?_); at_builtin; refine Kd.S_append k31 (w0 := w) w.heap.size rfl (.tmp 29) (.tmp 35) 24 31 (.agg #[(.slice none 0 0), (.int .i64 0)]) 32 rfl Tryd.underlying24 info31 rfl (by decide) (by omega) u6 x6_1 (⟨t298, t296⟩ : S31) [.slice Ao21 t298.length co21, .int .i64 t296] (fun k_ => k_ ≠ gb295) (fun k_ => some k_ = (.slice Ao21 t298.length co21 : Value).ownBlock) rfl rfl ?aP (fun k_ hk_ => ((Kd.R_mono (ok' := fun k_ => ((fun k_ => k_ ≠ gb295)) k_ ∧ some k_ ≠ (u6 : Value).ownBlock) (Kd.R_types (Kd.R_apart' (HO300.out) (Kd.S_typed HO_6.out) (by decide)) BK295.out (by decide)) (fun k_ hk => ⟨hk.2, hk.1.2⟩))).1 k_ hk_.symm) ?aF ?aO ?aB ?aS ?aL ?_; (case aP => exact (by exact k31_mkM _ _ _ (⟨t298, t296⟩ : S31) (Kd.R_mono (Kd.R_tight rfl (Kd.R_mono (ok' := fun k_ => ((fun k_ => k_ ≠ gb295)) k_ ∧ some k_ ≠ (u6 : Value).ownBlock) (Kd.R_types (Kd.R_apart' (HO300.out) (Kd.S_typed HO_6.out) (by decide)) BK295.out (by decide)) (fun k_ hk => ⟨hk.2, hk.1.2⟩))) (fun _ h_ => h_)))); (case aB => exact b9_6); (case aF => exact (by exact (fun k_ hk => Kd.freshB (g := gb295) (o := .cells #[.slice A294_0 ((rd_T31 l0 x14_1).f0).length c294_0, .int .i64 ((rd_T31 l0 x14_1).f1)] 31 (0, 0)) (cO_ BK295.out) k_ hk))); (case aO => exact (by exact (by refine cS_ ?_; exact Kd.S_mono HO_6.out (fun k_ hk => ⟨hk.1.2, fun e_ => hk.2 e_⟩)))); (case aS => exact (by exact (below_size b9_6))); (case aL => exact co_ LMc15.out); intro v302 w22 ho hb hg hat; rw [← Ny301.out] at ho; replace BK295 := Aside0.mk (blk_grown (g := gb295) (o := .cells #[.slice A294_0 ((rd_T31 l0 x14_1).f0).length c294_0, .int .i64 ((rd_T31 l0 x14_1).f1)] 31 (0, 0)) (cO_ BK295.out) hg (Kd.S_away HO_6.out (fun _ hk => hk.1.2))); replace HB := Aside0.mk (hb); have HO303 := Aside0.mk (ho); clear HO_6; clear HO300; clear ho hb hg hat))
   go_roundg k1
   case measure => have := HK1.out; omega
   case rel => exact ⟨(y301), (wrap64 (x14_1 + 1)), cs_, H', ⟨co_ HK1.out⟩, ⟨by refine cS_ ?_; exact Kd.S_mono HO303.out (fun _ hk => trivial)⟩, ⟨cB1_ GE295.out⟩⟩

/-! ### impl_ScaleSet: function 8 -/
def impl_ScaleSet.f (k : Nat) (l0 : List (S31)) (a1 : Int) : Option (Int × (List (S31))) := (impl_SetFault.f k l0).bind fun t305 => (if t305 = 0 then ((impl_isWeight.f a1).bind fun t306 => (if t306 = true then ((impl_scaled.f k l0 a1).bind fun bt307 => (if bt307.2 = true then (some (0, bt307.1)) else (some (8, ([] : List (S31)))))) else (some (3, ([] : List (S31)))))) else (some (t305, ([] : List (S31)))))
theorem impl_ScaleSet.mono : ∀ a0 a1 k, LeO (impl_ScaleSet.f k a0 a1) (impl_ScaleSet.f (k + 1) a0 a1) := by
 intro a0 a1 k
 unfold impl_ScaleSet.f
 repeat' first
   | (with_reducible exact impl_SetFault.mono _ _)
   | (with_reducible exact impl_scaled.mono _ _ _)
   | (with_reducible exact LeO.refl _)
   | (with_reducible exact LeO.none _)
   | (with_reducible refine LeO.ite ?_ ?_)
   | (with_reducible refine LeO.bind ?_ (fun _ => ?_))
   | exact impl_SetFault.mono _ _
   | exact impl_scaled.mono _ _ _
   | exact LeO.none _
   | refine LeO.ite ?_ ?_
   | refine LeO.bind ?_ (fun _ => ?_)
set_option maxHeartbeats 8000000 in
set_option maxRecDepth 100000 in
theorem impl_ScaleSet.calls (k : Nat) (A0 : Option Addr) (c0 : Nat) (l0 : List (S31)) (a1 : Int) (r1 : Int) (r2 : List (S31)) (w : World) (hr0 : Kd.C k31 w A0 l0.length l0) (hc0 : l0.length ≤ c0) (h : impl_ScaleSet.f k l0 a1 = some (r1, r2)) :
  Calls Tryd.prog 8 #[.slice A0 l0.length c0, .int .i64 a1] w fun e w' => ∃ v1_ : Value, e = .returned (.agg #[.int .i64 r1, v1_]) ∧ Kd.S k31 31 w' w.heap.size (fun _ => True) v1_ r2 ∧ Below w.heap.size w w' := by
 have hu27 := Tryd.underlying27
 have HR0 := Aside0.mk hr0
 have HC0 := Aside0.mk hc0
 clear hr0 hc0
 have HB := Aside0.mk (Below.refl w.heap.size w)
 have H : ((impl_SetFault.f k l0).bind fun t305 => (if t305 = 0 then ((impl_isWeight.f a1).bind fun t306 => (if t306 = true then ((impl_scaled.f k l0 a1).bind fun bt307 => (if bt307.2 = true then (some (0, bt307.1)) else (some (8, ([] : List (S31)))))) else (some (3, ([] : List (S31)))))) else (some (t305, ([] : List (S31)))))) = some (r1, r2) := h
 clear h
 obtain ⟨t305, A3, H⟩ := bnd_ H
 try dsimp only at H
 by_cases c4 : t305 = 0
 rotate_left
 ·rw [if_neg c4] at H
  have c4b0 : (t305 == 0) = false := beq_eq_false_iff_ne.mpr c4
  have c4b1 : (t305 != 0) = true := bne_iff_ne.mpr c4
  simp only [Option.some.injEq, Prod.mk.injEq] at H
  obtain ⟨rfl, rfl⟩ := H
  go_enter Tryd.func8, Tryd.ntmps8
  go_wp2_with (first | (refine bx_ 4 #[.int .i64 0, .slice none 0 0] 27 ?_; intro gb304 hg w21 hbox hb; have BK304 := Aside0.mk (hbox); have GW304 := Aside0.mk ((by rw [hg]; exact (below_size cB0_) : w.heap.size ≤ gb304)); have GE304 := Aside0.mk ((by rw [hg]; exact (below_size cB0_) : w.heap.size ≤ gb304)); replace HB := Aside0.mk (below_step cB0_ hb); clear hb hbox hg) | (refine gl_ 9 (some 9) Tryd.func9 #[.slice A0 l0.length c0] ?_; (with_reducible refine (impl_SetFault.calls k _ _ l0 t305 _ ?side1 ?side2 A3.out).mono ?_); (case side1 => exact b9_4); (case side2 => exact HC0.out); rintro e w22 ⟨rfl, hb⟩; refine ⟨_, rfl, ?_⟩; replace BK304 := Aside0.mk (blk_below (g := gb304) (o := .cells #[.int .i64 0, .slice none 0 0] 27 (0, 0)) b9_9 hb); replace HB := Aside0.mk (below_step b9_3 hb); (try clear hb); (try clear hb2); (try clear hk); (try clear hi); obtain ⟨hcz23_0, hcz23_1, hfz23_0, hfz23_1⟩ := cells2 BK304.out))
  refine bodyPost_ret (results_cell_row rfl _ _ gb304 27 #[.int .i64 t305, .slice none 0 0] (0, 0) _ rfl (by refine cO_ ?_; refine blk_put (cs := #[.int .i64 t305, .slice none 0 0]) ?_ 1 _ rfl; refine cO_ ?_; refine blk_put (cs := #[.int .i64 0, .slice none 0 0]) ?_ 0 _ rfl; refine cO_ ?_; exact BK304.out) Tryd.underlying27 rfl (by kernel_rfl)) rfl ?_
  exact ⟨_, ce_, q9_0, cB1_ GE304.out⟩
 rw [if_pos c4] at H
 have c4b0 : (t305 == 0) = true := beq_iff_eq.mpr c4
 have c4b1 : (t305 != 0) = false := bne_eq_false_iff_eq.mpr c4
 clear c4
 obtain ⟨t306, A5, H⟩ := bnd_ H
 try dsimp only at H
 by_cases c6 : t306 = true
 rotate_left
 ·replace c6 := Bool.eq_false_iff.mpr c6
  subst c6
  rw [if_neg (show ¬ (false = true) by decide)] at H
  simp only [Option.some.injEq, Prod.mk.injEq] at H
  obtain ⟨rfl, rfl⟩ := H
  go_enter Tryd.func8, Tryd.ntmps8
  go_wp2_with (first | (refine bx_ 4 #[.int .i64 0, .slice none 0 0] 27 ?_; intro gb304 hg w18 hbox hb; have BK304 := Aside0.mk (hbox); have GW304 := Aside0.mk ((by rw [hg]; exact (below_size cB0_) : w.heap.size ≤ gb304)); have GE304 := Aside0.mk ((by rw [hg]; exact (below_size cB0_) : w.heap.size ≤ gb304)); replace HB := Aside0.mk (below_step cB0_ hb); clear hb hbox hg) | (refine gl_ 9 (some 9) Tryd.func9 #[.slice A0 l0.length c0] ?_; (with_reducible refine (impl_SetFault.calls k _ _ l0 t305 _ ?side1 ?side2 A3.out).mono ?_); (case side1 => exact b9_4); (case side2 => exact HC0.out); rintro e w19 ⟨rfl, hb⟩; refine ⟨_, rfl, ?_⟩; replace BK304 := Aside0.mk (blk_below (g := gb304) (o := .cells #[.int .i64 0, .slice none 0 0] 27 (0, 0)) b9_9 hb); replace HB := Aside0.mk (below_step b9_3 hb); (try clear hb); (try clear hb2); (try clear hk); (try clear hi)) | (refine gl_ 20 (some 15) Tryd.func20 #[.int .i64 a1] ?_; (with_reducible refine (impl_isWeight.calls a1 false _ A5.out).mono ?_); rintro e w' ⟨rfl, ⟨nd, rfl⟩⟩; refine ⟨_, rfl, ?_⟩; (try simp only [World.drewN_drewN]); (try (rw [drewN_self w19]; generalize hq_ : World.drewN w19 _ = w19; have n0_ : Aside0 (w19.heap[gb304]? = some (.cells #[.int .i64 0, .slice none 0 0] 27 (0, 0))) := ⟨by rw [← hq_]; exact b9_9⟩; have n1_ : Aside0 (Below w.heap.size w w19) := ⟨by rw [← hq_]; exact b9_3⟩; clear BK304 HB hq_; have BK304 := n0_; have HB := n1_; clear n0_ n1_)); obtain ⟨hcz20_0, hcz20_1, hfz20_0, hfz20_1⟩ := cells2 BK304.out))
  refine bodyPost_ret (results_cell_row rfl _ _ gb304 27 #[.int .i64 3, .slice none 0 0] (0, 0) _ rfl (by refine cO_ ?_; refine blk_put (cs := #[.int .i64 3, .slice none 0 0]) ?_ 1 _ rfl; refine cO_ ?_; refine blk_put (cs := #[.int .i64 0, .slice none 0 0]) ?_ 0 _ rfl; refine cO_ ?_; exact BK304.out) Tryd.underlying27 rfl (by kernel_rfl)) rfl ?_
  exact ⟨_, ce_, q9_0, cB1_ GE304.out⟩
 subst c6
 rw [if_pos rfl] at H
 obtain ⟨⟨t307, t308⟩, A7, H⟩ := bnd_ H
 try dsimp only at H
 by_cases c8 : t308 = true
 ·subst c8
  rw [if_pos rfl] at H
  simp only [Option.some.injEq, Prod.mk.injEq] at H
  obtain ⟨rfl, rfl⟩ := H
  go_enter Tryd.func8, Tryd.ntmps8
  go_wp2_with (first | (refine bx_ 4 #[.int .i64 0, .slice none 0 0] 27 ?_; intro gb304 hg w9 hbox hb; have BK304 := Aside0.mk (hbox); have GW304 := Aside0.mk ((by rw [hg]; exact (below_size cB0_) : w.heap.size ≤ gb304)); have GE304 := Aside0.mk ((by rw [hg]; exact (below_size cB0_) : w.heap.size ≤ gb304)); replace HB := Aside0.mk (below_step cB0_ hb); clear hb hbox hg) | (refine gl_ 9 (some 9) Tryd.func9 #[.slice A0 l0.length c0] ?_; (with_reducible refine (impl_SetFault.calls k _ _ l0 t305 _ ?side1 ?side2 A3.out).mono ?_); (case side1 => exact b9_4); (case side2 => exact HC0.out); rintro e w10 ⟨rfl, hb⟩; refine ⟨_, rfl, ?_⟩; replace BK304 := Aside0.mk (blk_below (g := gb304) (o := .cells #[.int .i64 0, .slice none 0 0] 27 (0, 0)) b9_9 hb); replace HB := Aside0.mk (below_step b9_3 hb); (try clear hb); (try clear hb2); (try clear hk); (try clear hi)) | (refine gl_ 20 (some 15) Tryd.func20 #[.int .i64 a1] ?_; (with_reducible refine (impl_isWeight.calls a1 true _ A5.out).mono ?_); rintro e w' ⟨rfl, ⟨nd, rfl⟩⟩; refine ⟨_, rfl, ?_⟩; (try simp only [World.drewN_drewN]); (try (rw [drewN_self w10]; generalize hq_ : World.drewN w10 _ = w10; have n0_ : Aside0 (w10.heap[gb304]? = some (.cells #[.int .i64 0, .slice none 0 0] 27 (0, 0))) := ⟨by rw [← hq_]; exact b9_9⟩; have n1_ : Aside0 (Below w.heap.size w w10) := ⟨by rw [← hq_]; exact b9_3⟩; clear BK304 HB hq_; have BK304 := n0_; have HB := n1_; clear n0_ n1_))) | (refine gl_ 25 (some 21) Tryd.func25 #[.slice A0 l0.length c0, .int .i64 a1] ?_; (with_reducible refine (impl_scaled.calls k _ _ l0 a1 t307 true _ ?side1 ?side2 A7.out).mono ?_); (case side1 => exact b9_4); (case side2 => exact HC0.out); rintro e w11 ⟨v309, rfl, ho0, hb⟩; refine ⟨_, rfl, ?_⟩; have HO310 := Aside0.mk (Kd.S_lower ho0 (below_size b9_3)); replace BK304 := Aside0.mk (blk_below (g := gb304) (o := .cells #[.int .i64 0, .slice none 0 0] 27 (0, 0)) b9_9 hb); replace HB := Aside0.mk (below_step b9_3 hb); (try clear hb); (try clear hb2); (try clear hk); (try clear hi); (try clear ho0); obtain ⟨Ao12, co12, eo12⟩ := Kd.S_slice HO310.out; subst eo12; obtain ⟨hcz13_0, hcz13_1, hfz13_0, hfz13_1⟩ := cells2 BK304.out))
  refine bodyPost_ret (results_cell_row rfl _ _ gb304 27 #[.int .i64 0, .slice Ao12 t307.length co12] (0, 0) _ rfl (by refine cO_ ?_; refine blk_put (cs := #[.int .i64 0, .slice none 0 0]) ?_ 1 _ rfl; refine cO_ ?_; refine blk_put (cs := #[.int .i64 0, .slice none 0 0]) ?_ 0 _ rfl; refine cO_ ?_; exact BK304.out) Tryd.underlying27 rfl (by kernel_rfl)) rfl ?_
  exact ⟨_, ce_, by refine cS_ ?_; exact Kd.S_mono (Kd.S_far (p := ⟨gb304, 1, none⟩) (Kd.S_far (p := ⟨gb304, 0, none⟩) (Kd.S_types HO310.out BK304.out (by decide)) (fun _ hk => hk.2) (.int .i64 0)) (fun _ hk => hk.2) (.slice Ao12 t307.length co12)) (fun _ hk => trivial), cB1_ GE304.out⟩
 replace c8 := Bool.eq_false_iff.mpr c8
 subst c8
 rw [if_neg (show ¬ (false = true) by decide)] at H
 simp only [Option.some.injEq, Prod.mk.injEq] at H
 obtain ⟨rfl, rfl⟩ := H
 go_enter Tryd.func8, Tryd.ntmps8
 go_wp2_with (first | (refine bx_ 4 #[.int .i64 0, .slice none 0 0] 27 ?_; intro gb304 hg w14 hbox hb; have BK304 := Aside0.mk (hbox); have GW304 := Aside0.mk ((by rw [hg]; exact (below_size cB0_) : w.heap.size ≤ gb304)); have GE304 := Aside0.mk ((by rw [hg]; exact (below_size cB0_) : w.heap.size ≤ gb304)); replace HB := Aside0.mk (below_step cB0_ hb); clear hb hbox hg) | (refine gl_ 9 (some 9) Tryd.func9 #[.slice A0 l0.length c0] ?_; (with_reducible refine (impl_SetFault.calls k _ _ l0 t305 _ ?side1 ?side2 A3.out).mono ?_); (case side1 => exact b9_4); (case side2 => exact HC0.out); rintro e w15 ⟨rfl, hb⟩; refine ⟨_, rfl, ?_⟩; replace BK304 := Aside0.mk (blk_below (g := gb304) (o := .cells #[.int .i64 0, .slice none 0 0] 27 (0, 0)) b9_9 hb); replace HB := Aside0.mk (below_step b9_3 hb); (try clear hb); (try clear hb2); (try clear hk); (try clear hi)) | (refine gl_ 20 (some 15) Tryd.func20 #[.int .i64 a1] ?_; (with_reducible refine (impl_isWeight.calls a1 true _ A5.out).mono ?_); rintro e w' ⟨rfl, ⟨nd, rfl⟩⟩; refine ⟨_, rfl, ?_⟩; (try simp only [World.drewN_drewN]); (try (rw [drewN_self w15]; generalize hq_ : World.drewN w15 _ = w15; have n0_ : Aside0 (w15.heap[gb304]? = some (.cells #[.int .i64 0, .slice none 0 0] 27 (0, 0))) := ⟨by rw [← hq_]; exact b9_9⟩; have n1_ : Aside0 (Below w.heap.size w w15) := ⟨by rw [← hq_]; exact b9_3⟩; clear BK304 HB hq_; have BK304 := n0_; have HB := n1_; clear n0_ n1_))) | (refine gl_ 25 (some 21) Tryd.func25 #[.slice A0 l0.length c0, .int .i64 a1] ?_; (with_reducible refine (impl_scaled.calls k _ _ l0 a1 t307 false _ ?side1 ?side2 A7.out).mono ?_); (case side1 => exact b9_4); (case side2 => exact HC0.out); rintro e w16 ⟨v309, rfl, ho0, hb⟩; refine ⟨_, rfl, ?_⟩; have HO310 := Aside0.mk (Kd.S_lower ho0 (below_size b9_3)); replace BK304 := Aside0.mk (blk_below (g := gb304) (o := .cells #[.int .i64 0, .slice none 0 0] 27 (0, 0)) b9_9 hb); replace HB := Aside0.mk (below_step b9_3 hb); (try clear hb); (try clear hb2); (try clear hk); (try clear hi); (try clear ho0); obtain ⟨hcz17_0, hcz17_1, hfz17_0, hfz17_1⟩ := cells2 BK304.out))
 refine bodyPost_ret (results_cell_row rfl _ _ gb304 27 #[.int .i64 8, .slice none 0 0] (0, 0) _ rfl (by refine cO_ ?_; refine blk_put (cs := #[.int .i64 8, .slice none 0 0]) ?_ 1 _ rfl; refine cO_ ?_; refine blk_put (cs := #[.int .i64 0, .slice none 0 0]) ?_ 0 _ rfl; refine cO_ ?_; exact BK304.out) Tryd.underlying27 rfl (by kernel_rfl)) rfl ?_
 exact ⟨_, ce_, q9_0, cB1_ GE304.out⟩

/-! ### slices_Equal_int64_int64: function 48 -/
def slices_Equal_int64_int64.l0 : Nat → List Int → List Int → Int → Int → Option (Bool)
 | 0, _, _, _, _ => none
 | k + 1, x0, x1, x12, x13 => if x13 < x12 then (if 0 ≤ x13 then (if x13 < (x0.length : Int) then (if x13 < (x1.length : Int) then (if (rd x0 x13) = (rd x1 x13) then (slices_Equal_int64_int64.l0 k x0 x1 x12 (wrap64 (x13 + 1))) else (some false)) else (none)) else (none)) else (none)) else (some true)
def slices_Equal_int64_int64.f (k : Nat) (l0 : List Int) (l1 : List Int) : Option (Bool) := if (l0.length : Int) = (l1.length : Int) then (slices_Equal_int64_int64.l0 k l0 l1 (l0.length : Int) 0) else (some false)
theorem slices_Equal_int64_int64.mono_l : ∀ k, (∀ y0 y1 y2 y3, LeO (slices_Equal_int64_int64.l0 k y0 y1 y2 y3) (slices_Equal_int64_int64.l0 (k + 1) y0 y1 y2 y3))
 | 0 => fun _ _ _ _ r h => by simp [slices_Equal_int64_int64.l0] at h
 | k + 1 => by
  have ih0 := slices_Equal_int64_int64.mono_l k
  ·intro y0 y1 y2 y3
   unfold slices_Equal_int64_int64.l0
   repeat' first
   | (with_reducible exact ih0 _ _ _ _)
   | (with_reducible exact LeO.refl _)
   | (with_reducible exact LeO.none _)
   | (with_reducible refine LeO.ite ?_ ?_)
   | (with_reducible refine LeO.bind ?_ (fun _ => ?_))
   | exact ih0 _ _ _ _
   | exact LeO.none _
   | refine LeO.ite ?_ ?_
   | refine LeO.bind ?_ (fun _ => ?_)
theorem slices_Equal_int64_int64.mono : ∀ a0 a1 k, LeO (slices_Equal_int64_int64.f k a0 a1) (slices_Equal_int64_int64.f (k + 1) a0 a1) := by
 intro a0 a1 k
 have ih0 := slices_Equal_int64_int64.mono_l k
 unfold slices_Equal_int64_int64.f
 repeat' first
   | (with_reducible exact ih0 _ _ _ _)
   | (with_reducible exact LeO.refl _)
   | (with_reducible exact LeO.none _)
   | (with_reducible refine LeO.ite ?_ ?_)
   | (with_reducible refine LeO.bind ?_ (fun _ => ?_))
   | exact ih0 _ _ _ _
   | exact LeO.none _
   | refine LeO.ite ?_ ?_
   | refine LeO.bind ?_ (fun _ => ?_)
set_option maxHeartbeats 8000000 in
set_option maxRecDepth 100000 in
theorem slices_Equal_int64_int64.calls (k : Nat) (A0 : Option Addr) (c0 : Nat) (l0 : List Int) (A1 : Option Addr) (c1 : Nat) (l1 : List Int) (r : Bool) (w : World) (hr0 : Kd.C (Kd.int .i64) w A0 l0.length l0) (hc0 : l0.length ≤ c0) (hr1 : Kd.C (Kd.int .i64) w A1 l1.length l1) (hc1 : l1.length ≤ c1) (h : slices_Equal_int64_int64.f k l0 l1 = some r) :
  Calls Tryd.prog 48 #[.slice A0 l0.length c0, .slice A1 l1.length c1] w fun e w' => e = .returned (.bool r) ∧ Drawn0 w w' := by
 have HR0 := Aside0.mk hr0
 have HC0 := Aside0.mk hc0
 clear hr0 hc0
 have HR1 := Aside0.mk hr1
 have HC1 := Aside0.mk hc1
 clear hr1 hc1
 have H : (if (l0.length : Int) = (l1.length : Int) then (slices_Equal_int64_int64.l0 k l0 l1 (l0.length : Int) 0) else (some false)) = some r := h
 clear h
 by_cases c3 : (l0.length : Int) = (l1.length : Int)
 rotate_left
 ·rw [if_neg c3] at H
  have c3b0 : ((l0.length : Int) == (l1.length : Int)) = false := beq_eq_false_iff_ne.mpr c3
  have c3b1 : ((l0.length : Int) != (l1.length : Int)) = true := bne_iff_ne.mpr c3
  have c3b2 : (l0.length == l1.length) = false := by first | simpa using c3 | (simp at c3 ⊢; omega)
  obtain rfl := Option.some.inj H
  go_enter Tryd.func48, Tryd.ntmps48
  go_wp2
  repeat (go_quiet (fail); try go_wp2)
  go_ret
  exact ⟨cs_, cD_⟩
 rw [if_pos c3] at H
 have c3b0 : ((l0.length : Int) == (l1.length : Int)) = true := beq_iff_eq.mpr c3
 have c3b1 : ((l0.length : Int) != (l1.length : Int)) = false := bne_eq_false_iff_eq.mpr c3
 have c3b2 : (l0.length == l1.length) = true := by first | simpa using c3 | (simp at c3 ⊢; omega)
 clear c3
 have H' := Aside0.mk H
 clear H
 go_enter Tryd.func48, Tryd.ntmps48
 go_wp2
 repeat (go_quiet (fail); try go_wp2)
 go_loopg [13] k (fun kq v13 w' => ∃ (x13_1 : Int), v13 = .int .i64 x13_1 ∧ Aside0 (slices_Equal_int64_int64.l0 kq l0 l1 (l0.length : Int) x13_1 = some r) ∧ Aside0 (kq ≤ k) ∧ Drawn0 w w')
 case atStart => exact ⟨(0), cs_, H', ⟨Nat.le_refl _⟩, cD_⟩
 case round =>
  clear H'
  try clear c1
  try clear p2
  try clear c3
  try clear c3b0
  try clear c3b1
  try clear c3b2
  obtain ⟨x13_1, rfl, HA, HK1, ⟨m1, rfl⟩⟩ := hrel
  cases gk with
  | zero => exact absurd HA.out (by simp [slices_Equal_int64_int64.l0])
  | succ k1 =>
   have H := HA.out
   clear HA
   simp only [slices_Equal_int64_int64.l0] at H
   by_cases c4 : x13_1 < (l0.length : Int)
   rotate_left
   ·rw [if_neg c4] at H
    have c4b0 : decide (x13_1 < (l0.length : Int)) = false := decide_eq_false c4
    clear c4
    obtain rfl := Option.some.inj H
    go_wp2
    repeat (go_quiet (fail); try go_wp2)
    go_ret
    exact ⟨cs_, cD_⟩
   rw [if_pos c4] at H
   have c4b0 : decide (x13_1 < (l0.length : Int)) = true := decide_eq_true c4
   clear c4
   by_cases c5 : 0 ≤ x13_1
   rotate_left
   ·rw [if_neg c5] at H
    exact absurd H (by simp)
   rw [if_pos c5] at H
   have c5b0 : decide (0 ≤ x13_1) = true := decide_eq_true c5
   clear c5
   by_cases c6 : x13_1 < (l0.length : Int)
   rotate_left
   ·rw [if_neg c6] at H
    exact absurd H (by simp)
   rw [if_pos c6] at H
   have c6b0 : decide (x13_1 < (l0.length : Int)) = true := decide_eq_true c6
   clear c6
   by_cases c7 : x13_1 < (l1.length : Int)
   rotate_left
   ·rw [if_neg c7] at H
    exact absurd H (by simp)
   rw [if_pos c7] at H
   have c7b0 : decide (x13_1 < (l1.length : Int)) = true := decide_eq_true c7
   clear c7
   by_cases c8 : (rd l0 x13_1) = (rd l1 x13_1)
   ·rw [if_pos c8] at H
    have c8b0 : ((rd l0 x13_1) == (rd l1 x13_1)) = true := beq_iff_eq.mpr c8
    have c8b1 : ((rd l0 x13_1) != (rd l1 x13_1)) = false := bne_eq_false_iff_eq.mpr c8
    clear c8
    have H' := Aside0.mk H
    clear H
    have p311 : 0 ≤ (x13_1 : Int) := of_decide_eq_true ca_
    have q311 : x13_1 < (l0.length : Int) := of_decide_eq_true ca_
    obtain ⟨ad311, e311, hx311_0⟩ := Kd.at_int HR0.out x13_1 p311 q311
    cases e311
    replace p311 := eq_true p311
    replace q311 := eq_true q311
    have p312 : 0 ≤ (x13_1 : Int) := of_decide_eq_true ca_
    have q312 : x13_1 < (l1.length : Int) := of_decide_eq_true ca_
    obtain ⟨ad312, e312, hx312_0⟩ := Kd.at_int HR1.out x13_1 p312 q312
    cases e312
    replace p312 := eq_true p312
    replace q312 := eq_true q312
    go_wp2
    repeat (go_quiet (fail); try go_wp2)
    go_roundg k1
    case measure => have := HK1.out; omega
    case rel => exact ⟨(wrap64 (x13_1 + 1)), cs_, H', ⟨co_ HK1.out⟩, cD_⟩
   rw [if_neg c8] at H
   have c8b0 : ((rd l0 x13_1) == (rd l1 x13_1)) = false := beq_eq_false_iff_ne.mpr c8
   have c8b1 : ((rd l0 x13_1) != (rd l1 x13_1)) = true := bne_iff_ne.mpr c8
   obtain rfl := Option.some.inj H
   have p311 : 0 ≤ (x13_1 : Int) := of_decide_eq_true ca_
   have q311 : x13_1 < (l0.length : Int) := of_decide_eq_true ca_
   obtain ⟨ad311, e311, hx311_0⟩ := Kd.at_int HR0.out x13_1 p311 q311
   cases e311
   replace p311 := eq_true p311
   replace q311 := eq_true q311
   have p312 : 0 ≤ (x13_1 : Int) := of_decide_eq_true ca_
   have q312 : x13_1 < (l1.length : Int) := of_decide_eq_true ca_
   obtain ⟨ad312, e312, hx312_0⟩ := Kd.at_int HR1.out x13_1 p312 q312
   cases e312
   replace p312 := eq_true p312
   replace q312 := eq_true q312
   go_wp2
   repeat (go_quiet (fail); try go_wp2)
   go_ret
   exact ⟨cs_, cD_⟩

/-! ### impl_sameSets_1: function 47 -/
def impl_sameSets_1.f (k : Nat) (l0_0 : List Int) (a0_1 : Int) (l1_0 : List Int) (a1_1 : Int) : Option (Bool) := if a0_1 = a1_1 then ((slices_Equal_int64_int64.f k l0_0 l1_0).bind fun t315 => (some t315)) else (some false)
theorem impl_sameSets_1.mono : ∀ a0 a1 a2 a3 k, LeO (impl_sameSets_1.f k a0 a1 a2 a3) (impl_sameSets_1.f (k + 1) a0 a1 a2 a3) := by
 intro a0 a1 a2 a3 k
 unfold impl_sameSets_1.f
 repeat' first
   | (with_reducible exact slices_Equal_int64_int64.mono _ _ _)
   | (with_reducible exact LeO.refl _)
   | (with_reducible exact LeO.none _)
   | (with_reducible refine LeO.ite ?_ ?_)
   | (with_reducible refine LeO.bind ?_ (fun _ => ?_))
   | exact slices_Equal_int64_int64.mono _ _ _
   | exact LeO.none _
   | refine LeO.ite ?_ ?_
   | refine LeO.bind ?_ (fun _ => ?_)
set_option maxHeartbeats 8000000 in
set_option maxRecDepth 100000 in
theorem impl_sameSets_1.calls (k : Nat) (A0_0 : Option Addr) (c0_0 : Nat) (l0_0 : List Int) (a0_1 : Int) (A1_0 : Option Addr) (c1_0 : Nat) (l1_0 : List Int) (a1_1 : Int) (r : Bool) (w : World) (hr0_0 : Kd.C (Kd.int .i64) w A0_0 l0_0.length l0_0) (hc0_0 : l0_0.length ≤ c0_0) (hr1_0 : Kd.C (Kd.int .i64) w A1_0 l1_0.length l1_0) (hc1_0 : l1_0.length ≤ c1_0) (h : impl_sameSets_1.f k l0_0 a0_1 l1_0 a1_1 = some r) :
  Calls Tryd.prog 47 #[.agg #[.slice A0_0 l0_0.length c0_0, .int .i64 a0_1], .agg #[.slice A1_0 l1_0.length c1_0, .int .i64 a1_1]] w fun e w' => e = .returned (.bool r) ∧ Below w.heap.size w w' := by
 have hu31 := Tryd.underlying31
 have HR0_0 := Aside0.mk hr0_0
 have HC0_0 := Aside0.mk hc0_0
 clear hr0_0 hc0_0
 have HR1_0 := Aside0.mk hr1_0
 have HC1_0 := Aside0.mk hc1_0
 clear hr1_0 hc1_0
 have HB := Aside0.mk (Below.refl w.heap.size w)
 have H : (if a0_1 = a1_1 then ((slices_Equal_int64_int64.f k l0_0 l1_0).bind fun t315 => (some t315)) else (some false)) = some r := h
 clear h
 by_cases c3 : a0_1 = a1_1
 ·rw [if_pos c3] at H
  have c3b0 : (a0_1 == a1_1) = true := beq_iff_eq.mpr c3
  have c3b1 : (a0_1 != a1_1) = false := bne_eq_false_iff_eq.mpr c3
  clear c3
  obtain ⟨t315, A4, H⟩ := bnd_ H
  try dsimp only at H
  obtain rfl := Option.some.inj H
  go_enter Tryd.func47, Tryd.ntmps47
  go_wp2_with (first | (refine bx_ 2 #[.slice A0_0 l0_0.length c0_0, .int .i64 a0_1] 31 ?_; intro gb313 hg w5 hbox hb; have BK313 := Aside0.mk (hbox); have GW313 := Aside0.mk ((by rw [hg]; exact (below_size cB0_) : w.heap.size ≤ gb313)); have GE313 := Aside0.mk ((by rw [hg]; exact (below_size cB0_) : w.heap.size ≤ gb313)); replace HB := Aside0.mk (below_step cB0_ hb); clear hb hbox hg) | (refine bx_ 3 #[.slice A1_0 l1_0.length c1_0, .int .i64 a1_1] 31 ?_; intro gb314 hg w6 hbox hb; have BK314 := Aside0.mk (hbox); have GW314 := Aside0.mk ((by rw [hg]; exact (below_size (cB1_ GE313.out)) : w.heap.size ≤ gb314)); have GE314 := Aside0.mk ((by rw [hg]; exact (below_size (cB1_ GE313.out)) : w.heap.size ≤ gb314)); replace HB := Aside0.mk (below_step (cB1_ GE313.out) hb); have NB313_314 := Aside0.mk ((by rw [hg]; exact Nat.ne_of_lt (blk_lt (g := gb313) (o := .cells #[.slice A0_0 l0_0.length c0_0, .int .i64 a0_1] 31 (0, 0)) (cO_ BK313.out)) : gb313 ≠ gb314)); have NB314_313 := Aside0.mk ((by rw [hg]; exact Nat.ne_of_gt (blk_lt (g := gb313) (o := .cells #[.slice A0_0 l0_0.length c0_0, .int .i64 a0_1] 31 (0, 0)) (cO_ BK313.out)) : gb314 ≠ gb313)); replace BK313 := Aside0.mk (blk_below (g := gb313) (o := .cells #[.slice A0_0 l0_0.length c0_0, .int .i64 a0_1] 31 (0, 0)) (cO_ BK313.out) hb); clear hb hbox hg; have hnb7 := NB313_314.out; have hnc7 := NB314_313.out; obtain ⟨hcz8_0, hcz8_1, hfz8_0, hfz8_1⟩ := cells2 BK313.out; obtain ⟨hcz9_0, hcz9_1, hfz9_0, hfz9_1⟩ := cells2 BK314.out) | (go_at_call 48; (with_reducible refine (slices_Equal_int64_int64.calls k _ _ l0_0 _ _ l1_0 t315 _ ?side1 ?side2 ?side3 ?side4 A4.out).mono ?_); (case side1 => exact cC_ (Kd.C_below HR0_0.out HB.out)); (case side2 => exact HC0_0.out); (case side3 => exact cC_ (Kd.C_below HR1_0.out HB.out)); (case side4 => exact HC1_0.out); rintro e w' ⟨rfl, ⟨nd, rfl⟩⟩))
  go_ret
  exact ⟨ce_, cB2_ GE313.out GE314.out⟩
 rw [if_neg c3] at H
 have c3b0 : (a0_1 == a1_1) = false := beq_eq_false_iff_ne.mpr c3
 have c3b1 : (a0_1 != a1_1) = true := bne_iff_ne.mpr c3
 obtain rfl := Option.some.inj H
 go_enter Tryd.func47, Tryd.ntmps47
 go_wp2_with (first | (refine bx_ 2 #[.slice A0_0 l0_0.length c0_0, .int .i64 a0_1] 31 ?_; intro gb313 hg w10 hbox hb; have BK313 := Aside0.mk (hbox); have GW313 := Aside0.mk ((by rw [hg]; exact (below_size cB0_) : w.heap.size ≤ gb313)); have GE313 := Aside0.mk ((by rw [hg]; exact (below_size cB0_) : w.heap.size ≤ gb313)); replace HB := Aside0.mk (below_step cB0_ hb); clear hb hbox hg) | (refine bx_ 3 #[.slice A1_0 l1_0.length c1_0, .int .i64 a1_1] 31 ?_; intro gb314 hg w11 hbox hb; have BK314 := Aside0.mk (hbox); have GW314 := Aside0.mk ((by rw [hg]; exact (below_size (cB1_ GE313.out)) : w.heap.size ≤ gb314)); have GE314 := Aside0.mk ((by rw [hg]; exact (below_size (cB1_ GE313.out)) : w.heap.size ≤ gb314)); replace HB := Aside0.mk (below_step (cB1_ GE313.out) hb); have NB313_314 := Aside0.mk ((by rw [hg]; exact Nat.ne_of_lt (blk_lt (g := gb313) (o := .cells #[.slice A0_0 l0_0.length c0_0, .int .i64 a0_1] 31 (0, 0)) (cO_ BK313.out)) : gb313 ≠ gb314)); have NB314_313 := Aside0.mk ((by rw [hg]; exact Nat.ne_of_gt (blk_lt (g := gb313) (o := .cells #[.slice A0_0 l0_0.length c0_0, .int .i64 a0_1] 31 (0, 0)) (cO_ BK313.out)) : gb314 ≠ gb313)); replace BK313 := Aside0.mk (blk_below (g := gb313) (o := .cells #[.slice A0_0 l0_0.length c0_0, .int .i64 a0_1] 31 (0, 0)) (cO_ BK313.out) hb); clear hb hbox hg; have hnb12 := NB313_314.out; have hnc12 := NB314_313.out; obtain ⟨hcz13_0, hcz13_1, hfz13_0, hfz13_1⟩ := cells2 BK313.out; obtain ⟨hcz14_0, hcz14_1, hfz14_0, hfz14_1⟩ := cells2 BK314.out))
 go_ret
 exact ⟨ce_, cB2_ GE313.out GE314.out⟩

/-! ### slices_EqualFunc_impl_sameSets_1: function 46 -/
def slices_EqualFunc_impl_sameSets_1.l0 : Nat → List (S31) → List (S31) → Int → Int → Option (Bool)
 | 0, _, _, _, _ => none
 | k + 1, x1, x15, x16, x17 => if x17 < x16 then (if 0 ≤ x17 then (if x17 < (x15.length : Int) then (if x17 < (x1.length : Int) then ((impl_sameSets_1.f k ((rd_T31 x15 x17).f0) ((rd_T31 x15 x17).f1) ((rd_T31 x1 x17).f0) ((rd_T31 x1 x17).f1)).bind fun t320 => (if t320 = true then (slices_EqualFunc_impl_sameSets_1.l0 k x1 x15 x16 (wrap64 (x17 + 1))) else (some false))) else (none)) else (none)) else (none)) else (some true)
def slices_EqualFunc_impl_sameSets_1.f (k : Nat) (l0 : List (S31)) (l1 : List (S31)) (a2 : Unit) : Option (Bool) := if (l0.length : Int) = (l1.length : Int) then (slices_EqualFunc_impl_sameSets_1.l0 k l1 l0 (l0.length : Int) 0) else (some false)
theorem slices_EqualFunc_impl_sameSets_1.mono_l : ∀ k, (∀ y0 y1 y2 y3, LeO (slices_EqualFunc_impl_sameSets_1.l0 k y0 y1 y2 y3) (slices_EqualFunc_impl_sameSets_1.l0 (k + 1) y0 y1 y2 y3))
 | 0 => fun _ _ _ _ r h => by simp [slices_EqualFunc_impl_sameSets_1.l0] at h
 | k + 1 => by
  have ih0 := slices_EqualFunc_impl_sameSets_1.mono_l k
  ·intro y0 y1 y2 y3
   unfold slices_EqualFunc_impl_sameSets_1.l0
   repeat' first
   | (with_reducible exact ih0 _ _ _ _)
   | (with_reducible exact impl_sameSets_1.mono _ _ _ _ _)
   | (with_reducible exact LeO.refl _)
   | (with_reducible exact LeO.none _)
   | (with_reducible refine LeO.ite ?_ ?_)
   | (with_reducible refine LeO.bind ?_ (fun _ => ?_))
   | exact ih0 _ _ _ _
   | exact impl_sameSets_1.mono _ _ _ _ _
   | exact LeO.none _
   | refine LeO.ite ?_ ?_
   | refine LeO.bind ?_ (fun _ => ?_)
theorem slices_EqualFunc_impl_sameSets_1.mono : ∀ a0 a1 a2 k, LeO (slices_EqualFunc_impl_sameSets_1.f k a0 a1 a2) (slices_EqualFunc_impl_sameSets_1.f (k + 1) a0 a1 a2) := by
 intro a0 a1 a2 k
 have ih0 := slices_EqualFunc_impl_sameSets_1.mono_l k
 unfold slices_EqualFunc_impl_sameSets_1.f
 repeat' first
   | (with_reducible exact ih0 _ _ _ _)
   | (with_reducible exact impl_sameSets_1.mono _ _ _ _ _)
   | (with_reducible exact LeO.refl _)
   | (with_reducible exact LeO.none _)
   | (with_reducible refine LeO.ite ?_ ?_)
   | (with_reducible refine LeO.bind ?_ (fun _ => ?_))
   | exact ih0 _ _ _ _
   | exact impl_sameSets_1.mono _ _ _ _ _
   | exact LeO.none _
   | refine LeO.ite ?_ ?_
   | refine LeO.bind ?_ (fun _ => ?_)
set_option maxHeartbeats 8000000 in
set_option maxRecDepth 100000 in
theorem slices_EqualFunc_impl_sameSets_1.calls (k : Nat) (A0 : Option Addr) (c0 : Nat) (l0 : List (S31)) (A1 : Option Addr) (c1 : Nat) (l1 : List (S31)) (a2 : Unit) (r : Bool) (w : World) (hr0 : Kd.C k31 w A0 l0.length l0) (hc0 : l0.length ≤ c0) (hr1 : Kd.C k31 w A1 l1.length l1) (hc1 : l1.length ≤ c1) (h : slices_EqualFunc_impl_sameSets_1.f k l0 l1 a2 = some r) :
  Calls Tryd.prog 46 #[.slice A0 l0.length c0, .slice A1 l1.length c1, .func (.func 47) #[] #[]] w fun e w' => e = .returned (.bool r) ∧ Below w.heap.size w w' := by
 have hu31 := Tryd.underlying31
 have HR0 := Aside0.mk hr0
 have HC0 := Aside0.mk hc0
 clear hr0 hc0
 have HR1 := Aside0.mk hr1
 have HC1 := Aside0.mk hc1
 clear hr1 hc1
 have HB := Aside0.mk (Below.refl w.heap.size w)
 have H : (if (l0.length : Int) = (l1.length : Int) then (slices_EqualFunc_impl_sameSets_1.l0 k l1 l0 (l0.length : Int) 0) else (some false)) = some r := h
 clear h
 by_cases c4 : (l0.length : Int) = (l1.length : Int)
 rotate_left
 ·rw [if_neg c4] at H
  have c4b0 : ((l0.length : Int) == (l1.length : Int)) = false := beq_eq_false_iff_ne.mpr c4
  have c4b1 : ((l0.length : Int) != (l1.length : Int)) = true := bne_iff_ne.mpr c4
  have c4b2 : (l0.length == l1.length) = false := by first | simpa using c4 | (simp at c4 ⊢; omega)
  obtain rfl := Option.some.inj H
  go_enter Tryd.func46, Tryd.ntmps46
  go_wp2
  go_ret
  exact ⟨ce_, cB0_⟩
 rw [if_pos c4] at H
 have c4b0 : ((l0.length : Int) == (l1.length : Int)) = true := beq_iff_eq.mpr c4
 have c4b1 : ((l0.length : Int) != (l1.length : Int)) = false := bne_eq_false_iff_eq.mpr c4
 have c4b2 : (l0.length == l1.length) = true := by first | simpa using c4 | (simp at c4 ⊢; omega)
 clear c4
 have H' := Aside0.mk H
 clear H
 go_enter Tryd.func46, Tryd.ntmps46
 go_wp2
 go_loopg [17] k (fun kq v17 w' => ∃ (x17_1 : Int), v17 = .int .i64 x17_1 ∧ Aside0 (slices_EqualFunc_impl_sameSets_1.l0 kq l1 l0 (l0.length : Int) x17_1 = some r) ∧ Aside0 (kq ≤ k) ∧ Aside0 (Below w.heap.size w w'))
 case atStart => exact ⟨(0), cs_, H', ⟨Nat.le_refl _⟩, ⟨cB0_⟩⟩
 case round =>
  clear H'
  try clear c1
  try clear p2
  try clear c4
  try clear c4b0
  try clear c4b1
  try clear c4b2
  obtain ⟨x17_1, rfl, HA, HK1, HB⟩ := hrel
  cases gk with
  | zero => exact absurd HA.out (by simp [slices_EqualFunc_impl_sameSets_1.l0])
  | succ k1 =>
   have H := HA.out
   clear HA
   simp only [slices_EqualFunc_impl_sameSets_1.l0] at H
   by_cases c5 : x17_1 < (l0.length : Int)
   rotate_left
   ·rw [if_neg c5] at H
    have c5b0 : decide (x17_1 < (l0.length : Int)) = false := decide_eq_false c5
    clear c5
    obtain rfl := Option.some.inj H
    go_wp2
    go_ret
    exact ⟨ce_, cB0_⟩
   rw [if_pos c5] at H
   have c5b0 : decide (x17_1 < (l0.length : Int)) = true := decide_eq_true c5
   clear c5
   by_cases c6 : 0 ≤ x17_1
   rotate_left
   ·rw [if_neg c6] at H
    exact absurd H (by simp)
   rw [if_pos c6] at H
   have c6b0 : decide (0 ≤ x17_1) = true := decide_eq_true c6
   clear c6
   by_cases c7 : x17_1 < (l0.length : Int)
   rotate_left
   ·rw [if_neg c7] at H
    exact absurd H (by simp)
   rw [if_pos c7] at H
   have c7b0 : decide (x17_1 < (l0.length : Int)) = true := decide_eq_true c7
   clear c7
   by_cases c8 : x17_1 < (l1.length : Int)
   rotate_left
   ·rw [if_neg c8] at H
    exact absurd H (by simp)
   rw [if_pos c8] at H
   have c8b0 : decide (x17_1 < (l1.length : Int)) = true := decide_eq_true c8
   clear c8
   obtain ⟨t320, A9, H⟩ := bnd_ H
   try dsimp only at H
   by_cases c10 : t320 = true
   ·subst c10
    rw [if_pos rfl] at H
    have H' := Aside0.mk H
    clear H
    have p316 : 0 ≤ (x17_1 : Int) := of_decide_eq_true ca_
    have q316 : x17_1 < (l0.length : Int) := of_decide_eq_true ca_
    obtain ⟨ad316, A316_0, c316_0, e316, hx316_0, hx316_1, hl316_0, hi316_0⟩ := at_T31 HR0.out x17_1 p316 q316
    cases e316
    replace hx316_0 := (HB.out.cell (World.block_lt_of_cell? w _ hx316_0)).trans hx316_0
    replace hx316_1 := (HB.out.cell (World.block_lt_of_cell? w _ hx316_1)).trans hx316_1
    have HR316_0 := Aside0.mk hi316_0
    have HC316_0 := Aside0.mk hl316_0
    clear hi316_0 hl316_0
    replace p316 := eq_true p316
    replace q316 := eq_true q316
    go_wp2_with (first | (refine bx_ 8 #[.slice none 0 0, .int .i64 0] 31 ?_; intro gb317 hg w11 hbox hb; have BK317 := Aside0.mk (hbox); have GW317 := Aside0.mk ((by rw [hg]; exact (below_size cB0_) : w.heap.size ≤ gb317)); have GE317 := Aside0.mk ((by rw [hg]; exact (below_size cB0_) : w.heap.size ≤ gb317)); replace HB := Aside0.mk (below_step cB0_ hb); clear hb hbox hg; obtain ⟨hcz12_0, hcz12_1, hfz12_0, hfz12_1⟩ := cells2 BK317.out; have p318 : 0 ≤ (x17_1 : Int) := of_decide_eq_true ca_; have q318 : x17_1 < (l1.length : Int) := of_decide_eq_true ca_; obtain ⟨ad318, A318_0, c318_0, e318, hx318_0, hx318_1, hl318_0, hi318_0⟩ := at_T31 HR1.out x17_1 p318 q318; cases e318; have hn318_0 : ad318.block ≠ gb317 := Nat.ne_of_lt (Nat.lt_of_lt_of_le (by have := World.block_lt_of_cell? _ _ hx318_0; first | rwa [add_block] at this | exact this) GW317.out); have hn318_1 : ad318.block ≠ gb317 := Nat.ne_of_lt (Nat.lt_of_lt_of_le (by have := World.block_lt_of_cell? _ _ hx318_0; first | rwa [add_block] at this | exact this) GW317.out); replace hx318_0 := (HB.out.cell (World.block_lt_of_cell? w _ hx318_0)).trans hx318_0; replace hx318_1 := (HB.out.cell (World.block_lt_of_cell? w _ hx318_1)).trans hx318_1; have HR318_0 := Aside0.mk hi318_0; have HC318_0 := Aside0.mk hl318_0; clear hi318_0 hl318_0; replace hx318_0 := (cell_far (p := ⟨gb317, 0, none⟩) (by first | (rw [add_block]; exact hn318_0) | (show (Addr.add _ _).block ≠ _; rw [add_block]; exact hn318_0) | exact hn318_0) (.slice A316_0 ((rd_T31 l0 x17_1).f0).length c316_0)).trans hx318_0; replace hx318_1 := (cell_far (p := ⟨gb317, 0, none⟩) (by first | (rw [add_block]; exact hn318_0) | (show (Addr.add _ _).block ≠ _; rw [add_block]; exact hn318_0) | exact hn318_0) (.slice A316_0 ((rd_T31 l0 x17_1).f0).length c316_0)).trans hx318_1; replace hx318_0 := (cell_far (p := ⟨gb317, 1, none⟩) (by first | (rw [add_block]; exact hn318_1) | (show (Addr.add _ _).block ≠ _; rw [add_block]; exact hn318_1) | exact hn318_1) (.int .i64 ((rd_T31 l0 x17_1).f1))).trans hx318_0; replace hx318_1 := (cell_far (p := ⟨gb317, 1, none⟩) (by first | (rw [add_block]; exact hn318_1) | (show (Addr.add _ _).block ≠ _; rw [add_block]; exact hn318_1) | exact hn318_1) (.int .i64 ((rd_T31 l0 x17_1).f1))).trans hx318_1; clear hn318_0; clear hn318_1; replace p318 := eq_true p318; replace q318 := eq_true q318) | (refine bx_ 9 #[.slice none 0 0, .int .i64 0] 31 ?_; intro gb319 hg w13 hbox hb; have BK319 := Aside0.mk (hbox); have GW319 := Aside0.mk ((by rw [hg]; exact (below_size (cB1_ GE317.out)) : w.heap.size ≤ gb319)); have GE319 := Aside0.mk ((by rw [hg]; exact (below_size (cB1_ GE317.out)) : w.heap.size ≤ gb319)); replace HB := Aside0.mk (below_step (cB1_ GE317.out) hb); have NB317_319 := Aside0.mk ((by rw [hg]; exact Nat.ne_of_lt (blk_lt (g := gb317) (o := .cells #[.slice A316_0 ((rd_T31 l0 x17_1).f0).length c316_0, .int .i64 ((rd_T31 l0 x17_1).f1)] 31 (0, 0)) b9_2) : gb317 ≠ gb319)); have NB319_317 := Aside0.mk ((by rw [hg]; exact Nat.ne_of_gt (blk_lt (g := gb317) (o := .cells #[.slice A316_0 ((rd_T31 l0 x17_1).f0).length c316_0, .int .i64 ((rd_T31 l0 x17_1).f1)] 31 (0, 0)) b9_2) : gb319 ≠ gb317)); replace BK317 := Aside0.mk (blk_below (g := gb317) (o := .cells #[.slice A316_0 ((rd_T31 l0 x17_1).f0).length c316_0, .int .i64 ((rd_T31 l0 x17_1).f1)] 31 (0, 0)) b9_2 hb); clear hb hbox hg; have hnb14 := NB319_317.out; have hnc14 := NB317_319.out; obtain ⟨hcz15_0, hcz15_1, hfz15_0, hfz15_1⟩ := cells2 BK319.out; obtain ⟨hcz16_0, hcz16_1, hfz16_0, hfz16_1⟩ := cells2 BK317.out) | ((refine gate_fn_ (f := 47) (by with_reducible rfl) (by rfl) ?_); refine goesF_ (some 29) rfl rfl Tryd.func47 (by kernel_rfl) rfl #[.agg #[.slice A316_0 ((rd_T31 l0 x17_1).f0).length c316_0, .int .i64 ((rd_T31 l0 x17_1).f1)], .agg #[.slice A318_0 ((rd_T31 l1 x17_1).f0).length c318_0, .int .i64 ((rd_T31 l1 x17_1).f1)]] rfl (by rfl) cx_ ?_; (with_reducible refine (impl_sameSets_1.calls k1 _ _ ((rd_T31 l0 x17_1).f0) ((rd_T31 l0 x17_1).f1) _ _ ((rd_T31 l1 x17_1).f0) ((rd_T31 l1 x17_1).f1) true _ ?side1 ?side2 ?side3 ?side4 A9.out).mono ?_); (case side1 => exact (by exact Kd.C_below HR316_0.out b9_8)); (case side2 => exact HC316_0.out); (case side3 => exact (by exact Kd.C_below HR318_0.out b9_8)); (case side4 => exact HC318_0.out); rintro e w17 ⟨rfl, hb⟩; refine ⟨_, rfl, ?_⟩; replace BK317 := Aside0.mk (blk_below (g := gb317) (o := .cells #[.slice A316_0 ((rd_T31 l0 x17_1).f0).length c316_0, .int .i64 ((rd_T31 l0 x17_1).f1)] 31 (0, 0)) (by refine cO_ ?_; refine blk_far ?_ NB317_319.out _; refine cO_ ?_; refine blk_far ?_ NB317_319.out _; refine cO_ ?_; exact BK317.out) hb); replace BK319 := Aside0.mk (blk_below (g := gb319) (o := .cells #[.slice A318_0 ((rd_T31 l1 x17_1).f0).length c318_0, .int .i64 ((rd_T31 l1 x17_1).f1)] 31 (0, 0)) (by refine cO_ ?_; refine blk_put (cs := #[.slice A318_0 ((rd_T31 l1 x17_1).f0).length c318_0, .int .i64 0]) ?_ 1 _ rfl; refine cO_ ?_; refine blk_put (cs := #[.slice none 0 0, .int .i64 0]) ?_ 0 _ rfl; refine cO_ ?_; exact BK319.out) hb); replace HB := Aside0.mk (below_step b9_8 hb); (try clear hb); (try clear hb2); (try clear hk); (try clear hi)))
    go_roundg k1
    case measure => have := HK1.out; omega
    case rel => exact ⟨(wrap64 (x17_1 + 1)), cs_, H', ⟨co_ HK1.out⟩, ⟨cB2_ GE317.out GE319.out⟩⟩
   replace c10 := Bool.eq_false_iff.mpr c10
   subst c10
   rw [if_neg (show ¬ (false = true) by decide)] at H
   obtain rfl := Option.some.inj H
   have p316 : 0 ≤ (x17_1 : Int) := of_decide_eq_true ca_
   have q316 : x17_1 < (l0.length : Int) := of_decide_eq_true ca_
   obtain ⟨ad316, A316_0, c316_0, e316, hx316_0, hx316_1, hl316_0, hi316_0⟩ := at_T31 HR0.out x17_1 p316 q316
   cases e316
   replace hx316_0 := (HB.out.cell (World.block_lt_of_cell? w _ hx316_0)).trans hx316_0
   replace hx316_1 := (HB.out.cell (World.block_lt_of_cell? w _ hx316_1)).trans hx316_1
   have HR316_0 := Aside0.mk hi316_0
   have HC316_0 := Aside0.mk hl316_0
   clear hi316_0 hl316_0
   replace p316 := eq_true p316
   replace q316 := eq_true q316
   go_wp2_with (first | (refine bx_ 8 #[.slice none 0 0, .int .i64 0] 31 ?_; intro gb317 hg w18 hbox hb; have BK317 := Aside0.mk (hbox); have GW317 := Aside0.mk ((by rw [hg]; exact (below_size cB0_) : w.heap.size ≤ gb317)); have GE317 := Aside0.mk ((by rw [hg]; exact (below_size cB0_) : w.heap.size ≤ gb317)); replace HB := Aside0.mk (below_step cB0_ hb); clear hb hbox hg; obtain ⟨hcz19_0, hcz19_1, hfz19_0, hfz19_1⟩ := cells2 BK317.out; have p318 : 0 ≤ (x17_1 : Int) := of_decide_eq_true ca_; have q318 : x17_1 < (l1.length : Int) := of_decide_eq_true ca_; obtain ⟨ad318, A318_0, c318_0, e318, hx318_0, hx318_1, hl318_0, hi318_0⟩ := at_T31 HR1.out x17_1 p318 q318; cases e318; have hn318_0 : ad318.block ≠ gb317 := Nat.ne_of_lt (Nat.lt_of_lt_of_le (by have := World.block_lt_of_cell? _ _ hx318_0; first | rwa [add_block] at this | exact this) GW317.out); have hn318_1 : ad318.block ≠ gb317 := Nat.ne_of_lt (Nat.lt_of_lt_of_le (by have := World.block_lt_of_cell? _ _ hx318_0; first | rwa [add_block] at this | exact this) GW317.out); replace hx318_0 := (HB.out.cell (World.block_lt_of_cell? w _ hx318_0)).trans hx318_0; replace hx318_1 := (HB.out.cell (World.block_lt_of_cell? w _ hx318_1)).trans hx318_1; have HR318_0 := Aside0.mk hi318_0; have HC318_0 := Aside0.mk hl318_0; clear hi318_0 hl318_0; replace hx318_0 := (cell_far (p := ⟨gb317, 0, none⟩) (by first | (rw [add_block]; exact hn318_0) | (show (Addr.add _ _).block ≠ _; rw [add_block]; exact hn318_0) | exact hn318_0) (.slice A316_0 ((rd_T31 l0 x17_1).f0).length c316_0)).trans hx318_0; replace hx318_1 := (cell_far (p := ⟨gb317, 0, none⟩) (by first | (rw [add_block]; exact hn318_0) | (show (Addr.add _ _).block ≠ _; rw [add_block]; exact hn318_0) | exact hn318_0) (.slice A316_0 ((rd_T31 l0 x17_1).f0).length c316_0)).trans hx318_1; replace hx318_0 := (cell_far (p := ⟨gb317, 1, none⟩) (by first | (rw [add_block]; exact hn318_1) | (show (Addr.add _ _).block ≠ _; rw [add_block]; exact hn318_1) | exact hn318_1) (.int .i64 ((rd_T31 l0 x17_1).f1))).trans hx318_0; replace hx318_1 := (cell_far (p := ⟨gb317, 1, none⟩) (by first | (rw [add_block]; exact hn318_1) | (show (Addr.add _ _).block ≠ _; rw [add_block]; exact hn318_1) | exact hn318_1) (.int .i64 ((rd_T31 l0 x17_1).f1))).trans hx318_1; clear hn318_0; clear hn318_1; replace p318 := eq_true p318; replace q318 := eq_true q318) | (refine bx_ 9 #[.slice none 0 0, .int .i64 0] 31 ?_; intro gb319 hg w20 hbox hb; have BK319 := Aside0.mk (hbox); have GW319 := Aside0.mk ((by rw [hg]; exact (below_size (cB1_ GE317.out)) : w.heap.size ≤ gb319)); have GE319 := Aside0.mk ((by rw [hg]; exact (below_size (cB1_ GE317.out)) : w.heap.size ≤ gb319)); replace HB := Aside0.mk (below_step (cB1_ GE317.out) hb); have NB317_319 := Aside0.mk ((by rw [hg]; exact Nat.ne_of_lt (blk_lt (g := gb317) (o := .cells #[.slice A316_0 ((rd_T31 l0 x17_1).f0).length c316_0, .int .i64 ((rd_T31 l0 x17_1).f1)] 31 (0, 0)) b9_2) : gb317 ≠ gb319)); have NB319_317 := Aside0.mk ((by rw [hg]; exact Nat.ne_of_gt (blk_lt (g := gb317) (o := .cells #[.slice A316_0 ((rd_T31 l0 x17_1).f0).length c316_0, .int .i64 ((rd_T31 l0 x17_1).f1)] 31 (0, 0)) b9_2) : gb319 ≠ gb317)); replace BK317 := Aside0.mk (blk_below (g := gb317) (o := .cells #[.slice A316_0 ((rd_T31 l0 x17_1).f0).length c316_0, .int .i64 ((rd_T31 l0 x17_1).f1)] 31 (0, 0)) b9_2 hb); clear hb hbox hg; have hnb21 := NB319_317.out; have hnc21 := NB317_319.out; obtain ⟨hcz22_0, hcz22_1, hfz22_0, hfz22_1⟩ := cells2 BK319.out; obtain ⟨hcz23_0, hcz23_1, hfz23_0, hfz23_1⟩ := cells2 BK317.out) | ((refine gate_fn_ (f := 47) (by with_reducible rfl) (by rfl) ?_); refine goesF_ (some 29) rfl rfl Tryd.func47 (by kernel_rfl) rfl #[.agg #[.slice A316_0 ((rd_T31 l0 x17_1).f0).length c316_0, .int .i64 ((rd_T31 l0 x17_1).f1)], .agg #[.slice A318_0 ((rd_T31 l1 x17_1).f0).length c318_0, .int .i64 ((rd_T31 l1 x17_1).f1)]] rfl (by rfl) cx_ ?_; (with_reducible refine (impl_sameSets_1.calls k1 _ _ ((rd_T31 l0 x17_1).f0) ((rd_T31 l0 x17_1).f1) _ _ ((rd_T31 l1 x17_1).f0) ((rd_T31 l1 x17_1).f1) false _ ?side1 ?side2 ?side3 ?side4 A9.out).mono ?_); (case side1 => exact (by exact Kd.C_below HR316_0.out b9_8)); (case side2 => exact HC316_0.out); (case side3 => exact (by exact Kd.C_below HR318_0.out b9_8)); (case side4 => exact HC318_0.out); rintro e w24 ⟨rfl, hb⟩; refine ⟨_, rfl, ?_⟩; replace BK317 := Aside0.mk (blk_below (g := gb317) (o := .cells #[.slice A316_0 ((rd_T31 l0 x17_1).f0).length c316_0, .int .i64 ((rd_T31 l0 x17_1).f1)] 31 (0, 0)) (by refine cO_ ?_; refine blk_far ?_ NB317_319.out _; refine cO_ ?_; refine blk_far ?_ NB317_319.out _; refine cO_ ?_; exact BK317.out) hb); replace BK319 := Aside0.mk (blk_below (g := gb319) (o := .cells #[.slice A318_0 ((rd_T31 l1 x17_1).f0).length c318_0, .int .i64 ((rd_T31 l1 x17_1).f1)] 31 (0, 0)) (by refine cO_ ?_; refine blk_put (cs := #[.slice A318_0 ((rd_T31 l1 x17_1).f0).length c318_0, .int .i64 0]) ?_ 1 _ rfl; refine cO_ ?_; refine blk_put (cs := #[.slice none 0 0, .int .i64 0]) ?_ 0 _ rfl; refine cO_ ?_; exact BK319.out) hb); replace HB := Aside0.mk (below_step b9_8 hb); (try clear hb); (try clear hb2); (try clear hk); (try clear hi)))
   go_ret
   exact ⟨ce_, cB2_ GE317.out GE319.out⟩

/-! ### impl_sameSets: function 27 -/
def impl_sameSets.f (k : Nat) (l0 : List (S31)) (l1 : List (S31)) : Option (Bool) := (slices_EqualFunc_impl_sameSets_1.f k l0 l1 ()).bind fun t321 => (some t321)
theorem impl_sameSets.mono : ∀ a0 a1 k, LeO (impl_sameSets.f k a0 a1) (impl_sameSets.f (k + 1) a0 a1) := by
 intro a0 a1 k
 unfold impl_sameSets.f
 repeat' first
   | (with_reducible exact slices_EqualFunc_impl_sameSets_1.mono _ _ _ _)
   | (with_reducible exact LeO.refl _)
   | (with_reducible exact LeO.none _)
   | (with_reducible refine LeO.ite ?_ ?_)
   | (with_reducible refine LeO.bind ?_ (fun _ => ?_))
   | exact slices_EqualFunc_impl_sameSets_1.mono _ _ _ _
   | exact LeO.none _
   | refine LeO.ite ?_ ?_
   | refine LeO.bind ?_ (fun _ => ?_)
set_option maxHeartbeats 8000000 in
set_option maxRecDepth 100000 in
theorem impl_sameSets.calls (k : Nat) (A0 : Option Addr) (c0 : Nat) (l0 : List (S31)) (A1 : Option Addr) (c1 : Nat) (l1 : List (S31)) (r : Bool) (w : World) (hr0 : Kd.C k31 w A0 l0.length l0) (hc0 : l0.length ≤ c0) (hr1 : Kd.C k31 w A1 l1.length l1) (hc1 : l1.length ≤ c1) (h : impl_sameSets.f k l0 l1 = some r) :
  Calls Tryd.prog 27 #[.slice A0 l0.length c0, .slice A1 l1.length c1] w fun e w' => e = .returned (.bool r) ∧ Below w.heap.size w w' := by
 have HR0 := Aside0.mk hr0
 have HC0 := Aside0.mk hc0
 clear hr0 hc0
 have HR1 := Aside0.mk hr1
 have HC1 := Aside0.mk hc1
 clear hr1 hc1
 have HB := Aside0.mk (Below.refl w.heap.size w)
 have H : ((slices_EqualFunc_impl_sameSets_1.f k l0 l1 ()).bind fun t321 => (some t321)) = some r := h
 clear h
 obtain ⟨t321, A3, H⟩ := bnd_ H
 try dsimp only at H
 obtain rfl := Option.some.inj H
 go_enter Tryd.func27, Tryd.ntmps27
 go_wp2_with (first | (refine gl_ 46 (some 7) Tryd.func46 #[.slice A0 l0.length c0, .slice A1 l1.length c1, .func (.func 47) #[] #[]] ?_; (with_reducible refine (slices_EqualFunc_impl_sameSets_1.calls k _ _ l0 _ _ l1 () t321 _ ?side1 ?side2 ?side3 ?side4 A3.out).mono ?_); (case side1 => exact cC_ HR0.out); (case side2 => exact HC0.out); (case side3 => exact cC_ HR1.out); (case side4 => exact HC1.out); rintro e w4 ⟨rfl, hb⟩; refine ⟨_, rfl, ?_⟩; replace HB := Aside0.mk (below_step cB0_ hb); (try clear hb); (try clear hb2); (try clear hk); (try clear hi)))
 go_ret
 exact ⟨ce_, cB0_⟩

/-! ### impl_SameSets: function 10 -/
def impl_SameSets.f (k : Nat) (l0 : List (S31)) (l1 : List (S31)) : Option (Bool) := (impl_sameSets.f k l0 l1).bind fun t322 => (some t322)
theorem impl_SameSets.mono : ∀ a0 a1 k, LeO (impl_SameSets.f k a0 a1) (impl_SameSets.f (k + 1) a0 a1) := by
 intro a0 a1 k
 unfold impl_SameSets.f
 repeat' first
   | (with_reducible exact impl_sameSets.mono _ _ _)
   | (with_reducible exact LeO.refl _)
   | (with_reducible exact LeO.none _)
   | (with_reducible refine LeO.ite ?_ ?_)
   | (with_reducible refine LeO.bind ?_ (fun _ => ?_))
   | exact impl_sameSets.mono _ _ _
   | exact LeO.none _
   | refine LeO.ite ?_ ?_
   | refine LeO.bind ?_ (fun _ => ?_)
set_option maxHeartbeats 8000000 in
set_option maxRecDepth 100000 in
theorem impl_SameSets.calls (k : Nat) (A0 : Option Addr) (c0 : Nat) (l0 : List (S31)) (A1 : Option Addr) (c1 : Nat) (l1 : List (S31)) (r : Bool) (w : World) (hr0 : Kd.C k31 w A0 l0.length l0) (hc0 : l0.length ≤ c0) (hr1 : Kd.C k31 w A1 l1.length l1) (hc1 : l1.length ≤ c1) (h : impl_SameSets.f k l0 l1 = some r) :
  Calls Tryd.prog 10 #[.slice A0 l0.length c0, .slice A1 l1.length c1] w fun e w' => e = .returned (.bool r) ∧ Below w.heap.size w w' := by
 have HR0 := Aside0.mk hr0
 have HC0 := Aside0.mk hc0
 clear hr0 hc0
 have HR1 := Aside0.mk hr1
 have HC1 := Aside0.mk hc1
 clear hr1 hc1
 have HB := Aside0.mk (Below.refl w.heap.size w)
 have H : ((impl_sameSets.f k l0 l1).bind fun t322 => (some t322)) = some r := h
 clear h
 obtain ⟨t322, A3, H⟩ := bnd_ H
 try dsimp only at H
 obtain rfl := Option.some.inj H
 go_enter Tryd.func10, Tryd.ntmps10
 go_wp2_with (first | (refine gl_ 27 (some 7) Tryd.func27 #[.slice A0 l0.length c0, .slice A1 l1.length c1] ?_; (with_reducible refine (impl_sameSets.calls k _ _ l0 _ _ l1 t322 _ ?side1 ?side2 ?side3 ?side4 A3.out).mono ?_); (case side1 => exact cC_ HR0.out); (case side2 => exact HC0.out); (case side3 => exact cC_ HR1.out); (case side4 => exact HC1.out); rintro e w4 ⟨rfl, hb⟩; refine ⟨_, rfl, ?_⟩; replace HB := Aside0.mk (below_step cB0_ hb); (try clear hb); (try clear hb2); (try clear hk); (try clear hi)))
 go_ret
 exact ⟨ce_, cB0_⟩

/-! ### impl_TotalWeight: function 11 -/
def impl_TotalWeight.l0 : Nat → Int → List (S31) → Int → Int → Option (Int × Int)
 | 0, _, _, _, _ => none
 | k + 1, x4, x13, x14, x15 => if x15 < x14 then (if 0 ≤ x15 then (if x15 < (x13.length : Int) then (impl_TotalWeight.l0 k (wrap64 (x4 + ((rd_T31 x13 x15).f1))) x13 x14 (wrap64 (x15 + 1))) else (none)) else (none)) else (some (0, x4))
def impl_TotalWeight.f (k : Nat) (l0 : List (S31)) : Option (Int × Int) := (impl_SetFault.f k l0).bind fun t324 => (if t324 = 0 then (impl_TotalWeight.l0 k 0 l0 (l0.length : Int) 0) else (some (t324, 0)))
theorem impl_TotalWeight.mono_l : ∀ k, (∀ y0 y1 y2 y3, LeO (impl_TotalWeight.l0 k y0 y1 y2 y3) (impl_TotalWeight.l0 (k + 1) y0 y1 y2 y3))
 | 0 => fun _ _ _ _ r h => by simp [impl_TotalWeight.l0] at h
 | k + 1 => by
  have ih0 := impl_TotalWeight.mono_l k
  ·intro y0 y1 y2 y3
   unfold impl_TotalWeight.l0
   repeat' first
   | (with_reducible exact ih0 _ _ _ _)
   | (with_reducible exact impl_SetFault.mono _ _)
   | (with_reducible exact LeO.refl _)
   | (with_reducible exact LeO.none _)
   | (with_reducible refine LeO.ite ?_ ?_)
   | (with_reducible refine LeO.bind ?_ (fun _ => ?_))
   | exact ih0 _ _ _ _
   | exact impl_SetFault.mono _ _
   | exact LeO.none _
   | refine LeO.ite ?_ ?_
   | refine LeO.bind ?_ (fun _ => ?_)
theorem impl_TotalWeight.mono : ∀ a0 k, LeO (impl_TotalWeight.f k a0) (impl_TotalWeight.f (k + 1) a0) := by
 intro a0 k
 have ih0 := impl_TotalWeight.mono_l k
 unfold impl_TotalWeight.f
 repeat' first
   | (with_reducible exact ih0 _ _ _ _)
   | (with_reducible exact impl_SetFault.mono _ _)
   | (with_reducible exact LeO.refl _)
   | (with_reducible exact LeO.none _)
   | (with_reducible refine LeO.ite ?_ ?_)
   | (with_reducible refine LeO.bind ?_ (fun _ => ?_))
   | exact ih0 _ _ _ _
   | exact impl_SetFault.mono _ _
   | exact LeO.none _
   | refine LeO.ite ?_ ?_
   | refine LeO.bind ?_ (fun _ => ?_)
set_option maxHeartbeats 8000000 in
set_option maxRecDepth 100000 in
theorem impl_TotalWeight.calls (k : Nat) (A0 : Option Addr) (c0 : Nat) (l0 : List (S31)) (r1 : Int) (r2 : Int) (w : World) (hr0 : Kd.C k31 w A0 l0.length l0) (hc0 : l0.length ≤ c0) (h : impl_TotalWeight.f k l0 = some (r1, r2)) :
  Calls Tryd.prog 11 #[.slice A0 l0.length c0] w fun e w' => e = .returned (.agg #[.int .i64 r1, .int .i64 r2]) ∧ Below w.heap.size w w' := by
 have hu36 := Tryd.underlying36
 have hu31 := Tryd.underlying31
 have HR0 := Aside0.mk hr0
 have HC0 := Aside0.mk hc0
 clear hr0 hc0
 have HB := Aside0.mk (Below.refl w.heap.size w)
 have H : ((impl_SetFault.f k l0).bind fun t324 => (if t324 = 0 then (impl_TotalWeight.l0 k 0 l0 (l0.length : Int) 0) else (some (t324, 0)))) = some (r1, r2) := h
 clear h
 obtain ⟨t324, A2, H⟩ := bnd_ H
 try dsimp only at H
 by_cases c3 : t324 = 0
 rotate_left
 ·rw [if_neg c3] at H
  have c3b0 : (t324 == 0) = false := beq_eq_false_iff_ne.mpr c3
  have c3b1 : (t324 != 0) = true := bne_iff_ne.mpr c3
  simp only [Option.some.injEq, Prod.mk.injEq] at H
  obtain ⟨rfl, rfl⟩ := H
  go_enter Tryd.func11, Tryd.ntmps11
  go_wp2_with (first | (refine bx_ 2 #[.int .i64 0, .int .i64 0] 36 ?_; intro gb323 hg w13 hbox hb; have BK323 := Aside0.mk (hbox); have GW323 := Aside0.mk ((by rw [hg]; exact (below_size cB0_) : w.heap.size ≤ gb323)); have GE323 := Aside0.mk ((by rw [hg]; exact (below_size cB0_) : w.heap.size ≤ gb323)); replace HB := Aside0.mk (below_step cB0_ hb); clear hb hbox hg) | (refine gl_ 9 (some 8) Tryd.func9 #[.slice A0 l0.length c0] ?_; (with_reducible refine (impl_SetFault.calls k _ _ l0 t324 _ ?side1 ?side2 A2.out).mono ?_); (case side1 => exact b9_4); (case side2 => exact HC0.out); rintro e w14 ⟨rfl, hb⟩; refine ⟨_, rfl, ?_⟩; replace BK323 := Aside0.mk (blk_below (g := gb323) (o := .cells #[.int .i64 0, .int .i64 0] 36 (0, 0)) (cO_ BK323.out) hb); replace HB := Aside0.mk (below_step (cB1_ GE323.out) hb); (try clear hb); (try clear hb2); (try clear hk); (try clear hi); obtain ⟨hcz15_0, hcz15_1, hfz15_0, hfz15_1⟩ := cells2 BK323.out))
  refine bodyPost_ret (results_cell_row rfl _ _ gb323 36 #[.int .i64 t324, .int .i64 0] (0, 0) _ rfl (by refine cO_ ?_; refine blk_put (cs := #[.int .i64 t324, .int .i64 0]) ?_ 1 _ rfl; refine cO_ ?_; refine blk_put (cs := #[.int .i64 0, .int .i64 0]) ?_ 0 _ rfl; refine cO_ ?_; exact BK323.out) Tryd.underlying36 rfl (by kernel_rfl)) rfl ?_
  exact ⟨ce_, cB1_ GE323.out⟩
 rw [if_pos c3] at H
 have c3b0 : (t324 == 0) = true := beq_iff_eq.mpr c3
 have c3b1 : (t324 != 0) = false := bne_eq_false_iff_eq.mpr c3
 clear c3
 have H' := Aside0.mk H
 clear H
 go_enter Tryd.func11, Tryd.ntmps11
 go_wp2_with (first | (refine bx_ 2 #[.int .i64 0, .int .i64 0] 36 ?_; intro gb323 hg w4 hbox hb; have BK323 := Aside0.mk (hbox); have GW323 := Aside0.mk ((by rw [hg]; exact (below_size cB0_) : w.heap.size ≤ gb323)); have GE323 := Aside0.mk ((by rw [hg]; exact (below_size cB0_) : w.heap.size ≤ gb323)); replace HB := Aside0.mk (below_step cB0_ hb); clear hb hbox hg) | (refine gl_ 9 (some 8) Tryd.func9 #[.slice A0 l0.length c0] ?_; (with_reducible refine (impl_SetFault.calls k _ _ l0 t324 _ ?side1 ?side2 A2.out).mono ?_); (case side1 => exact b9_4); (case side2 => exact HC0.out); rintro e w5 ⟨rfl, hb⟩; refine ⟨_, rfl, ?_⟩; replace BK323 := Aside0.mk (blk_below (g := gb323) (o := .cells #[.int .i64 0, .int .i64 0] 36 (0, 0)) (cO_ BK323.out) hb); replace HB := Aside0.mk (below_step (cB1_ GE323.out) hb); (try clear hb); (try clear hb2); (try clear hk); (try clear hi)))
 go_loopg [4, 15] k (fun kq v4 v15 w' => ∃ (x4_1 : Int) (x15_1 : Int), v4 = .int .i64 x4_1 ∧ v15 = .int .i64 x15_1 ∧ Aside0 (impl_TotalWeight.l0 kq x4_1 l0 (l0.length : Int) x15_1 = some (r1, r2)) ∧ Aside0 (kq ≤ k) ∧ Aside0 (w'.heap[gb323]? = some (.cells #[.int .i64 0, .int .i64 0] 36 (0, 0))) ∧ Aside0 (Below w.heap.size w w'))
 case atStart => exact ⟨(0), (0), cs_, cs_, H', ⟨Nat.le_refl _⟩, ⟨cO_ BK323.out⟩, ⟨cB1_ GE323.out⟩⟩
 case round =>
  clear H'
  try clear c1
  try clear p2
  try clear c3
  try clear c3b0
  try clear c3b1
  obtain ⟨x4_1, x15_1, rfl, rfl, HA, HK1, BK323, HB⟩ := hrel
  cases gk with
  | zero => exact absurd HA.out (by simp [impl_TotalWeight.l0])
  | succ k1 =>
   have H := HA.out
   clear HA
   simp only [impl_TotalWeight.l0] at H
   by_cases c6 : x15_1 < (l0.length : Int)
   rotate_left
   ·rw [if_neg c6] at H
    have c6b0 : decide (x15_1 < (l0.length : Int)) = false := decide_eq_false c6
    clear c6
    simp only [Option.some.injEq, Prod.mk.injEq] at H
    obtain ⟨rfl, rfl⟩ := H
    obtain ⟨hcz12_0, hcz12_1, hfz12_0, hfz12_1⟩ := cells2 BK323.out
    go_wp2
    refine bodyPost_ret (results_cell_row rfl _ _ gb323 36 #[.int .i64 0, .int .i64 x4_1] (0, 0) _ rfl (by refine cO_ ?_; refine blk_put (cs := #[.int .i64 0, .int .i64 0]) ?_ 1 _ rfl; refine cO_ ?_; refine blk_put (cs := #[.int .i64 0, .int .i64 0]) ?_ 0 _ rfl; refine cO_ ?_; exact BK323.out) Tryd.underlying36 rfl (by kernel_rfl)) rfl ?_
    exact ⟨ce_, cB1_ GE323.out⟩
   rw [if_pos c6] at H
   have c6b0 : decide (x15_1 < (l0.length : Int)) = true := decide_eq_true c6
   clear c6
   by_cases c7 : 0 ≤ x15_1
   rotate_left
   ·rw [if_neg c7] at H
    exact absurd H (by simp)
   rw [if_pos c7] at H
   have c7b0 : decide (0 ≤ x15_1) = true := decide_eq_true c7
   clear c7
   by_cases c8 : x15_1 < (l0.length : Int)
   rotate_left
   ·rw [if_neg c8] at H
    exact absurd H (by simp)
   rw [if_pos c8] at H
   have c8b0 : decide (x15_1 < (l0.length : Int)) = true := decide_eq_true c8
   clear c8
   have H' := Aside0.mk H
   clear H
   have p325 : 0 ≤ (x15_1 : Int) := of_decide_eq_true ca_
   have q325 : x15_1 < (l0.length : Int) := of_decide_eq_true ca_
   obtain ⟨ad325, A325_0, c325_0, e325, hx325_0, hx325_1, hl325_0, hi325_0⟩ := at_T31 HR0.out x15_1 p325 q325
   cases e325
   replace hx325_0 := (HB.out.cell (World.block_lt_of_cell? w _ hx325_0)).trans hx325_0
   replace hx325_1 := (HB.out.cell (World.block_lt_of_cell? w _ hx325_1)).trans hx325_1
   have HR325_0 := Aside0.mk hi325_0
   have HC325_0 := Aside0.mk hl325_0
   clear hi325_0 hl325_0
   replace p325 := eq_true p325
   replace q325 := eq_true q325
   go_wp2_with (first | (refine bx_ 6 #[.slice none 0 0, .int .i64 0] 31 ?_; intro gb326 hg w9 hbox hb; have BK326 := Aside0.mk (hbox); have GW326 := Aside0.mk ((by rw [hg]; exact (below_size (cB1_ GE323.out)) : w.heap.size ≤ gb326)); have GE326 := Aside0.mk ((by rw [hg]; exact (below_size (cB1_ GE323.out)) : w.heap.size ≤ gb326)); replace HB := Aside0.mk (below_step (cB1_ GE323.out) hb); have NB323_326 := Aside0.mk ((by rw [hg]; exact Nat.ne_of_lt (blk_lt (g := gb323) (o := .cells #[.int .i64 0, .int .i64 0] 36 (0, 0)) (cO_ BK323.out)) : gb323 ≠ gb326)); have NB326_323 := Aside0.mk ((by rw [hg]; exact Nat.ne_of_gt (blk_lt (g := gb323) (o := .cells #[.int .i64 0, .int .i64 0] 36 (0, 0)) (cO_ BK323.out)) : gb326 ≠ gb323)); replace BK323 := Aside0.mk (blk_below (g := gb323) (o := .cells #[.int .i64 0, .int .i64 0] 36 (0, 0)) (cO_ BK323.out) hb); clear hb hbox hg; have hnb10 := NB326_323.out; have hnc10 := NB323_326.out; obtain ⟨hcz11_0, hcz11_1, hfz11_0, hfz11_1⟩ := cells2 BK326.out))
   go_roundg k1
   case measure => have := HK1.out; omega
   case rel => exact ⟨(wrap64 (x4_1 + ((rd_T31 l0 x15_1).f1))), (wrap64 (x15_1 + 1)), cs_, cs_, H', ⟨co_ HK1.out⟩, ⟨by refine cO_ ?_; refine blk_far ?_ NB323_326.out _; refine cO_ ?_; refine blk_far ?_ NB323_326.out _; refine cO_ ?_; exact BK323.out⟩, ⟨cB2_ GE323.out GE326.out⟩⟩

/-! ### impl_decimal: function 28 -/
def impl_decimal.f (a0 : Int) : Option ByteArray := if -9223372036854775808 ≤ a0 ∧ a0 ≤ 9223372036854775807 then some ⟨(Lib.itoa a0).toArray⟩ else none
/-- A number in decimal, where the table of the powers of ten reads as the text lays it. -/
theorem impl_decimal.calls (a0 : Int) (r : ByteArray) (w : World) (htab : Tab.Tab w) (h : impl_decimal.f a0 = some r) :
  Calls Tryd.prog 28 #[.int .i64 a0] w fun e w' => e = .returned (.string r) ∧ Below w.heap.size w w' := by
 have hb_ : (-9223372036854775808 ≤ a0 ∧ a0 ≤ 9223372036854775807) ∧ (⟨(Lib.itoa a0).toArray⟩ : ByteArray) = r := by
  unfold impl_decimal.f at h
  by_cases c : -9223372036854775808 ≤ a0 ∧ a0 ≤ 9223372036854775807
  ·rw [if_pos c] at h; exact ⟨c, Option.some.inj h⟩
  ·rw [if_neg c] at h; exact absurd h (by simp)
 obtain ⟨⟨h0, h1⟩, rfl⟩ := hb_
 clear h
 obtain ⟨s, hs⟩ : ∃ s, s = (Lib.itoa a0).toArray := ⟨_, rfl⟩
 have HS := Aside0.mk hs
 have hc := Tryd.strconv_FormatInt_10 a0 h0 h1 w (Tab.tabIs htab)
 rw [← hs] at hc ⊢
 clear hs h0 h1 htab
 go_enter Tryd.func28, Tryd.ntmps28
 go_wp2_with (first | (go_at_call 49; refine hc.mono ?_; rintro e w' ⟨rfl, k, os, rfl⟩))
 go_ret
 exact ⟨rfl, Tab.below_grow _ _ _⟩

end Go.Proofs.YthgmicingbjemaaDoor.PFnSums
