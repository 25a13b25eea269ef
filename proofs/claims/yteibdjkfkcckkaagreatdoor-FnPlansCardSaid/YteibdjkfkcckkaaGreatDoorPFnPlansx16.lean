-- Written by fprint, a program of this session, out of Lean's own print of the translation. Lean checks it.
import Derived.Test.YteibdjkfkcckkaaGreatDoorDense
import Derived.Test.YteibdjkfkcckkaaGreatDoorShort
import Derived.Test.YteibdjkfkcckkaaGreatDoorPFnPlansx0
import Derived.Test.YteibdjkfkcckkaaGreatDoorPFnPlansx11
import Derived.Test.YteibdjkfkcckkaaGreatDoorPFnPlansx13
import Derived.Test.YteibdjkfkcckkaaGreatDoorPFnPlansx15
namespace Go.Proofs.YteibdjkfkcckkaaGreatDoor.PFnPlans
open Go.RowKit Go.Proofs.YteibdjkfkcckkaaGreatDoorW.PrintWords Go.Proofs.YteibdjkfkcckkaaGreatDoorW.PrintLast Go.Proofs.YteibdjkfkcckkaaGreatDoorW.PrintMore
attribute [local go_sem] max2_int min2_int max_two min_two max_three min_three max_four min_four
set_option linter.unusedVariables false
set_option maxHeartbeats 8000000
set_option maxRecDepth 100000
set_option linter.unusedSimpArgs false

theorem vaway_ {e base n c g : Nat} {W : World} {ok : Nat → Prop} {ad : Addr} {xs : List Int} (h : Kd.V (Kd.int .i64) e W base ok (.slice (some ad) n c) xs) (hok : ∀ k, ok k → k ≠ g) (hl : 0 < xs.length) : ad.block ≠ g := by
 intro he
 obtain ⟨rfl, _, hC⟩ := Kd.V_reads' h
 have hx := Kd.foot_int hC 0 (by decide) (by omega)
 rw [show ad.add (0 : Int).toNat = ad from Addr.add_zero' ad] at hx
 have h2 := Kd.foot_int (Kd.V_reads' (Kd.V_far (p := ad) h (fun k hk => he ▸ hok k hk) (.bool true))).2.2 0 (by decide) (by omega)
 rw [show ad.add (0 : Int).toNat = ad from Addr.add_zero' ad, World.cell?_setCell_same _ _ _ hx] at h2
 cases h2
theorem b16_0 {p : Prop} (h : p := by exact (vaway_ (g := gb442) HO_6.out (fun _ hk => hk.2.2) (by first | exact of_eq_true qi457 | exact of_eq_true qi458 | exact of_eq_true qi461 | exact of_eq_true qi467 | exact of_eq_true qi469 | exact of_eq_true qi473 | exact of_eq_true qi475 | exact of_eq_true qi476 | exact of_eq_true qi477) :)) : p := h
theorem b16_1 {p : Prop} (h : p := by refine cO_ ?_; refine blk_put (cs := #[.int .i64 0, .int .i64 0, .int .i64 0, .int .i64 0, .int .i64 0, .int .i64 0, .slice none 0 0]) ?_ 6 _ rfl; refine cO_ ?_; refine blk_put (cs := #[.int .i64 0, .int .i64 0, .int .i64 0, .int .i64 0, .int .i64 0, .int .i64 x434005_10, .slice none 0 0]) ?_ 5 _ rfl; refine cO_ ?_; refine blk_put (cs := #[.int .i64 0, .int .i64 0, .int .i64 0, .int .i64 0, .int .i64 x434004_10, .int .i64 x434005_10, .slice none 0 0]) ?_ 4 _ rfl; refine cO_ ?_; refine blk_put (cs := #[.int .i64 0, .int .i64 0, .int .i64 0, .int .i64 x434003_10, .int .i64 x434004_10, .int .i64 x434005_10, .slice none 0 0]) ?_ 3 _ rfl; refine cO_ ?_; refine blk_put (cs := #[.int .i64 0, .int .i64 0, .int .i64 x434002_10, .int .i64 x434003_10, .int .i64 x434004_10, .int .i64 x434005_10, .slice none 0 0]) ?_ 2 _ rfl; refine cO_ ?_; refine blk_put (cs := #[.int .i64 0, .int .i64 x434001_10, .int .i64 x434002_10, .int .i64 x434003_10, .int .i64 x434004_10, .int .i64 x434005_10, .slice none 0 0]) ?_ 1 _ rfl; refine cO_ ?_; refine blk_put (cs := #[.int .i64 x434000_10, .int .i64 x434001_10, .int .i64 x434002_10, .int .i64 x434003_10, .int .i64 x434004_10, .int .i64 x434005_10, .slice none 0 0]) ?_ 0 _ rfl; refine cO_ ?_; exact BK433.out) : p := h
theorem b16_2 {p : Prop} (h : p := by refine cO_ ?_; refine blk_put (cs := #[.int .i64 (wrap64 (t441 + 1)), .int .i64 (rd t453 0), .int .i64 0, .int .i64 0, .int .i64 x443004_10, .int .i64 0, .slice none 0 0]) ?_ 6 _ rfl; refine cO_ ?_; refine blk_put (cs := #[.int .i64 (wrap64 (t441 + 1)), .int .i64 (rd t453 0), .int .i64 0, .int .i64 0, .int .i64 x443004_10, .int .i64 x434005_10, .slice none 0 0]) ?_ 5 _ rfl; refine cO_ ?_; refine blk_put (cs := #[.int .i64 (wrap64 (t441 + 1)), .int .i64 (rd t453 0), .int .i64 0, .int .i64 0, .int .i64 x434004_10, .int .i64 x434005_10, .slice none 0 0]) ?_ 4 _ rfl; refine cO_ ?_; refine blk_put (cs := #[.int .i64 (wrap64 (t441 + 1)), .int .i64 (rd t453 0), .int .i64 0, .int .i64 x434003_10, .int .i64 x434004_10, .int .i64 x434005_10, .slice none 0 0]) ?_ 3 _ rfl; refine cO_ ?_; refine blk_put (cs := #[.int .i64 (wrap64 (t441 + 1)), .int .i64 (rd t453 0), .int .i64 x434002_10, .int .i64 x434003_10, .int .i64 x434004_10, .int .i64 x434005_10, .slice none 0 0]) ?_ 2 _ rfl; refine cO_ ?_; refine blk_put (cs := #[.int .i64 (wrap64 (t441 + 1)), .int .i64 x434001_10, .int .i64 x434002_10, .int .i64 x434003_10, .int .i64 x434004_10, .int .i64 x434005_10, .slice none 0 0]) ?_ 1 _ rfl; refine cO_ ?_; refine blk_put (cs := #[.int .i64 x434000_10, .int .i64 x434001_10, .int .i64 x434002_10, .int .i64 x434003_10, .int .i64 x434004_10, .int .i64 x434005_10, .slice none 0 0]) ?_ 0 _ rfl; refine cO_ ?_; refine blk_far ?_ NB433_442.out _; refine cO_ ?_; exact BK433.out) : p := h
theorem b16_3 {p : Prop} (h : p := by exact cB1_ GE433.out) : p := h
theorem b16_4 {p : Prop} (h : p := by exact cB2_ GE433.out GE442.out) : p := h
theorem b16_5 {p : Prop} (h : p := by exact cO_ BK433.out) : p := h
theorem b16_6 {p : Prop} (h : p := by first | exact Kd.own_blk (Kd.R_ne HO436.out BK442.out (by decide)) | (rw [add_block]; exact Kd.own_blk (Kd.R_ne HO436.out BK442.out (by decide))) | (show (Addr.add _ _).block ≠ _; rw [add_block]; exact Kd.own_blk (Kd.R_ne HO436.out BK442.out (by decide))) | (dsimp only; exact Kd.own_blk (Kd.R_ne HO436.out BK442.out (by decide)))) : p := h
theorem b16_7 {p : Prop} (h : p := by first | exact Kd.R_nil _ _ _ _ _ | exact Kd.N_nil _ _ _ _ _ | exact Kd.V_nil _ _ _ _ _ | exact Kd.Q_nil _ _ _ _ _ | exact Kd.S_nil _ _ _ _ _) : p := h
theorem b16_10 {p : Prop} (h : p := by exact cR_ HO436.out) : p := h
theorem b16_11 {p : Prop} (h : p := by exact cO_ BK442.out) : p := h
theorem b16_14 {p : Prop} (h : p := by refine cR_ ?_; exact (Kd.R_mono (Kd.R_far (p := ⟨gb442, 4, none⟩) (Kd.R_types HO_4.out BK442.out (by decide)) (fun _ hk => hk.2) (.int .i64 t445)) (fun _ h_ => h_.1))) : p := h
theorem q16_0 {p : Prop} (h : p := by have := HJ10.out; have := HJ47.out; have := HJ57.out; have := HJ81.out; first | omega | exact Nat.le_refl _) : p := h
theorem q16_1 {p : Prop} (h : p := by have := HJ10.out; have := HJ47.out; have := HJ57.out; have := HJ81.out; have := HJ99.out; first | omega | exact Nat.le_refl _) : p := h
theorem q16_2 {p : Prop} (h : p := by have := HJ10.out; have := HJ47.out; have := HJ57.out; have := HJ81.out; have := HJ99.out; have := HJ114.out; first | omega | exact Nat.le_refl _) : p := h
/-! ### impl_readNode: function 22 -/
mutual
def impl_readNode.j1 : Nat → List ByteArray → Int → Int → Int → Int → Int → Int → Option (Int × Int × Int × Int × Int × Int × List Int × Bool)
 | 0, _, _, _, _, _, _, _ => none
 | k + 1, x4, x443000, x443001, x443002, x443003, x443004, x443005 => if 1 ≤ (x4.length : Int) then ((impl_readNumbers.f k (x4.drop 1) 10).bind fun bt453 => (if bt453.2 = true then (impl_readNode.j2 k bt453.1 (decide (x443004 < 0)) x443000 x443001 x443002 x443003 x443004 x443005) else (impl_readNode.j2 k bt453.1 true x443000 x443001 x443002 x443003 x443004 x443005))) else (none)
def impl_readNode.j2 : Nat → List Int → Bool → Int → Int → Int → Int → Int → Int → Option (Int × Int × Int × Int × Int × Int × List Int × Bool)
 | 0, _, _, _, _, _, _, _, _ => none
 | k + 1, x6, x56, x443000, x443001, x443002, x443003, x443004, x443005 => if x56 = true then (none) else (if x443000 = 1 then (impl_readNode.j3 k x6 (x6.length : Int) ((x6.length : Int) == 1) x443000 x443001 x443002 x443003 x443004 x443005) else (impl_readNode.j3 k x6 (x6.length : Int) false x443000 x443001 x443002 x443003 x443004 x443005))
def impl_readNode.j3 : Nat → List Int → Int → Bool → Int → Int → Int → Int → Int → Int → Option (Int × Int × Int × Int × Int × Int × List Int × Bool)
 | 0, _, _, _, _, _, _, _, _, _ => none
 | k + 1, x6, x8, x61, x443000, x443001, x443002, x443003, x443004, x443005 => if x61 = true then (if 0 < (x6.length : Int) then (some (x443000, x443001, x443002, rd x6 0, x443004, x443005, ([] : List Int), true)) else (none)) else (if x443000 = 2 then (if 0 < (x6.length : Int) then (if 1 < (x6.length : Int) then (if 2 < (x6.length : Int) then (some (x443000, rd x6 0, x443002, rd x6 1, x443004, rd x6 2, ([] : List Int), true)) else (none)) else (none)) else (none)) else (if x443000 = 3 then (impl_readNode.j4 k x6 x8 (decide (x8 ≥ 1)) x443000 x443001 x443002 x443003 x443004 x443005) else (impl_readNode.j4 k x6 x8 false x443000 x443001 x443002 x443003 x443004 x443005)))
def impl_readNode.j4 : Nat → List Int → Int → Bool → Int → Int → Int → Int → Int → Int → Option (Int × Int × Int × Int × Int × Int × List Int × Bool)
 | 0, _, _, _, _, _, _, _, _, _ => none
 | k + 1, x6, x8, x89, x443000, x443001, x443002, x443003, x443004, x443005 => if x89 = true then (if 0 < (x6.length : Int) then (if 1 ≤ (x6.length : Int) then (some (x443000, rd x6 0, x443002, x443003, x443004, x443005, (x6.drop 1), true)) else (none)) else (none)) else (if x443000 = 4 then (impl_readNode.j5 k x6 x8 (x8 == 2) x443000 x443001 x443002 x443003 x443004 x443005) else (impl_readNode.j5 k x6 x8 false x443000 x443001 x443002 x443003 x443004 x443005))
def impl_readNode.j5 : Nat → List Int → Int → Bool → Int → Int → Int → Int → Int → Int → Option (Int × Int × Int × Int × Int × Int × List Int × Bool)
 | 0, _, _, _, _, _, _, _, _, _ => none
 | k + 1, x6, x8, x104, x443000, x443001, x443002, x443003, x443004, x443005 => if x104 = true then (if 0 < (x6.length : Int) then (if 1 < (x6.length : Int) then (some (x443000, rd x6 0, rd x6 1, x443003, x443004, x443005, ([] : List Int), true)) else (none)) else (none)) else (if x443000 = 6 then (impl_readNode.j6 k x6 x8 (x8 == 3) x443000 x443001 x443002 x443003 x443004 x443005) else (impl_readNode.j6 k x6 x8 false x443000 x443001 x443002 x443003 x443004 x443005))
def impl_readNode.j6 : Nat → List Int → Int → Bool → Int → Int → Int → Int → Int → Int → Option (Int × Int × Int × Int × Int × Int × List Int × Bool)
 | 0, _, _, _, _, _, _, _, _, _ => none
 | k + 1, x6, x8, x120, x443000, x443001, x443002, x443003, x443004, x443005 => if x120 = true then (if 0 < (x6.length : Int) then (if 1 < (x6.length : Int) then (if 2 < (x6.length : Int) then (some (x443000, rd x6 0, rd x6 1, rd x6 2, x443004, x443005, ([] : List Int), true)) else (none)) else (none)) else (none)) else ((impl_grouped.f x443000).bind fun t472 => (if t472 = true then (impl_readNode.j7 k x6 x8 (x8 == 2) x443000 x443001 x443002 x443003 x443004 x443005) else (impl_readNode.j7 k x6 x8 false x443000 x443001 x443002 x443003 x443004 x443005)))
def impl_readNode.j7 : Nat → List Int → Int → Bool → Int → Int → Int → Int → Int → Int → Option (Int × Int × Int × Int × Int × Int × List Int × Bool)
 | 0, _, _, _, _, _, _, _, _, _ => none
 | k + 1, x6, x8, x140, x443000, x443001, x443002, x443003, x443004, x443005 => if x140 = true then (if 0 < (x6.length : Int) then (if 1 < (x6.length : Int) then (some (x443000, rd x6 0, x443002, rd x6 1, x443004, x443005, ([] : List Int), true)) else (none)) else (none)) else (if x443000 = 5 then (if x8 = 1 then (if 0 < (x6.length : Int) then (some (x443000, rd x6 0, x443002, x443003, x443004, x443005, ([] : List Int), true)) else (none)) else (none)) else (if x443000 = 11 then (if x8 = 1 then (if 0 < (x6.length : Int) then (some (x443000, rd x6 0, x443002, x443003, x443004, x443005, ([] : List Int), true)) else (none)) else (none)) else (if x443000 = 12 then (if x8 = 1 then (if 0 < (x6.length : Int) then (some (x443000, rd x6 0, x443002, x443003, x443004, x443005, ([] : List Int), true)) else (none)) else (none)) else (none))))
def impl_readNode.j0 : Nat → List ByteArray → Bool → Int → Int → Int → Int → Int → Int → Option (Int × Int × Int × Int × Int × Int × List Int × Bool)
 | 0, _, _, _, _, _, _, _, _ => none
 | k + 1, x4, x34, x443000, x443001, x443002, x443003, x443004, x443005 => if x34 = true then (none) else (if 3 < (x4.length : Int) then (if 0 < ((rdOf ByteArray.empty x4 3).size : Int) then ((strings_IndexByte.f (⟨#[61, 60, 62]⟩ : ByteArray) (bt (rdOf ByteArray.empty x4 3) 0)).bind fun t445 => ((slices_Delete_string_string.f x4 3 4).bind fun t446 => (impl_readNode.j1 k t446 x443000 x443001 x443002 x443003 t445 x443005))) else (none)) else (none))
end
def impl_readNode.f (k : Nat) (a0 : ByteArray) : Option (Int × Int × Int × Int × Int × Int × List Int × Bool) := (impl_piecesOf.f a0).bind fun t434 => (if (t434.length : Int) = 0 then (none) else ((strings_Split.f (⟨#[105, 110, 112, 117, 116, 32, 102, 105, 108, 116, 101, 114, 32, 112, 114, 111, 106, 101, 99, 116, 32, 117, 110, 105, 111, 110, 32, 110, 101, 103, 97, 116, 101, 32, 106, 111, 105, 110, 32, 99, 111, 117, 110, 116, 32, 115, 117, 109, 32, 108, 101, 97, 115, 116, 32, 109, 111, 115, 116, 32, 100, 105, 115, 116, 105, 110, 99, 116, 32, 118, 105, 101, 119]⟩ : ByteArray) (⟨#[32]⟩ : ByteArray)).bind fun t437 => (if 0 < (t434.length : Int) then ((slices_Index_string_string.f t437 (rdOf ByteArray.empty t434 0)).bind fun t441 => (if (wrap64 (t441 + 1)) = 2 then (if (t434.length : Int) = 5 then (if 3 < (t434.length : Int) then (impl_readNode.j0 k t434 (((rdOf ByteArray.empty t434 3).size : Int) != 1) (wrap64 (t441 + 1)) 0 0 0 0 0) else (none)) else (impl_readNode.j0 k t434 true (wrap64 (t441 + 1)) 0 0 0 0 0)) else (impl_readNode.j1 k t434 (wrap64 (t441 + 1)) 0 0 0 0 0))) else (none))))
theorem impl_readNode.mono_l : ∀ k, (∀ y0 y1 y2 y3 y4 y5 y6, LeO (impl_readNode.j1 k y0 y1 y2 y3 y4 y5 y6) (impl_readNode.j1 (k + 1) y0 y1 y2 y3 y4 y5 y6)) ∧ (∀ y0 y1 y2 y3 y4 y5 y6 y7, LeO (impl_readNode.j2 k y0 y1 y2 y3 y4 y5 y6 y7) (impl_readNode.j2 (k + 1) y0 y1 y2 y3 y4 y5 y6 y7)) ∧ (∀ y0 y1 y2 y3 y4 y5 y6 y7 y8, LeO (impl_readNode.j3 k y0 y1 y2 y3 y4 y5 y6 y7 y8) (impl_readNode.j3 (k + 1) y0 y1 y2 y3 y4 y5 y6 y7 y8)) ∧ (∀ y0 y1 y2 y3 y4 y5 y6 y7 y8, LeO (impl_readNode.j4 k y0 y1 y2 y3 y4 y5 y6 y7 y8) (impl_readNode.j4 (k + 1) y0 y1 y2 y3 y4 y5 y6 y7 y8)) ∧ (∀ y0 y1 y2 y3 y4 y5 y6 y7 y8, LeO (impl_readNode.j5 k y0 y1 y2 y3 y4 y5 y6 y7 y8) (impl_readNode.j5 (k + 1) y0 y1 y2 y3 y4 y5 y6 y7 y8)) ∧ (∀ y0 y1 y2 y3 y4 y5 y6 y7 y8, LeO (impl_readNode.j6 k y0 y1 y2 y3 y4 y5 y6 y7 y8) (impl_readNode.j6 (k + 1) y0 y1 y2 y3 y4 y5 y6 y7 y8)) ∧ (∀ y0 y1 y2 y3 y4 y5 y6 y7 y8, LeO (impl_readNode.j7 k y0 y1 y2 y3 y4 y5 y6 y7 y8) (impl_readNode.j7 (k + 1) y0 y1 y2 y3 y4 y5 y6 y7 y8)) ∧ (∀ y0 y1 y2 y3 y4 y5 y6 y7, LeO (impl_readNode.j0 k y0 y1 y2 y3 y4 y5 y6 y7) (impl_readNode.j0 (k + 1) y0 y1 y2 y3 y4 y5 y6 y7))
 | 0 => ⟨fun _ _ _ _ _ _ _ r h => by simp [impl_readNode.j1] at h, fun _ _ _ _ _ _ _ _ r h => by simp [impl_readNode.j2] at h, fun _ _ _ _ _ _ _ _ _ r h => by simp [impl_readNode.j3] at h, fun _ _ _ _ _ _ _ _ _ r h => by simp [impl_readNode.j4] at h, fun _ _ _ _ _ _ _ _ _ r h => by simp [impl_readNode.j5] at h, fun _ _ _ _ _ _ _ _ _ r h => by simp [impl_readNode.j6] at h, fun _ _ _ _ _ _ _ _ _ r h => by simp [impl_readNode.j7] at h, fun _ _ _ _ _ _ _ _ r h => by simp [impl_readNode.j0] at h⟩
 | k + 1 => by
  obtain ⟨ih0, ih1, ih2, ih3, ih4, ih5, ih6, ih7⟩ := impl_readNode.mono_l k
  refine ⟨?_, ?_, ?_, ?_, ?_, ?_, ?_, ?_⟩
  ·intro y0 y1 y2 y3 y4 y5 y6
   unfold impl_readNode.j1
   repeat' first
   | (with_reducible exact ih0 _ _ _ _ _ _ _)
   | (with_reducible exact ih1 _ _ _ _ _ _ _ _)
   | (with_reducible exact ih2 _ _ _ _ _ _ _ _ _)
   | (with_reducible exact ih3 _ _ _ _ _ _ _ _ _)
   | (with_reducible exact ih4 _ _ _ _ _ _ _ _ _)
   | (with_reducible exact ih5 _ _ _ _ _ _ _ _ _)
   | (with_reducible exact ih6 _ _ _ _ _ _ _ _ _)
   | (with_reducible exact ih7 _ _ _ _ _ _ _ _)
   | (with_reducible exact impl_readNumbers.mono _ _ _)
   | (with_reducible exact LeO.refl _)
   | (with_reducible exact LeO.none _)
   | (with_reducible refine LeO.ite ?_ ?_)
   | (with_reducible refine LeO.bind ?_ (fun _ => ?_))
   | refine LeO.ite ?_ ?_
   | refine LeO.bind ?_ (fun _ => ?_)
  ·intro y0 y1 y2 y3 y4 y5 y6 y7
   unfold impl_readNode.j2
   repeat' first
   | (with_reducible exact ih0 _ _ _ _ _ _ _)
   | (with_reducible exact ih1 _ _ _ _ _ _ _ _)
   | (with_reducible exact ih2 _ _ _ _ _ _ _ _ _)
   | (with_reducible exact ih3 _ _ _ _ _ _ _ _ _)
   | (with_reducible exact ih4 _ _ _ _ _ _ _ _ _)
   | (with_reducible exact ih5 _ _ _ _ _ _ _ _ _)
   | (with_reducible exact ih6 _ _ _ _ _ _ _ _ _)
   | (with_reducible exact ih7 _ _ _ _ _ _ _ _)
   | (with_reducible exact impl_readNumbers.mono _ _ _)
   | (with_reducible exact LeO.refl _)
   | (with_reducible exact LeO.none _)
   | (with_reducible refine LeO.ite ?_ ?_)
   | (with_reducible refine LeO.bind ?_ (fun _ => ?_))
   | refine LeO.ite ?_ ?_
   | refine LeO.bind ?_ (fun _ => ?_)
  ·intro y0 y1 y2 y3 y4 y5 y6 y7 y8
   unfold impl_readNode.j3
   repeat' first
   | (with_reducible exact ih0 _ _ _ _ _ _ _)
   | (with_reducible exact ih1 _ _ _ _ _ _ _ _)
   | (with_reducible exact ih2 _ _ _ _ _ _ _ _ _)
   | (with_reducible exact ih3 _ _ _ _ _ _ _ _ _)
   | (with_reducible exact ih4 _ _ _ _ _ _ _ _ _)
   | (with_reducible exact ih5 _ _ _ _ _ _ _ _ _)
   | (with_reducible exact ih6 _ _ _ _ _ _ _ _ _)
   | (with_reducible exact ih7 _ _ _ _ _ _ _ _)
   | (with_reducible exact impl_readNumbers.mono _ _ _)
   | (with_reducible exact LeO.refl _)
   | (with_reducible exact LeO.none _)
   | (with_reducible refine LeO.ite ?_ ?_)
   | (with_reducible refine LeO.bind ?_ (fun _ => ?_))
   | refine LeO.ite ?_ ?_
   | refine LeO.bind ?_ (fun _ => ?_)
  ·intro y0 y1 y2 y3 y4 y5 y6 y7 y8
   unfold impl_readNode.j4
   repeat' first
   | (with_reducible exact ih0 _ _ _ _ _ _ _)
   | (with_reducible exact ih1 _ _ _ _ _ _ _ _)
   | (with_reducible exact ih2 _ _ _ _ _ _ _ _ _)
   | (with_reducible exact ih3 _ _ _ _ _ _ _ _ _)
   | (with_reducible exact ih4 _ _ _ _ _ _ _ _ _)
   | (with_reducible exact ih5 _ _ _ _ _ _ _ _ _)
   | (with_reducible exact ih6 _ _ _ _ _ _ _ _ _)
   | (with_reducible exact ih7 _ _ _ _ _ _ _ _)
   | (with_reducible exact impl_readNumbers.mono _ _ _)
   | (with_reducible exact LeO.refl _)
   | (with_reducible exact LeO.none _)
   | (with_reducible refine LeO.ite ?_ ?_)
   | (with_reducible refine LeO.bind ?_ (fun _ => ?_))
   | refine LeO.ite ?_ ?_
   | refine LeO.bind ?_ (fun _ => ?_)
  ·intro y0 y1 y2 y3 y4 y5 y6 y7 y8
   unfold impl_readNode.j5
   repeat' first
   | (with_reducible exact ih0 _ _ _ _ _ _ _)
   | (with_reducible exact ih1 _ _ _ _ _ _ _ _)
   | (with_reducible exact ih2 _ _ _ _ _ _ _ _ _)
   | (with_reducible exact ih3 _ _ _ _ _ _ _ _ _)
   | (with_reducible exact ih4 _ _ _ _ _ _ _ _ _)
   | (with_reducible exact ih5 _ _ _ _ _ _ _ _ _)
   | (with_reducible exact ih6 _ _ _ _ _ _ _ _ _)
   | (with_reducible exact ih7 _ _ _ _ _ _ _ _)
   | (with_reducible exact impl_readNumbers.mono _ _ _)
   | (with_reducible exact LeO.refl _)
   | (with_reducible exact LeO.none _)
   | (with_reducible refine LeO.ite ?_ ?_)
   | (with_reducible refine LeO.bind ?_ (fun _ => ?_))
   | refine LeO.ite ?_ ?_
   | refine LeO.bind ?_ (fun _ => ?_)
  ·intro y0 y1 y2 y3 y4 y5 y6 y7 y8
   unfold impl_readNode.j6
   repeat' first
   | (with_reducible exact ih0 _ _ _ _ _ _ _)
   | (with_reducible exact ih1 _ _ _ _ _ _ _ _)
   | (with_reducible exact ih2 _ _ _ _ _ _ _ _ _)
   | (with_reducible exact ih3 _ _ _ _ _ _ _ _ _)
   | (with_reducible exact ih4 _ _ _ _ _ _ _ _ _)
   | (with_reducible exact ih5 _ _ _ _ _ _ _ _ _)
   | (with_reducible exact ih6 _ _ _ _ _ _ _ _ _)
   | (with_reducible exact ih7 _ _ _ _ _ _ _ _)
   | (with_reducible exact impl_readNumbers.mono _ _ _)
   | (with_reducible exact LeO.refl _)
   | (with_reducible exact LeO.none _)
   | (with_reducible refine LeO.ite ?_ ?_)
   | (with_reducible refine LeO.bind ?_ (fun _ => ?_))
   | refine LeO.ite ?_ ?_
   | refine LeO.bind ?_ (fun _ => ?_)
  ·intro y0 y1 y2 y3 y4 y5 y6 y7 y8
   unfold impl_readNode.j7
   repeat' first
   | (with_reducible exact ih0 _ _ _ _ _ _ _)
   | (with_reducible exact ih1 _ _ _ _ _ _ _ _)
   | (with_reducible exact ih2 _ _ _ _ _ _ _ _ _)
   | (with_reducible exact ih3 _ _ _ _ _ _ _ _ _)
   | (with_reducible exact ih4 _ _ _ _ _ _ _ _ _)
   | (with_reducible exact ih5 _ _ _ _ _ _ _ _ _)
   | (with_reducible exact ih6 _ _ _ _ _ _ _ _ _)
   | (with_reducible exact ih7 _ _ _ _ _ _ _ _)
   | (with_reducible exact impl_readNumbers.mono _ _ _)
   | (with_reducible exact LeO.refl _)
   | (with_reducible exact LeO.none _)
   | (with_reducible refine LeO.ite ?_ ?_)
   | (with_reducible refine LeO.bind ?_ (fun _ => ?_))
   | refine LeO.ite ?_ ?_
   | refine LeO.bind ?_ (fun _ => ?_)
  ·intro y0 y1 y2 y3 y4 y5 y6 y7
   unfold impl_readNode.j0
   repeat' first
   | (with_reducible exact ih0 _ _ _ _ _ _ _)
   | (with_reducible exact ih1 _ _ _ _ _ _ _ _)
   | (with_reducible exact ih2 _ _ _ _ _ _ _ _ _)
   | (with_reducible exact ih3 _ _ _ _ _ _ _ _ _)
   | (with_reducible exact ih4 _ _ _ _ _ _ _ _ _)
   | (with_reducible exact ih5 _ _ _ _ _ _ _ _ _)
   | (with_reducible exact ih6 _ _ _ _ _ _ _ _ _)
   | (with_reducible exact ih7 _ _ _ _ _ _ _ _)
   | (with_reducible exact impl_readNumbers.mono _ _ _)
   | (with_reducible exact LeO.refl _)
   | (with_reducible exact LeO.none _)
   | (with_reducible refine LeO.ite ?_ ?_)
   | (with_reducible refine LeO.bind ?_ (fun _ => ?_))
   | refine LeO.ite ?_ ?_
   | refine LeO.bind ?_ (fun _ => ?_)
theorem impl_readNode.mono : ∀ a0 k, LeO (impl_readNode.f k a0) (impl_readNode.f (k + 1) a0) := by
 intro a0 k
 obtain ⟨ih0, ih1, ih2, ih3, ih4, ih5, ih6, ih7⟩ := impl_readNode.mono_l k
 unfold impl_readNode.f
 repeat' first
   | (with_reducible exact ih0 _ _ _ _ _ _ _)
   | (with_reducible exact ih1 _ _ _ _ _ _ _ _)
   | (with_reducible exact ih2 _ _ _ _ _ _ _ _ _)
   | (with_reducible exact ih3 _ _ _ _ _ _ _ _ _)
   | (with_reducible exact ih4 _ _ _ _ _ _ _ _ _)
   | (with_reducible exact ih5 _ _ _ _ _ _ _ _ _)
   | (with_reducible exact ih6 _ _ _ _ _ _ _ _ _)
   | (with_reducible exact ih7 _ _ _ _ _ _ _ _)
   | (with_reducible exact impl_readNumbers.mono _ _ _)
   | (with_reducible exact LeO.refl _)
   | (with_reducible exact LeO.none _)
   | (with_reducible refine LeO.ite ?_ ?_)
   | (with_reducible refine LeO.bind ?_ (fun _ => ?_))
   | refine LeO.ite ?_ ?_
   | refine LeO.bind ?_ (fun _ => ?_)
def impl_readNode.T4 : Bool × List (List Nat × List Nat) := (true, [([], []), ([], []), ([1], [1]), ([2], [2]), ([0, 3, 0], [0, 3]), ([4], [4]), ([5], [5]), ([], []), ([7, 6, 4, 0, 1, 2, 3, 4, 5, 6, 7], [6, 7])])
def impl_readNode.B4 : List Nat := [0, 0, 2, 6, 15, 31, 63, 0, 255]
theorem impl_readNode.tab4 : rtab .any (opsOf Tryz.f22 4) = impl_readNode.T4 := by kernel_rfl
theorem impl_readNode.bits4 : waitsOk impl_readNode.T4.2 impl_readNode.B4 = true := by kernel_rfl
def impl_readNode.T18 : Bool × List (List Nat × List Nat) := (true, [([], []), ([0], [0]), ([1], [1]), ([], []), ([3], [3]), ([4], [4]), ([], []), ([6], [6]), ([7], [7]), ([0, 1, 2], []), ([9, 2, 0, 1, 2], [2, 9]), ([0, 1, 2, 3, 4, 5, 9, 10], []), ([11, 5, 10, 0, 1, 2, 3, 4, 5, 9, 10], [5, 11]), ([0, 1, 2, 3, 4, 5, 6, 7, 8, 9, 10, 11, 12], []), ([13, 8, 12, 0, 1, 2, 3, 4, 5, 6, 7, 8, 9, 10, 11, 12], [8, 13])])
def impl_readNode.B18 : List Nat := [0, 1, 3, 0, 8, 24, 0, 64, 192, 7, 519, 1599, 3647, 8191, 16383]
theorem impl_readNode.tab18 : rtab .any (opsOf Tryz.f22 18) = impl_readNode.T18 := by kernel_rfl
theorem impl_readNode.bits18 : waitsOk impl_readNode.T18.2 impl_readNode.B18 = true := by kernel_rfl
def impl_readNode.T20 : Bool × List (List Nat × List Nat) := (true, [([], []), ([0], [0]), ([1], [1]), ([], []), ([3], [3]), ([0, 1, 2], []), ([5, 2, 0, 1, 2], [2, 5]), ([0, 1, 2, 3, 4, 5, 6], []), ([7, 4, 6, 0, 1, 2, 3, 4, 5, 6], [4, 7])])
def impl_readNode.B20 : List Nat := [0, 1, 3, 0, 8, 7, 39, 127, 255]
theorem impl_readNode.tab20 : rtab .any (opsOf Tryz.f22 20) = impl_readNode.T20 := by kernel_rfl
theorem impl_readNode.bits20 : waitsOk impl_readNode.T20.2 impl_readNode.B20 = true := by kernel_rfl
def impl_readNode.T22 : Bool × List (List Nat × List Nat) := (true, [([], []), ([0], [0]), ([1], [1]), ([], []), ([3], [3]), ([4], [4]), ([0, 1, 2], []), ([6, 2, 0, 1, 2], [2, 6]), ([0, 1, 2, 3, 4, 5, 6, 7], []), ([8, 5, 7, 0, 1, 2, 3, 4, 5, 6, 7], [5, 8])])
def impl_readNode.B22 : List Nat := [0, 1, 3, 0, 8, 24, 7, 71, 255, 511]
theorem impl_readNode.tab22 : rtab .any (opsOf Tryz.f22 22) = impl_readNode.T22 := by kernel_rfl
theorem impl_readNode.bits22 : waitsOk impl_readNode.T22.2 impl_readNode.B22 = true := by kernel_rfl
def impl_readNode.T24 : Bool × List (List Nat × List Nat) := (true, [([], []), ([0], [0]), ([1], [1]), ([], []), ([3], [3]), ([4], [4]), ([], []), ([6], [6]), ([7], [7]), ([0, 1, 2], []), ([9, 2, 0, 1, 2], [2, 9]), ([0, 1, 2, 3, 4, 5, 9, 10], []), ([11, 5, 10, 0, 1, 2, 3, 4, 5, 9, 10], [5, 11]), ([0, 1, 2, 3, 4, 5, 6, 7, 8, 9, 10, 11, 12], []), ([13, 8, 12, 0, 1, 2, 3, 4, 5, 6, 7, 8, 9, 10, 11, 12], [8, 13])])
def impl_readNode.B24 : List Nat := [0, 1, 3, 0, 8, 24, 0, 64, 192, 7, 519, 1599, 3647, 8191, 16383]
theorem impl_readNode.tab24 : rtab .any (opsOf Tryz.f22 24) = impl_readNode.T24 := by kernel_rfl
theorem impl_readNode.bits24 : waitsOk impl_readNode.T24.2 impl_readNode.B24 = true := by kernel_rfl
def impl_readNode.T26 : Bool × List (List Nat × List Nat) := (true, [([], []), ([0], [0]), ([1], [1]), ([], []), ([3], [3]), ([4], [4]), ([0, 1, 2], []), ([6, 2, 0, 1, 2], [2, 6]), ([0, 1, 2, 3, 4, 5, 6, 7], []), ([8, 5, 7, 0, 1, 2, 3, 4, 5, 6, 7], [5, 8])])
def impl_readNode.B26 : List Nat := [0, 1, 3, 0, 8, 24, 7, 71, 255, 511]
theorem impl_readNode.tab26 : rtab .any (opsOf Tryz.f22 26) = impl_readNode.T26 := by kernel_rfl
theorem impl_readNode.bits26 : waitsOk impl_readNode.T26.2 impl_readNode.B26 = true := by kernel_rfl
def atIn (p : Code → Bool) : Code → Option Code
 | .seq a b => bif p (.seq a b) then some (.seq a b) else match atIn p a with | some o => some o | none => atIn p b
 | .cond c a b => bif p (.cond c a b) then some (.cond c a b) else match atIn p a with | some o => some o | none => atIn p b
 | .block _ c => atIn p c
 | _ => none
def atOf (f : Func) (p : Code → Bool) : Code := (f.body.bind (atIn p)).getD .skip
def isReg (k : Nat) : Code → Bool
 | .seq (.region i _ _) _ => i == k
 | _ => false
def isCond (k : Nat) : Code → Bool
 | .cond (.tmp i) _ _ => i == k
 | _ => false
theorem impl_readNode.rest (k : Nat) (r1 r2 r3 r4 r5 r6 : Int) (r7 : List Int) (r8 : Bool) (w wc : World) (HTB_ : Aside0 (Tab.Tab w)) (t441 : Int) (t453 : List Int) (gb433 gb442 co59 kj10 kj47 kj57 : Nat) (Ao59 : Option Addr) (GE433 : Aside0 (w.heap.size ≤ gb433)) (GE442 : Aside0 (w.heap.size ≤ gb442)) (NB433_442 : Aside0 (gb433 ≠ gb442)) (NB442_433 : Aside0 (gb442 ≠ gb433)) (x434000_10 x434001_10 x434002_10 x434003_10 x434004_10 x434005_10 x443004_10 : Int) (HJ10 : Aside0 (kj10 + 1 ≤ k)) (HJ47 : Aside0 (kj47 + 1 ≤ kj10)) (HJ57 : Aside0 (kj57 + 1 ≤ kj47)) {K K1 : Act → World → Prop} (u0 u1 u3 u4 u7 u9 u10 u11 u12 u13 u14 u15 u16 u17 u18 u19 u20 u21 u22 u23 u24 u25 u26 u27 u28 u29 u30 u31 u32 u33 u34 u35 u36 u37 u38 u39 u40 u41 u42 u43 u44 u45 u46 u47 u48 u49 u50 u51 u52 u53 u54 u55 u56 u57 u58 u59 u60 u61 u62 u63 u64 u65 u66 u67 u68 u69 u70 u71 u72 u73 u74 u75 u76 u77 u78 u79 u80 u81 u82 u83 u84 u85 u86 u87 u88 u89 u90 u91 u92 u93 u94 u95 u96 u97 u98 u99 u100 u101 u102 u103 u104 u105 u106 u107 u108 u109 u110 u111 u112 u113 u114 u115 u116 u117 u118 u119 u120 u121 u122 u123 u124 u125 u126 u127 u128 u129 u130 u131 u132 u133 u134 u135 u136 u137 u138 u139 u140 u141 u142 u143 u144 u145 u146 u147 u148 u149 u150 u151 u152 u153 u154 u155 u156 u157 u158 u159 u160 u161 u162 u163 u164 u165 u166 u167 u168 u169 u170 u171 u172 u173 u174 u175 u176 u177 u178 : Value) (a1_ : ∀ a_ w_, Code.wp Tryz.prog (atOf Tryz.f22 (isReg 29)) (bodyPost Tryz.prog Tryz.f22 fun e w' => ∃ v6_ : Value, e = .returned (.tuple #[.agg #[.int .i64 r1, .int .i64 r2, .int .i64 r3, .int .i64 r4, .int .i64 r5, .int .i64 r6, v6_], .bool r8]) ∧ Kd.V (Kd.int .i64) 2 w' w.heap.size (fun k_ => (w.heap.size ≤ k_)) v6_ r7 ∧ Below w.heap.size w w') a_ w_ → K1 a_ w_) (ka_ : ∀ a_ w_, Code.wp Tryz.prog (atOf Tryz.f22 (isCond 89)) (Exit.inBlock 0 (Exit.then K1 (bodyPost Tryz.prog Tryz.f22 fun e w' => ∃ v6_ : Value, e = .returned (.tuple #[.agg #[.int .i64 r1, .int .i64 r2, .int .i64 r3, .int .i64 r4, .int .i64 r5, .int .i64 r6, v6_], .bool r8]) ∧ Kd.V (Kd.int .i64) 2 w' w.heap.size (fun k_ => (w.heap.size ≤ k_)) v6_ r7 ∧ Below w.heap.size w w'))) a_ w_ → K a_ w_) (hcut : ∃ (kq : Nat) (x89_81 : Bool), u89 = .bool x89_81 ∧ Aside0 (impl_readNode.j4 kq t453 (t453.length : Int) x89_81 (wrap64 (t441 + 1)) 0 0 0 x443004_10 0 = some (r1, r2, r3, r4, r5, r6, r7, r8)) ∧ Aside0 (kq ≤ kj57) ∧ Aside0 (Kd.V (Kd.int .i64) 2 wc w.heap.size (fun k_ => (w.heap.size ≤ k_) ∧ k_ ≠ gb433 ∧ k_ ≠ gb442) (.slice Ao59 t453.length co59) t453) ∧ Aside0 (wc.heap[gb433]? = some (.cells #[.int .i64 x434000_10, .int .i64 x434001_10, .int .i64 x434002_10, .int .i64 x434003_10, .int .i64 x434004_10, .int .i64 x434005_10, (.slice none 0 0)] 36 (0, 0))) ∧ Aside0 (wc.heap[gb442]? = some (.cells #[.int .i64 (wrap64 (t441 + 1)), .int .i64 0, .int .i64 0, .int .i64 0, .int .i64 x443004_10, .int .i64 0, (.slice none 0 0)] 36 (0, 0))) ∧ Aside0 (Below w.heap.size w wc)) :
  K ⟨(u0 :: u1 :: .pointer (some ⟨gb433, 0, none⟩) :: u3 :: u4 :: .pointer (some ⟨gb442, 0, none⟩) :: .slice Ao59 t453.length co59 :: u7 :: .int .i64 (t453.length : Int) :: u9 :: u10 :: u11 :: u12 :: u13 :: u14 :: u15 :: u16 :: u17 :: u18 :: u19 :: u20 :: u21 :: u22 :: u23 :: u24 :: u25 :: u26 :: u27 :: u28 :: u29 :: u30 :: u31 :: u32 :: u33 :: u34 :: u35 :: u36 :: u37 :: u38 :: u39 :: u40 :: u41 :: u42 :: u43 :: u44 :: u45 :: u46 :: u47 :: u48 :: u49 :: u50 :: u51 :: u52 :: u53 :: u54 :: u55 :: u56 :: u57 :: u58 :: u59 :: u60 :: u61 :: u62 :: u63 :: u64 :: u65 :: u66 :: u67 :: u68 :: u69 :: u70 :: u71 :: u72 :: u73 :: u74 :: u75 :: u76 :: u77 :: u78 :: u79 :: u80 :: u81 :: u82 :: u83 :: u84 :: u85 :: u86 :: u87 :: u88 :: u89 :: u90 :: u91 :: u92 :: u93 :: u94 :: u95 :: u96 :: u97 :: u98 :: u99 :: u100 :: u101 :: u102 :: u103 :: u104 :: u105 :: u106 :: u107 :: u108 :: u109 :: u110 :: u111 :: u112 :: u113 :: u114 :: u115 :: u116 :: u117 :: u118 :: u119 :: u120 :: u121 :: u122 :: u123 :: u124 :: u125 :: u126 :: u127 :: u128 :: u129 :: u130 :: u131 :: u132 :: u133 :: u134 :: u135 :: u136 :: u137 :: u138 :: u139 :: u140 :: u141 :: u142 :: u143 :: u144 :: u145 :: u146 :: u147 :: u148 :: u149 :: u150 :: u151 :: u152 :: u153 :: u154 :: u155 :: u156 :: u157 :: u158 :: u159 :: u160 :: u161 :: u162 :: u163 :: u164 :: u165 :: u166 :: u167 :: u168 :: u169 :: u170 :: u171 :: u172 :: u173 :: u174 :: u175 :: u176 :: u177 :: u178 :: []).toArray, []⟩ wc := by
 have hu36 := Tryz.underlying36
 generalize e1_ : atOf Tryz.f22 (isReg 29) = C1_ at a1_
 conv at e1_ => lhs; whnf
 generalize e2_ : atOf Tryz.f22 (isCond 89) = C2_ at ka_
 conv at e2_ => lhs; whnf
 subst e1_ e2_
 obtain ⟨kq, x89_81, rfl, HA, HJ81, HO_6, BK433, BK442, HB⟩ := hcut
 cases kq with
 | zero => exact absurd HA.out (by simp [impl_readNode.j4])
 | succ kj81 =>
  have H := HA.out
  clear HA
  simp only [impl_readNode.j4] at H
  by_cases c90 : x89_81 = true
  ·subst c90
   rw [if_pos rfl] at H
   by_cases c91 : 0 < (t453.length : Int)
   rotate_left
   ·rw [if_neg c91] at H
    exact absurd H (by simp)
   rw [if_pos c91] at H
   have c91b0 := decide_eq_true c91
   have c91b1 : decide (0 < t453.length) = true := decide_eq_true (by omega)
   clear c91
   by_cases c92 : 1 ≤ (t453.length : Int)
   rotate_left
   ·rw [if_neg c92] at H
    exact absurd H (by simp)
   rw [if_pos c92] at H
   have c92b0 := eq_true c92
   have c92b1 : decide (1 ≤ (t453.length : Int)) = true := decide_eq_true c92
   clear c92
   obtain ⟨y462, hy_⟩ : ∃ y_ : List Int, y_ = (t453.drop 1) := ⟨_, rfl⟩
   replace H : (some ((wrap64 (t441 + 1)), rd t453 0, 0, 0, x443004_10, 0, y462, true)) = some (r1, r2, r3, r4, r5, r6, r7, r8) := yb_
   have Ny462 := Aside0.mk hy_
   clear hy_
   simp only [Option.some.injEq, Prod.mk.injEq] at H
   obtain ⟨rfl, rfl, rfl, rfl, rfl, rfl, rfl, rfl⟩ := H
   try go_wp2
   replace HO_6 := Aside0.mk (Kd.V_drew HO_6.out)
   replace BK433 := Aside0.mk (blk_drew BK433.out)
   replace BK442 := Aside0.mk (blk_drew BK442.out)
   replace HB := Aside0.mk (below_drew1 HB.out)
   have p461 : 0 ≤ (0 : Int) := (by omega)
   have q461 : 0 < (t453.length : Int) := cd_
   obtain ⟨ad461, e461, hx461_0⟩ := Kd.at_int (Kd.V_reads' HO_6.out).2.2 0 p461 q461
   cases e461
   have qi461 : (0 < t453.length) = True := eq_true (by omega)
   (try rw [show ((0 : Int)).toNat = 0 from rfl] at hx461_0)
   (try rw [Addr.add_zero'] at hx461_0)
   replace p461 := eq_true p461
   replace q461 := eq_true q461
   have q94 : (1 : Int) ≤ ((t453.length : Int) : Int) := cd_
   obtain ⟨i094, hi094, _, hsz94, _⟩ := info_parts info2
   have hroom94 : t453.length ≤ co59 := (Kd.V_reads' HO_6.out).2.1
   have hC94 : Kd.F (Kd.int .i64) _ _ (some ad461) t453.length t453 := (Kd.V_at (base := w.heap.size) HO_6.out).2.2
   have hcut94 := cut_from (P := Tryz.prog) 34 2 .i64 Tryz.underlying34 hi094 1 hsz94 (some ad461) t453.length co59 1 (by omega) q94
   have hr94 := Kd.F_cut (m := (1 : Int).toNat) (c := co59) hC94 (by omega) hroom94
   obtain ⟨A94, hA94⟩ : ∃ A1, A1 = (if co59 = (1 : Int).toNat then (some ad461) else ((some ad461) : Option Addr).map (·.add ((1 : Int).toNat * 1))) := ⟨_, rfl⟩
   obtain ⟨c94, hc94⟩ : ∃ c1, c1 = co59 - (1 : Int).toNat := ⟨_, rfl⟩
   have hy94 : y462.length = t453.length - (1 : Int).toNat := (by rw [Ny462.out, List.length_drop] <;> omega)
   rw [show (t453).drop (1 : Int).toNat = y462 from Ny462.out.symm] at hr94
   replace hr94 : Kd.F (Kd.int .i64) _ _ A94 y462.length y462 := (by rw [hA94]; exact hr94)
   rw [← hy94, ← hA94, ← hc94] at hcut94
   have HO466 := Aside0.mk (show Kd.V (Kd.int .i64) 2 _ w.heap.size _ (.slice A94 y462.length c94) y462 from Kd.V_mk (by rw [hy94, hc94]; exact Nat.sub_le_sub_right hroom94 _) hr94)
   have HC466 := Aside0.mk (show y462.length ≤ c94 from by rw [hy94, hc94]; exact Nat.sub_le_sub_right hroom94 _)
   clear hr94 hC94 hroom94 hi094 hsz94 hc94
   have KY94 := Aside0.mk hy94
   have KA94 := Aside0.mk hA94
   clear hy94 hA94
   replace q94 := eq_true q94
   refine start_ (n := 9) (S := fun w' => w'.cell? ad461 = some (.int .i64 (rd t453 0))) (ds := []) (bl 9 0) (by kernel_rfl) rfl rfl (hx461_0) (fun hHeld => ?_); refine with_tabW impl_readNode.tab20 impl_readNode.bits20 (fun HT_ HW_ => ?_)
   generalize wc.drew = w93 at HO_6 BK433 BK442 HB HO466 hx461_0 hHeld ⊢
   refine pv_ 0 97 (bl 9 1) ?_
   refine pv_ 1 98 (bl 9 3) ?_
   refine pv_ 3 100 (bl 9 11) ?_
   refine pv_ 4 101 (bl 9 27) ?_
   refine take_ (i := 2) (N := some 99) (v := ?_) (a' := ?_) (bl 9 31) rfl rfl (take_ofW HT_.out HW_.out (by kernel_rfl)) (fun _ _ _ h => h) (Or.inl ⟨by rfl, ?_⟩) hHeld ?_ ?_
   rotate_left
   ·intro w' s0
    go_simp
    with_reducible rfl
   rotate_left
   ·simp only [Act.put, List.setIfInBounds_toArray, List.set_cons_zero, List.set_cons_succ, i64_w, i32_w]
    rfl
   refine pv_ 5 102 (bl 9 63) ?_
   refine on_ 6 none (bl 9 127) HT_.out rfl (fun K hK => ?_)
   have hs95 : w93.cell? ⟨gb442, 1, none⟩ = some (.int .i64 0) := (blk_cell BK442.out 1).trans rfl
   have hfs95 := blk_frozen BK442.out 1
   have hns95_0 := NB433_442.out
   have hms95_0 := NB442_433.out
   refine skip_ (w1 := ?_) (by rfl) rfl ?_ ?_
   rotate_left
   ·go_simp
    rfl
   refine hK.out _ _ (((cell_far (p := ⟨gb442, _, none⟩) b16_0 _).trans (hHeld))) (fun hHeld => ?_)
   clear hK K
   refine pv_ 7 103 (bl 9 255) ?_
   refine on_ 8 none (bl 9 511) HT_.out rfl (fun K hK => ?_)
   have hs96 : w93.cell? ⟨gb442, 6, none⟩ = some (.slice none 0 0) := (blk_cell BK442.out 6).trans rfl
   have hfs96 := blk_frozen BK442.out 6
   have hns96_0 := NB433_442.out
   have hms96_0 := NB442_433.out
   refine skip_ (w1 := ?_) (by rfl) rfl ?_ ?_
   rotate_left
   ·go_simp
    rfl
   refine hK.out _ _ (((cell_far (p := ⟨gb442, _, none⟩) b16_0 _).trans (hHeld))) (fun hHeld => ?_)
   clear hK K
   refine done_ (done_of HT_.out (by kernel_rfl)) ?_
   have hnb97 := NB442_433.out
   have hnc97 := NB433_442.out
   obtain ⟨_, _, _, _, _, _, _, _, _, _, _, _, _, _⟩ := cells7 BK442.out
   obtain ⟨_, _, _, _, _, _, _, _, _, _, _, _, _, _⟩ := cells7 BK433.out
   try go_wp2
   refine bodyPost_ret (results_ct rfl _ _ gb433 36 #[.int .i64 (wrap64 (t441 + 1)), .int .i64 (rd t453 0), .int .i64 0, .int .i64 0, .int .i64 x443004_10, .int .i64 0, .slice A94 y462.length c94] (0, 0) _ rfl (by refine cO_ ?_; refine blk_put (cs := #[.int .i64 (wrap64 (t441 + 1)), .int .i64 (rd t453 0), .int .i64 0, .int .i64 0, .int .i64 x443004_10, .int .i64 0, .slice none 0 0]) ?_ 6 _ rfl; refine cO_ ?_; refine blk_put (cs := #[.int .i64 (wrap64 (t441 + 1)), .int .i64 (rd t453 0), .int .i64 0, .int .i64 0, .int .i64 x443004_10, .int .i64 x434005_10, .slice none 0 0]) ?_ 5 _ rfl; refine cO_ ?_; refine blk_put (cs := #[.int .i64 (wrap64 (t441 + 1)), .int .i64 (rd t453 0), .int .i64 0, .int .i64 0, .int .i64 x434004_10, .int .i64 x434005_10, .slice none 0 0]) ?_ 4 _ rfl; refine cO_ ?_; refine blk_put (cs := #[.int .i64 (wrap64 (t441 + 1)), .int .i64 (rd t453 0), .int .i64 0, .int .i64 x434003_10, .int .i64 x434004_10, .int .i64 x434005_10, .slice none 0 0]) ?_ 3 _ rfl; refine cO_ ?_; refine blk_put (cs := #[.int .i64 (wrap64 (t441 + 1)), .int .i64 (rd t453 0), .int .i64 x434002_10, .int .i64 x434003_10, .int .i64 x434004_10, .int .i64 x434005_10, .slice none 0 0]) ?_ 2 _ rfl; refine cO_ ?_; refine blk_put (cs := #[.int .i64 (wrap64 (t441 + 1)), .int .i64 x434001_10, .int .i64 x434002_10, .int .i64 x434003_10, .int .i64 x434004_10, .int .i64 x434005_10, .slice none 0 0]) ?_ 1 _ rfl; refine cO_ ?_; refine blk_put (cs := #[.int .i64 x434000_10, .int .i64 x434001_10, .int .i64 x434002_10, .int .i64 x434003_10, .int .i64 x434004_10, .int .i64 x434005_10, .slice none 0 0]) ?_ 0 _ rfl; refine cO_ ?_; refine blk_far ?_ NB433_442.out _; refine cO_ ?_; refine blk_far ?_ NB433_442.out _; refine cO_ ?_; exact BK433.out) Tryz.underlying36 rfl (by kernel_rfl)) rfl ?_
   exact ⟨_, ce_, by refine cV_ ?_; exact Kd.V_mono (Kd.V_far (p := ⟨gb433, 6, none⟩) (Kd.V_far (p := ⟨gb433, 5, none⟩) (Kd.V_far (p := ⟨gb433, 4, none⟩) (Kd.V_far (p := ⟨gb433, 3, none⟩) (Kd.V_far (p := ⟨gb433, 2, none⟩) (Kd.V_far (p := ⟨gb433, 1, none⟩) (Kd.V_far (p := ⟨gb433, 0, none⟩) (Kd.V_far (p := ⟨gb442, 6, none⟩) (Kd.V_far (p := ⟨gb442, 1, none⟩) (Kd.V_mono (Kd.V_mono HO466.out (fun k_ hk => (⟨hk, hk.2.2⟩ : _ ∧ k_ ≠ gb442))) (fun k_ hk => (⟨hk, hk.1.2.1⟩ : _ ∧ k_ ≠ gb433))) (fun _ hk => hk.1.2) (.int .i64 (rd t453 0))) (fun _ hk => hk.1.2) (.slice A94 y462.length c94)) (fun _ hk => hk.2) (.int .i64 (wrap64 (t441 + 1)))) (fun _ hk => hk.2) (.int .i64 (rd t453 0))) (fun _ hk => hk.2) (.int .i64 0)) (fun _ hk => hk.2) (.int .i64 0)) (fun _ hk => hk.2) (.int .i64 x443004_10)) (fun _ hk => hk.2) (.int .i64 0)) (fun _ hk => hk.2) (.slice A94 y462.length c94)) (fun _ hk => hk.1.1.1), cB2_ GE433.out GE442.out⟩
  replace c90 := Bool.eq_false_iff.mpr c90
  subst c90
  rw [if_neg (show ¬ (false = true) by decide)] at H
  have HC100 := Aside0.mk H
  clear H
  go_upto_region 21 with (fail)
  go_cut [104] (fun v104 wc => ∃ (kq : Nat) (x104_99 : Bool), v104 = .bool x104_99 ∧ Aside0 (impl_readNode.j5 kq t453 (t453.length : Int) x104_99 (wrap64 (t441 + 1)) 0 0 0 x443004_10 0 = some (r1, r2, r3, r4, r5, r6, r7, r8)) ∧ Aside0 (kq ≤ kj81) ∧ Aside0 (Kd.V (Kd.int .i64) 2 wc w.heap.size (fun k_ => (w.heap.size ≤ k_) ∧ k_ ≠ gb433 ∧ k_ ≠ gb442) (.slice Ao59 t453.length co59) t453) ∧ Aside0 (wc.heap[gb433]? = some (.cells #[.int .i64 x434000_10, .int .i64 x434001_10, .int .i64 x434002_10, .int .i64 x434003_10, .int .i64 x434004_10, .int .i64 x434005_10, (.slice none 0 0)] 36 (0, 0))) ∧ Aside0 (wc.heap[gb442]? = some (.cells #[.int .i64 (wrap64 (t441 + 1)), .int .i64 0, .int .i64 0, .int .i64 0, .int .i64 x443004_10, .int .i64 0, (.slice none 0 0)] 36 (0, 0))) ∧ Aside0 (Below w.heap.size w wc))
  case first =>
   have H := HC100.out
   clear HC100
   by_cases c101 : (wrap64 (t441 + 1)) = 4
   ·rw [if_pos c101] at H
    have c101b0 : ((wrap64 (t441 + 1)) == 4) = true := beq_iff_eq.mpr c101
    have c101b1 : ((wrap64 (t441 + 1)) != 4) = false := bne_eq_false_iff_eq.mpr c101
    clear c101
    (first | rw [c101b0] | (simp only [i64_w, i32_w]; rw [c101b0]) | skip)
    have H' := Aside0.mk H
    clear H
    have hnb102 := NB442_433.out
    have hnc102 := NB433_442.out
    obtain ⟨_, _, _, _, _, _, _, _, _, _, _, _, _, _⟩ := cells7 BK442.out
    go_wp2
    go_meet
    case rel => exact ⟨_, (((t453.length : Int) == 2)), cs_, H', ⟨q16_0⟩, ⟨cV_ HO_6.out⟩, ⟨cO_ BK433.out⟩, ⟨cO_ BK442.out⟩, ⟨cB2_ GE433.out GE442.out⟩⟩
   rw [if_neg c101] at H
   have c101b0 : ((wrap64 (t441 + 1)) == 4) = false := beq_eq_false_iff_ne.mpr c101
   have c101b1 : ((wrap64 (t441 + 1)) != 4) = true := bne_iff_ne.mpr c101
   (first | rw [c101b0] | (simp only [i64_w, i32_w]; rw [c101b0]) | skip)
   have H' := Aside0.mk H
   clear H
   have hnb104 := NB442_433.out
   have hnc104 := NB433_442.out
   obtain ⟨_, _, _, _, _, _, _, _, _, _, _, _, _, _⟩ := cells7 BK442.out
   go_wp2
   go_meet
   case rel => exact ⟨_, (false), cs_, H', ⟨q16_0⟩, ⟨cV_ HO_6.out⟩, ⟨cO_ BK433.out⟩, ⟨cO_ BK442.out⟩, ⟨cB2_ GE433.out GE442.out⟩⟩
  case rest =>
   clear HO_6 BK433 BK442 HB HC100
   obtain ⟨kq, x104_99, rfl, HA, HJ99, HO_6, BK433, BK442, HB⟩ := hcut
   cases kq with
   | zero => exact absurd HA.out (by simp [impl_readNode.j5])
   | succ kj99 =>
    have H := HA.out
    clear HA
    simp only [impl_readNode.j5] at H
    by_cases c106 : x104_99 = true
    ·subst c106
     rw [if_pos rfl] at H
     by_cases c107 : 0 < (t453.length : Int)
     rotate_left
     ·rw [if_neg c107] at H
      exact absurd H (by simp)
     rw [if_pos c107] at H
     have c107b0 := decide_eq_true c107
     have c107b1 : decide (0 < t453.length) = true := decide_eq_true (by omega)
     clear c107
     by_cases c108 : 1 < (t453.length : Int)
     rotate_left
     ·rw [if_neg c108] at H
      exact absurd H (by simp)
     rw [if_pos c108] at H
     have c108b0 := decide_eq_true c108
     have c108b1 : decide (1 < t453.length) = true := decide_eq_true (by omega)
     clear c108
     simp only [Option.some.injEq, Prod.mk.injEq] at H
     obtain ⟨rfl, rfl, rfl, rfl, rfl, rfl, rfl, rfl⟩ := H
     try go_wp2
     replace HO_6 := Aside0.mk (Kd.V_drew HO_6.out)
     replace BK433 := Aside0.mk (blk_drew BK433.out)
     replace BK442 := Aside0.mk (blk_drew BK442.out)
     replace HB := Aside0.mk (below_drew1 HB.out)
     have p467 : 0 ≤ (0 : Int) := (by omega)
     have q467 : 0 < (t453.length : Int) := cd_
     obtain ⟨ad467, e467, hx467_0⟩ := Kd.at_int (Kd.V_reads' HO_6.out).2.2 0 p467 q467
     cases e467
     have qi467 : (0 < t453.length) = True := eq_true (by omega)
     (try rw [show ((0 : Int)).toNat = 0 from rfl] at hx467_0)
     (try rw [Addr.add_zero'] at hx467_0)
     replace p467 := eq_true p467
     replace q467 := eq_true q467
     have p468 : 0 ≤ (1 : Int) := (by omega)
     have q468 : 1 < (t453.length : Int) := cd_
     obtain ⟨ad468, e468, hx468_0⟩ := Kd.at_int (Kd.V_reads' HO_6.out).2.2 1 p468 q468
     obtain rfl : ad467 = ad468 := (by injection e468)
     (try simp only [show (1 : Int).toNat = 1 from rfl, Nat.reduceMul, Nat.reduceEqDiff, Go.Addr.add, ↓reduceIte] at hx468_0)
     have qi468 : (1 < t453.length) = True := eq_true (by omega)
     (try rw [show ((1 : Int)).toNat = 1 from rfl] at hx468_0)
     replace p468 := eq_true p468
     replace q468 := eq_true q468
     refine start_ (n := 10) (S := fun w' => w'.cell? ad467 = some (.int .i64 (rd t453 0)) ∧ w'.cell? ⟨ad467.block, ad467.off + 1, none⟩ = some (.int .i64 (rd t453 1))) (ds := []) (bl 10 0) (by kernel_rfl) rfl rfl ⟨hx467_0, hx468_0⟩ (fun hHeld => ?_); refine with_tabW impl_readNode.tab22 impl_readNode.bits22 (fun HT_ HW_ => ?_)
     generalize wc.drew = w109 at HO_6 BK433 BK442 HB hx467_0 hx468_0 hHeld ⊢
     refine pv_ 0 112 (bl 10 1) ?_
     refine pv_ 1 113 (bl 10 3) ?_
     refine pv_ 3 115 (bl 10 11) ?_
     refine pv_ 4 116 (bl 10 27) ?_
     refine tv_ 2 114 (bl 10 31) rfl hHeld (fun w' s_ => by obtain ⟨s0, s1⟩ := s_; go_simp; with_reducible rfl) ?_
     refine pv_ 6 118 (bl 10 95) ?_
     refine tv_ 5 117 (bl 10 127) rfl hHeld (fun w' s_ => by obtain ⟨s0, s1⟩ := s_; go_simp; with_reducible rfl) ?_
     refine on_ 7 none (bl 10 255) HT_.out rfl (fun K hK => ?_)
     have hs110 : w109.cell? ⟨gb442, 1, none⟩ = some (.int .i64 0) := (blk_cell BK442.out 1).trans rfl
     have hfs110 := blk_frozen BK442.out 1
     have hns110_0 := NB433_442.out
     have hms110_0 := NB442_433.out
     refine skip_ (w1 := ?_) (by rfl) rfl ?_ ?_
     rotate_left
     ·go_simp
      rfl
     refine hK.out _ _ ⟨((cell_far (p := ⟨gb442, _, none⟩) b16_0 _).trans (hHeld.1)), ((cell_far (p := ⟨gb442, _, none⟩) b16_0 _).trans (hHeld.2))⟩ (fun hHeld => ?_)
     clear hK K
     refine pv_ 8 119 (bl 10 511) ?_
     refine on_ 9 none (bl 10 1023) HT_.out rfl (fun K hK => ?_)
     have hs111 : w109.cell? ⟨gb442, 2, none⟩ = some (.int .i64 0) := (blk_cell BK442.out 2).trans rfl
     have hfs111 := blk_frozen BK442.out 2
     have hns111_0 := NB433_442.out
     have hms111_0 := NB442_433.out
     refine skip_ (w1 := ?_) (by rfl) rfl ?_ ?_
     rotate_left
     ·go_simp
      rfl
     refine hK.out _ _ ⟨((cell_far (p := ⟨gb442, _, none⟩) b16_0 _).trans (hHeld.1)), ((cell_far (p := ⟨gb442, _, none⟩) b16_0 _).trans (hHeld.2))⟩ (fun hHeld => ?_)
     clear hK K
     refine done_ (done_of HT_.out (by kernel_rfl)) ?_
     have hnb112 := NB442_433.out
     have hnc112 := NB433_442.out
     obtain ⟨_, _, _, _, _, _, _, _, _, _, _, _, _, _⟩ := cells7 BK442.out
     obtain ⟨_, _, _, _, _, _, _, _, _, _, _, _, _, _⟩ := cells7 BK433.out
     try go_wp2
     refine bodyPost_ret (results_ct rfl _ _ gb433 36 #[.int .i64 (wrap64 (t441 + 1)), .int .i64 (rd t453 0), .int .i64 (rd t453 1), .int .i64 0, .int .i64 x443004_10, .int .i64 0, .slice none 0 0] (0, 0) _ rfl (by refine cO_ ?_; refine blk_put (cs := #[.int .i64 (wrap64 (t441 + 1)), .int .i64 (rd t453 0), .int .i64 (rd t453 1), .int .i64 0, .int .i64 x443004_10, .int .i64 0, .slice none 0 0]) ?_ 6 _ rfl; refine cO_ ?_; refine blk_put (cs := #[.int .i64 (wrap64 (t441 + 1)), .int .i64 (rd t453 0), .int .i64 (rd t453 1), .int .i64 0, .int .i64 x443004_10, .int .i64 x434005_10, .slice none 0 0]) ?_ 5 _ rfl; refine cO_ ?_; refine blk_put (cs := #[.int .i64 (wrap64 (t441 + 1)), .int .i64 (rd t453 0), .int .i64 (rd t453 1), .int .i64 0, .int .i64 x434004_10, .int .i64 x434005_10, .slice none 0 0]) ?_ 4 _ rfl; refine cO_ ?_; refine blk_put (cs := #[.int .i64 (wrap64 (t441 + 1)), .int .i64 (rd t453 0), .int .i64 (rd t453 1), .int .i64 x434003_10, .int .i64 x434004_10, .int .i64 x434005_10, .slice none 0 0]) ?_ 3 _ rfl; refine cO_ ?_; refine blk_put (cs := #[.int .i64 (wrap64 (t441 + 1)), .int .i64 (rd t453 0), .int .i64 x434002_10, .int .i64 x434003_10, .int .i64 x434004_10, .int .i64 x434005_10, .slice none 0 0]) ?_ 2 _ rfl; refine cO_ ?_; refine blk_put (cs := #[.int .i64 (wrap64 (t441 + 1)), .int .i64 x434001_10, .int .i64 x434002_10, .int .i64 x434003_10, .int .i64 x434004_10, .int .i64 x434005_10, .slice none 0 0]) ?_ 1 _ rfl; refine cO_ ?_; refine blk_put (cs := #[.int .i64 x434000_10, .int .i64 x434001_10, .int .i64 x434002_10, .int .i64 x434003_10, .int .i64 x434004_10, .int .i64 x434005_10, .slice none 0 0]) ?_ 0 _ rfl; refine cO_ ?_; refine blk_far ?_ NB433_442.out _; refine cO_ ?_; refine blk_far ?_ NB433_442.out _; refine cO_ ?_; exact BK433.out) Tryz.underlying36 rfl (by kernel_rfl)) rfl ?_
     exact ⟨_, ce_, Kd.R_V (Kd.R_nil (Kd.int .i64) 2 _ w.heap.size (fun k_ => (w.heap.size ≤ k_))), cB2_ GE433.out GE442.out⟩
    replace c106 := Bool.eq_false_iff.mpr c106
    subst c106
    rw [if_neg (show ¬ (false = true) by decide)] at H
    have HC115 := Aside0.mk H
    clear H
    go_upto_region 23 with (fail)
    go_cut [120] (fun v120 wc => ∃ (kq : Nat) (x120_114 : Bool), v120 = .bool x120_114 ∧ Aside0 (impl_readNode.j6 kq t453 (t453.length : Int) x120_114 (wrap64 (t441 + 1)) 0 0 0 x443004_10 0 = some (r1, r2, r3, r4, r5, r6, r7, r8)) ∧ Aside0 (kq ≤ kj99) ∧ Aside0 (Kd.V (Kd.int .i64) 2 wc w.heap.size (fun k_ => (w.heap.size ≤ k_) ∧ k_ ≠ gb433 ∧ k_ ≠ gb442) (.slice Ao59 t453.length co59) t453) ∧ Aside0 (wc.heap[gb433]? = some (.cells #[.int .i64 x434000_10, .int .i64 x434001_10, .int .i64 x434002_10, .int .i64 x434003_10, .int .i64 x434004_10, .int .i64 x434005_10, (.slice none 0 0)] 36 (0, 0))) ∧ Aside0 (wc.heap[gb442]? = some (.cells #[.int .i64 (wrap64 (t441 + 1)), .int .i64 0, .int .i64 0, .int .i64 0, .int .i64 x443004_10, .int .i64 0, (.slice none 0 0)] 36 (0, 0))) ∧ Aside0 (Below w.heap.size w wc))
    case first =>
     have H := HC115.out
     clear HC115
     by_cases c116 : (wrap64 (t441 + 1)) = 6
     ·rw [if_pos c116] at H
      have c116b0 : ((wrap64 (t441 + 1)) == 6) = true := beq_iff_eq.mpr c116
      have c116b1 : ((wrap64 (t441 + 1)) != 6) = false := bne_eq_false_iff_eq.mpr c116
      clear c116
      (first | rw [c116b0] | (simp only [i64_w, i32_w]; rw [c116b0]) | skip)
      have H' := Aside0.mk H
      clear H
      have hnb117 := NB442_433.out
      have hnc117 := NB433_442.out
      obtain ⟨_, _, _, _, _, _, _, _, _, _, _, _, _, _⟩ := cells7 BK442.out
      go_wp2
      go_meet
      case rel => exact ⟨_, (((t453.length : Int) == 3)), cs_, H', ⟨q16_1⟩, ⟨cV_ HO_6.out⟩, ⟨cO_ BK433.out⟩, ⟨cO_ BK442.out⟩, ⟨cB2_ GE433.out GE442.out⟩⟩
     rw [if_neg c116] at H
     have c116b0 : ((wrap64 (t441 + 1)) == 6) = false := beq_eq_false_iff_ne.mpr c116
     have c116b1 : ((wrap64 (t441 + 1)) != 6) = true := bne_iff_ne.mpr c116
     (first | rw [c116b0] | (simp only [i64_w, i32_w]; rw [c116b0]) | skip)
     have H' := Aside0.mk H
     clear H
     have hnb119 := NB442_433.out
     have hnc119 := NB433_442.out
     obtain ⟨_, _, _, _, _, _, _, _, _, _, _, _, _, _⟩ := cells7 BK442.out
     go_wp2
     go_meet
     case rel => exact ⟨_, (false), cs_, H', ⟨q16_1⟩, ⟨cV_ HO_6.out⟩, ⟨cO_ BK433.out⟩, ⟨cO_ BK442.out⟩, ⟨cB2_ GE433.out GE442.out⟩⟩
    case rest =>
     clear HO_6 BK433 BK442 HB HC115
     obtain ⟨kq, x120_114, rfl, HA, HJ114, HO_6, BK433, BK442, HB⟩ := hcut
     cases kq with
     | zero => exact absurd HA.out (by simp [impl_readNode.j6])
     | succ kj114 =>
      have H := HA.out
      clear HA
      simp only [impl_readNode.j6] at H
      by_cases c121 : x120_114 = true
      ·subst c121
       rw [if_pos rfl] at H
       by_cases c122 : 0 < (t453.length : Int)
       rotate_left
       ·rw [if_neg c122] at H
        exact absurd H (by simp)
       rw [if_pos c122] at H
       have c122b0 := decide_eq_true c122
       have c122b1 : decide (0 < t453.length) = true := decide_eq_true (by omega)
       clear c122
       by_cases c123 : 1 < (t453.length : Int)
       rotate_left
       ·rw [if_neg c123] at H
        exact absurd H (by simp)
       rw [if_pos c123] at H
       have c123b0 := decide_eq_true c123
       have c123b1 : decide (1 < t453.length) = true := decide_eq_true (by omega)
       clear c123
       by_cases c124 : 2 < (t453.length : Int)
       rotate_left
       ·rw [if_neg c124] at H
        exact absurd H (by simp)
       rw [if_pos c124] at H
       have c124b0 := decide_eq_true c124
       have c124b1 : decide (2 < t453.length) = true := decide_eq_true (by omega)
       clear c124
       simp only [Option.some.injEq, Prod.mk.injEq] at H
       obtain ⟨rfl, rfl, rfl, rfl, rfl, rfl, rfl, rfl⟩ := H
       try go_wp2
       replace HO_6 := Aside0.mk (Kd.V_drew HO_6.out)
       replace BK433 := Aside0.mk (blk_drew BK433.out)
       replace BK442 := Aside0.mk (blk_drew BK442.out)
       replace HB := Aside0.mk (below_drew1 HB.out)
       have p469 : 0 ≤ (0 : Int) := (by omega)
       have q469 : 0 < (t453.length : Int) := cd_
       obtain ⟨ad469, e469, hx469_0⟩ := Kd.at_int (Kd.V_reads' HO_6.out).2.2 0 p469 q469
       cases e469
       have qi469 : (0 < t453.length) = True := eq_true (by omega)
       (try rw [show ((0 : Int)).toNat = 0 from rfl] at hx469_0)
       (try rw [Addr.add_zero'] at hx469_0)
       replace p469 := eq_true p469
       replace q469 := eq_true q469
       have p470 : 0 ≤ (1 : Int) := (by omega)
       have q470 : 1 < (t453.length : Int) := cd_
       obtain ⟨ad470, e470, hx470_0⟩ := Kd.at_int (Kd.V_reads' HO_6.out).2.2 1 p470 q470
       obtain rfl : ad469 = ad470 := (by injection e470)
       (try simp only [show (1 : Int).toNat = 1 from rfl, Nat.reduceMul, Nat.reduceEqDiff, Go.Addr.add, ↓reduceIte] at hx470_0)
       have qi470 : (1 < t453.length) = True := eq_true (by omega)
       (try rw [show ((1 : Int)).toNat = 1 from rfl] at hx470_0)
       replace p470 := eq_true p470
       replace q470 := eq_true q470
       have p471 : 0 ≤ (2 : Int) := (by omega)
       have q471 : 2 < (t453.length : Int) := cd_
       obtain ⟨ad471, e471, hx471_0⟩ := Kd.at_int (Kd.V_reads' HO_6.out).2.2 2 p471 q471
       obtain rfl : ad469 = ad471 := (by injection e471)
       (try simp only [show (2 : Int).toNat = 2 from rfl, Nat.reduceMul, Nat.reduceEqDiff, Go.Addr.add, ↓reduceIte] at hx471_0)
       have qi471 : (2 < t453.length) = True := eq_true (by omega)
       (try rw [show ((2 : Int)).toNat = 2 from rfl] at hx471_0)
       replace p471 := eq_true p471
       replace q471 := eq_true q471
       refine start_ (n := 15) (S := fun w' => w'.cell? ad469 = some (.int .i64 (rd t453 0)) ∧ w'.cell? ⟨ad469.block, ad469.off + 1, none⟩ = some (.int .i64 (rd t453 1)) ∧ w'.cell? ⟨ad469.block, ad469.off + 2, none⟩ = some (.int .i64 (rd t453 2))) (ds := []) (bl 15 0) (by kernel_rfl) rfl rfl ⟨hx469_0, hx470_0, hx471_0⟩ (fun hHeld => ?_); refine with_tabW impl_readNode.tab24 impl_readNode.bits24 (fun HT_ HW_ => ?_)
       generalize wc.drew = w125 at HO_6 BK433 BK442 HB hx469_0 hx470_0 hx471_0 hHeld ⊢
       refine pv_ 0 128 (bl 15 1) ?_
       refine pv_ 1 129 (bl 15 3) ?_
       refine pv_ 3 131 (bl 15 11) ?_
       refine pv_ 4 132 (bl 15 27) ?_
       refine pv_ 6 134 (bl 15 91) ?_
       refine pv_ 7 135 (bl 15 219) ?_
       refine tv_ 2 130 (bl 15 223) rfl hHeld (fun w' s_ => by obtain ⟨s0, s1, s2⟩ := s_; go_simp; with_reducible rfl) ?_
       refine pv_ 9 137 (bl 15 735) ?_
       refine tv_ 5 133 (bl 15 767) rfl hHeld (fun w' s_ => by obtain ⟨s0, s1, s2⟩ := s_; go_simp; with_reducible rfl) ?_
       refine tv_ 8 136 (bl 15 1023) rfl hHeld (fun w' s_ => by obtain ⟨s0, s1, s2⟩ := s_; go_simp; with_reducible rfl) ?_
       refine on_ 10 none (bl 15 2047) HT_.out rfl (fun K hK => ?_)
       have hs126 : w125.cell? ⟨gb442, 1, none⟩ = some (.int .i64 0) := (blk_cell BK442.out 1).trans rfl
       have hfs126 := blk_frozen BK442.out 1
       have hns126_0 := NB433_442.out
       have hms126_0 := NB442_433.out
       refine skip_ (w1 := ?_) (by rfl) rfl ?_ ?_
       rotate_left
       ·go_simp
        rfl
       refine hK.out _ _ ⟨((cell_far (p := ⟨gb442, _, none⟩) b16_0 _).trans (hHeld.1)), ((cell_far (p := ⟨gb442, _, none⟩) b16_0 _).trans (hHeld.2.1)), ((cell_far (p := ⟨gb442, _, none⟩) b16_0 _).trans (hHeld.2.2))⟩ (fun hHeld => ?_)
       clear hK K
       refine pv_ 11 138 (bl 15 4095) ?_
       refine on_ 12 none (bl 15 8191) HT_.out rfl (fun K hK => ?_)
       have hs127 : w125.cell? ⟨gb442, 2, none⟩ = some (.int .i64 0) := (blk_cell BK442.out 2).trans rfl
       have hfs127 := blk_frozen BK442.out 2
       have hns127_0 := NB433_442.out
       have hms127_0 := NB442_433.out
       refine skip_ (w1 := ?_) (by rfl) rfl ?_ ?_
       rotate_left
       ·go_simp
        rfl
       refine hK.out _ _ ⟨((cell_far (p := ⟨gb442, _, none⟩) b16_0 _).trans (hHeld.1)), ((cell_far (p := ⟨gb442, _, none⟩) b16_0 _).trans (hHeld.2.1)), ((cell_far (p := ⟨gb442, _, none⟩) b16_0 _).trans (hHeld.2.2))⟩ (fun hHeld => ?_)
       clear hK K
       refine pv_ 13 139 (bl 15 16383) ?_
       refine on_ 14 none (bl 15 32767) HT_.out rfl (fun K hK => ?_)
       have hs128 : w125.cell? ⟨gb442, 3, none⟩ = some (.int .i64 0) := (blk_cell BK442.out 3).trans rfl
       have hfs128 := blk_frozen BK442.out 3
       have hns128_0 := NB433_442.out
       have hms128_0 := NB442_433.out
       refine skip_ (w1 := ?_) (by rfl) rfl ?_ ?_
       rotate_left
       ·go_simp
        rfl
       refine hK.out _ _ ⟨((cell_far (p := ⟨gb442, _, none⟩) b16_0 _).trans (hHeld.1)), ((cell_far (p := ⟨gb442, _, none⟩) b16_0 _).trans (hHeld.2.1)), ((cell_far (p := ⟨gb442, _, none⟩) b16_0 _).trans (hHeld.2.2))⟩ (fun hHeld => ?_)
       clear hK K
       refine done_ (done_of HT_.out (by kernel_rfl)) ?_
       have hnb129 := NB442_433.out
       have hnc129 := NB433_442.out
       obtain ⟨_, _, _, _, _, _, _, _, _, _, _, _, _, _⟩ := cells7 BK442.out
       obtain ⟨_, _, _, _, _, _, _, _, _, _, _, _, _, _⟩ := cells7 BK433.out
       try go_wp2
       refine bodyPost_ret (results_ct rfl _ _ gb433 36 #[.int .i64 (wrap64 (t441 + 1)), .int .i64 (rd t453 0), .int .i64 (rd t453 1), .int .i64 (rd t453 2), .int .i64 x443004_10, .int .i64 0, .slice none 0 0] (0, 0) _ rfl (by refine cO_ ?_; refine blk_put (cs := #[.int .i64 (wrap64 (t441 + 1)), .int .i64 (rd t453 0), .int .i64 (rd t453 1), .int .i64 (rd t453 2), .int .i64 x443004_10, .int .i64 0, .slice none 0 0]) ?_ 6 _ rfl; refine cO_ ?_; refine blk_put (cs := #[.int .i64 (wrap64 (t441 + 1)), .int .i64 (rd t453 0), .int .i64 (rd t453 1), .int .i64 (rd t453 2), .int .i64 x443004_10, .int .i64 x434005_10, .slice none 0 0]) ?_ 5 _ rfl; refine cO_ ?_; refine blk_put (cs := #[.int .i64 (wrap64 (t441 + 1)), .int .i64 (rd t453 0), .int .i64 (rd t453 1), .int .i64 (rd t453 2), .int .i64 x434004_10, .int .i64 x434005_10, .slice none 0 0]) ?_ 4 _ rfl; refine cO_ ?_; refine blk_put (cs := #[.int .i64 (wrap64 (t441 + 1)), .int .i64 (rd t453 0), .int .i64 (rd t453 1), .int .i64 x434003_10, .int .i64 x434004_10, .int .i64 x434005_10, .slice none 0 0]) ?_ 3 _ rfl; refine cO_ ?_; refine blk_put (cs := #[.int .i64 (wrap64 (t441 + 1)), .int .i64 (rd t453 0), .int .i64 x434002_10, .int .i64 x434003_10, .int .i64 x434004_10, .int .i64 x434005_10, .slice none 0 0]) ?_ 2 _ rfl; refine cO_ ?_; refine blk_put (cs := #[.int .i64 (wrap64 (t441 + 1)), .int .i64 x434001_10, .int .i64 x434002_10, .int .i64 x434003_10, .int .i64 x434004_10, .int .i64 x434005_10, .slice none 0 0]) ?_ 1 _ rfl; refine cO_ ?_; refine blk_put (cs := #[.int .i64 x434000_10, .int .i64 x434001_10, .int .i64 x434002_10, .int .i64 x434003_10, .int .i64 x434004_10, .int .i64 x434005_10, .slice none 0 0]) ?_ 0 _ rfl; refine cO_ ?_; refine blk_far ?_ NB433_442.out _; refine cO_ ?_; refine blk_far ?_ NB433_442.out _; refine cO_ ?_; refine blk_far ?_ NB433_442.out _; refine cO_ ?_; exact BK433.out) Tryz.underlying36 rfl (by kernel_rfl)) rfl ?_
       exact ⟨_, ce_, Kd.R_V (Kd.R_nil (Kd.int .i64) 2 _ w.heap.size (fun k_ => (w.heap.size ≤ k_))), cB2_ GE433.out GE442.out⟩
      replace c121 := Bool.eq_false_iff.mpr c121
      subst c121
      rw [if_neg (show ¬ (false = true) by decide)] at H
      have HC132 := Aside0.mk H
      clear H
      go_upto_region 25 with (fail)
      go_cut [140] (fun v140 wc => ∃ (kq : Nat) (x140_131 : Bool), v140 = .bool x140_131 ∧ Aside0 (impl_readNode.j7 kq t453 (t453.length : Int) x140_131 (wrap64 (t441 + 1)) 0 0 0 x443004_10 0 = some (r1, r2, r3, r4, r5, r6, r7, r8)) ∧ Aside0 (kq ≤ kj114) ∧ Aside0 (Kd.V (Kd.int .i64) 2 wc w.heap.size (fun k_ => (w.heap.size ≤ k_) ∧ k_ ≠ gb433 ∧ k_ ≠ gb442) (.slice Ao59 t453.length co59) t453) ∧ Aside0 (wc.heap[gb433]? = some (.cells #[.int .i64 x434000_10, .int .i64 x434001_10, .int .i64 x434002_10, .int .i64 x434003_10, .int .i64 x434004_10, .int .i64 x434005_10, (.slice none 0 0)] 36 (0, 0))) ∧ Aside0 (wc.heap[gb442]? = some (.cells #[.int .i64 (wrap64 (t441 + 1)), .int .i64 0, .int .i64 0, .int .i64 0, .int .i64 x443004_10, .int .i64 0, (.slice none 0 0)] 36 (0, 0))) ∧ Aside0 (Below w.heap.size w wc))
      case first =>
       have H := HC132.out
       clear HC132
       obtain ⟨t472, A133, H⟩ := bnd_ H
       try dsimp only at H
       by_cases c134 : t472 = true
       ·subst c134
        rw [if_pos rfl] at H
        have H' := Aside0.mk H
        clear H
        have hnb135 := NB442_433.out
        have hnc135 := NB433_442.out
        obtain ⟨_, _, _, _, _, _, _, _, _, _, _, _, _, _⟩ := cells7 BK442.out
        go_wp2_with (first | (refine gl_ 53 (some 143) Tryz.func53 #[.int .i64 (wrap64 (t441 + 1))] ?_; (with_reducible refine (impl_grouped.calls (wrap64 (t441 + 1)) true _ A133.out).mono ?_); rintro e w' ⟨rfl, ⟨nd, rfl⟩⟩; refine ⟨_, rfl, ?_⟩))
        go_meet
        case rel => exact ⟨_, (((t453.length : Int) == 2)), cs_, H', ⟨q16_2⟩, ⟨cV_ HO_6.out⟩, ⟨cO_ BK433.out⟩, ⟨cO_ BK442.out⟩, ⟨cB2_ GE433.out GE442.out⟩⟩
       replace c134 := Bool.eq_false_iff.mpr c134
       subst c134
       rw [if_neg (show ¬ (false = true) by decide)] at H
       have H' := Aside0.mk H
       clear H
       have hnb137 := NB442_433.out
       have hnc137 := NB433_442.out
       obtain ⟨_, _, _, _, _, _, _, _, _, _, _, _, _, _⟩ := cells7 BK442.out
       go_wp2_with (first | (refine gl_ 53 (some 143) Tryz.func53 #[.int .i64 (wrap64 (t441 + 1))] ?_; (with_reducible refine (impl_grouped.calls (wrap64 (t441 + 1)) false _ A133.out).mono ?_); rintro e w' ⟨rfl, ⟨nd, rfl⟩⟩; refine ⟨_, rfl, ?_⟩))
       go_meet
       case rel => exact ⟨_, (false), cs_, H', ⟨q16_2⟩, ⟨cV_ HO_6.out⟩, ⟨cO_ BK433.out⟩, ⟨cO_ BK442.out⟩, ⟨cB2_ GE433.out GE442.out⟩⟩
      case rest =>
       clear HJ10  HJ47 HJ57 HJ81 HJ99 HO_6 BK433 BK442 HB HJ114 HC132
       obtain ⟨kq, x140_131, rfl, HA, HJ131, HO_6, BK433, BK442, HB⟩ := hcut
       cases kq with
       | zero => exact absurd HA.out (by simp [impl_readNode.j7])
       | succ kj131 =>
        have H := HA.out
        clear HA
        simp only [impl_readNode.j7] at H
        by_cases c139 : x140_131 = true
        ·subst c139
         rw [if_pos rfl] at H
         by_cases c140 : 0 < (t453.length : Int)
         rotate_left
         ·rw [if_neg c140] at H
          exact absurd H (by simp)
         rw [if_pos c140] at H
         have c140b0 := decide_eq_true c140
         have c140b1 : decide (0 < t453.length) = true := decide_eq_true (by omega)
         clear c140
         by_cases c141 : 1 < (t453.length : Int)
         rotate_left
         ·rw [if_neg c141] at H
          exact absurd H (by simp)
         rw [if_pos c141] at H
         have c141b0 := decide_eq_true c141
         have c141b1 : decide (1 < t453.length) = true := decide_eq_true (by omega)
         clear c141
         simp only [Option.some.injEq, Prod.mk.injEq] at H
         obtain ⟨rfl, rfl, rfl, rfl, rfl, rfl, rfl, rfl⟩ := H
         try go_wp2
         replace HO_6 := Aside0.mk (Kd.V_drew HO_6.out)
         replace BK433 := Aside0.mk (blk_drew BK433.out)
         replace BK442 := Aside0.mk (blk_drew BK442.out)
         replace HB := Aside0.mk (below_drew1 HB.out)
         have p473 : 0 ≤ (0 : Int) := (by omega)
         have q473 : 0 < (t453.length : Int) := cd_
         obtain ⟨ad473, e473, hx473_0⟩ := Kd.at_int (Kd.V_reads' HO_6.out).2.2 0 p473 q473
         cases e473
         have qi473 : (0 < t453.length) = True := eq_true (by omega)
         (try rw [show ((0 : Int)).toNat = 0 from rfl] at hx473_0)
         (try rw [Addr.add_zero'] at hx473_0)
         replace p473 := eq_true p473
         replace q473 := eq_true q473
         have p474 : 0 ≤ (1 : Int) := (by omega)
         have q474 : 1 < (t453.length : Int) := cd_
         obtain ⟨ad474, e474, hx474_0⟩ := Kd.at_int (Kd.V_reads' HO_6.out).2.2 1 p474 q474
         obtain rfl : ad473 = ad474 := (by injection e474)
         (try simp only [show (1 : Int).toNat = 1 from rfl, Nat.reduceMul, Nat.reduceEqDiff, Go.Addr.add, ↓reduceIte] at hx474_0)
         have qi474 : (1 < t453.length) = True := eq_true (by omega)
         (try rw [show ((1 : Int)).toNat = 1 from rfl] at hx474_0)
         replace p474 := eq_true p474
         replace q474 := eq_true q474
         refine start_ (n := 10) (S := fun w' => w'.cell? ad473 = some (.int .i64 (rd t453 0)) ∧ w'.cell? ⟨ad473.block, ad473.off + 1, none⟩ = some (.int .i64 (rd t453 1))) (ds := []) (bl 10 0) (by kernel_rfl) rfl rfl ⟨hx473_0, hx474_0⟩ (fun hHeld => ?_); refine with_tabW impl_readNode.tab26 impl_readNode.bits26 (fun HT_ HW_ => ?_)
         generalize wc.drew = w142 at HO_6 BK433 BK442 HB hx473_0 hx474_0 hHeld ⊢
         refine pv_ 0 148 (bl 10 1) ?_
         refine pv_ 1 149 (bl 10 3) ?_
         refine pv_ 3 151 (bl 10 11) ?_
         refine pv_ 4 152 (bl 10 27) ?_
         refine tv_ 2 150 (bl 10 31) rfl hHeld (fun w' s_ => by obtain ⟨s0, s1⟩ := s_; go_simp; with_reducible rfl) ?_
         refine pv_ 6 154 (bl 10 95) ?_
         refine tv_ 5 153 (bl 10 127) rfl hHeld (fun w' s_ => by obtain ⟨s0, s1⟩ := s_; go_simp; with_reducible rfl) ?_
         refine on_ 7 none (bl 10 255) HT_.out rfl (fun K hK => ?_)
         have hs143 : w142.cell? ⟨gb442, 1, none⟩ = some (.int .i64 0) := (blk_cell BK442.out 1).trans rfl
         have hfs143 := blk_frozen BK442.out 1
         have hns143_0 := NB433_442.out
         have hms143_0 := NB442_433.out
         refine skip_ (w1 := ?_) (by rfl) rfl ?_ ?_
         rotate_left
         ·go_simp
          rfl
         refine hK.out _ _ ⟨((cell_far (p := ⟨gb442, _, none⟩) b16_0 _).trans (hHeld.1)), ((cell_far (p := ⟨gb442, _, none⟩) b16_0 _).trans (hHeld.2))⟩ (fun hHeld => ?_)
         clear hK K
         refine pv_ 8 155 (bl 10 511) ?_
         refine on_ 9 none (bl 10 1023) HT_.out rfl (fun K hK => ?_)
         have hs144 : w142.cell? ⟨gb442, 3, none⟩ = some (.int .i64 0) := (blk_cell BK442.out 3).trans rfl
         have hfs144 := blk_frozen BK442.out 3
         have hns144_0 := NB433_442.out
         have hms144_0 := NB442_433.out
         refine skip_ (w1 := ?_) (by rfl) rfl ?_ ?_
         rotate_left
         ·go_simp
          rfl
         refine hK.out _ _ ⟨((cell_far (p := ⟨gb442, _, none⟩) b16_0 _).trans (hHeld.1)), ((cell_far (p := ⟨gb442, _, none⟩) b16_0 _).trans (hHeld.2))⟩ (fun hHeld => ?_)
         clear hK K
         refine done_ (done_of HT_.out (by kernel_rfl)) ?_
         have hnb145 := NB442_433.out
         have hnc145 := NB433_442.out
         obtain ⟨_, _, _, _, _, _, _, _, _, _, _, _, _, _⟩ := cells7 BK442.out
         obtain ⟨_, _, _, _, _, _, _, _, _, _, _, _, _, _⟩ := cells7 BK433.out
         try go_wp2
         refine bodyPost_ret (results_ct rfl _ _ gb433 36 #[.int .i64 (wrap64 (t441 + 1)), .int .i64 (rd t453 0), .int .i64 0, .int .i64 (rd t453 1), .int .i64 x443004_10, .int .i64 0, .slice none 0 0] (0, 0) _ rfl (by refine cO_ ?_; refine blk_put (cs := #[.int .i64 (wrap64 (t441 + 1)), .int .i64 (rd t453 0), .int .i64 0, .int .i64 (rd t453 1), .int .i64 x443004_10, .int .i64 0, .slice none 0 0]) ?_ 6 _ rfl; refine cO_ ?_; refine blk_put (cs := #[.int .i64 (wrap64 (t441 + 1)), .int .i64 (rd t453 0), .int .i64 0, .int .i64 (rd t453 1), .int .i64 x443004_10, .int .i64 x434005_10, .slice none 0 0]) ?_ 5 _ rfl; refine cO_ ?_; refine blk_put (cs := #[.int .i64 (wrap64 (t441 + 1)), .int .i64 (rd t453 0), .int .i64 0, .int .i64 (rd t453 1), .int .i64 x434004_10, .int .i64 x434005_10, .slice none 0 0]) ?_ 4 _ rfl; refine cO_ ?_; refine blk_put (cs := #[.int .i64 (wrap64 (t441 + 1)), .int .i64 (rd t453 0), .int .i64 0, .int .i64 x434003_10, .int .i64 x434004_10, .int .i64 x434005_10, .slice none 0 0]) ?_ 3 _ rfl; refine cO_ ?_; refine blk_put (cs := #[.int .i64 (wrap64 (t441 + 1)), .int .i64 (rd t453 0), .int .i64 x434002_10, .int .i64 x434003_10, .int .i64 x434004_10, .int .i64 x434005_10, .slice none 0 0]) ?_ 2 _ rfl; refine cO_ ?_; refine blk_put (cs := #[.int .i64 (wrap64 (t441 + 1)), .int .i64 x434001_10, .int .i64 x434002_10, .int .i64 x434003_10, .int .i64 x434004_10, .int .i64 x434005_10, .slice none 0 0]) ?_ 1 _ rfl; refine cO_ ?_; refine blk_put (cs := #[.int .i64 x434000_10, .int .i64 x434001_10, .int .i64 x434002_10, .int .i64 x434003_10, .int .i64 x434004_10, .int .i64 x434005_10, .slice none 0 0]) ?_ 0 _ rfl; refine cO_ ?_; refine blk_far ?_ NB433_442.out _; refine cO_ ?_; refine blk_far ?_ NB433_442.out _; refine cO_ ?_; exact BK433.out) Tryz.underlying36 rfl (by kernel_rfl)) rfl ?_
         exact ⟨_, ce_, Kd.R_V (Kd.R_nil (Kd.int .i64) 2 _ w.heap.size (fun k_ => (w.heap.size ≤ k_))), cB2_ GE433.out GE442.out⟩
        replace c139 := Bool.eq_false_iff.mpr c139
        subst c139
        rw [if_neg (show ¬ (false = true) by decide)] at H
        by_cases c148 : (wrap64 (t441 + 1)) = 5
        ·rw [if_pos c148] at H
         have c148b0 : ((wrap64 (t441 + 1)) == 5) = true := beq_iff_eq.mpr c148
         have c148b1 : ((wrap64 (t441 + 1)) != 5) = false := bne_eq_false_iff_eq.mpr c148
         clear c148
         by_cases c149 : (t453.length : Int) = 1
         rotate_left
         ·rw [if_neg c149] at H
          have c149b0 : ((t453.length : Int) == 1) = false := beq_eq_false_iff_ne.mpr c149
          have c149b1 : ((t453.length : Int) != 1) = true := bne_iff_ne.mpr c149
          exact absurd H (by simp)
         rw [if_pos c149] at H
         have c149b0 : ((t453.length : Int) == 1) = true := beq_iff_eq.mpr c149
         have c149b1 : ((t453.length : Int) != 1) = false := bne_eq_false_iff_eq.mpr c149
         clear c149
         by_cases c150 : 0 < (t453.length : Int)
         rotate_left
         ·rw [if_neg c150] at H
          exact absurd H (by simp)
         rw [if_pos c150] at H
         have c150b0 := decide_eq_true c150
         have c150b1 : decide (0 < t453.length) = true := decide_eq_true (by omega)
         clear c150
         simp only [Option.some.injEq, Prod.mk.injEq] at H
         obtain ⟨rfl, rfl, rfl, rfl, rfl, rfl, rfl, rfl⟩ := H
         have hnb151 := NB442_433.out
         have hnc151 := NB433_442.out
         obtain ⟨_, _, _, _, _, _, _, _, _, _, _, _, _, _⟩ := cells7 BK442.out
         have p475 : 0 ≤ (0 : Int) := (by omega)
         have q475 : 0 < (t453.length : Int) := cd_
         obtain ⟨ad475, e475, hx475_0⟩ := Kd.at_int (Kd.V_reads' HO_6.out).2.2 0 p475 q475
         cases e475
         have qi475 : (0 < t453.length) = True := eq_true (by omega)
         (try rw [show ((0 : Int)).toNat = 0 from rfl] at hx475_0)
         (try rw [Addr.add_zero'] at hx475_0)
         replace p475 := eq_true p475
         replace q475 := eq_true q475
         obtain ⟨_, _, _, _, _, _, _, _, _, _, _, _, _, _⟩ := cells7 BK433.out
         go_wp2
         refine bodyPost_ret (results_ct rfl _ _ gb433 36 #[.int .i64 (wrap64 (t441 + 1)), .int .i64 (rd t453 0), .int .i64 0, .int .i64 0, .int .i64 x443004_10, .int .i64 0, .slice none 0 0] (0, 0) _ rfl b16_2 Tryz.underlying36 rfl (by kernel_rfl)) rfl ?_
         exact ⟨_, ce_, Kd.R_V (Kd.R_nil (Kd.int .i64) 2 _ w.heap.size (fun k_ => (w.heap.size ≤ k_))), cB2_ GE433.out GE442.out⟩
        rw [if_neg c148] at H
        have c148b0 : ((wrap64 (t441 + 1)) == 5) = false := beq_eq_false_iff_ne.mpr c148
        have c148b1 : ((wrap64 (t441 + 1)) != 5) = true := bne_iff_ne.mpr c148
        by_cases c157 : (wrap64 (t441 + 1)) = 11
        ·rw [if_pos c157] at H
         have c157b0 : ((wrap64 (t441 + 1)) == 11) = true := beq_iff_eq.mpr c157
         have c157b1 : ((wrap64 (t441 + 1)) != 11) = false := bne_eq_false_iff_eq.mpr c157
         clear c157
         by_cases c158 : (t453.length : Int) = 1
         rotate_left
         ·rw [if_neg c158] at H
          have c158b0 : ((t453.length : Int) == 1) = false := beq_eq_false_iff_ne.mpr c158
          have c158b1 : ((t453.length : Int) != 1) = true := bne_iff_ne.mpr c158
          exact absurd H (by simp)
         rw [if_pos c158] at H
         have c158b0 : ((t453.length : Int) == 1) = true := beq_iff_eq.mpr c158
         have c158b1 : ((t453.length : Int) != 1) = false := bne_eq_false_iff_eq.mpr c158
         clear c158
         by_cases c159 : 0 < (t453.length : Int)
         rotate_left
         ·rw [if_neg c159] at H
          exact absurd H (by simp)
         rw [if_pos c159] at H
         have c159b0 := decide_eq_true c159
         have c159b1 : decide (0 < t453.length) = true := decide_eq_true (by omega)
         clear c159
         simp only [Option.some.injEq, Prod.mk.injEq] at H
         obtain ⟨rfl, rfl, rfl, rfl, rfl, rfl, rfl, rfl⟩ := H
         have hnb160 := NB442_433.out
         have hnc160 := NB433_442.out
         obtain ⟨_, _, _, _, _, _, _, _, _, _, _, _, _, _⟩ := cells7 BK442.out
         have p476 : 0 ≤ (0 : Int) := (by omega)
         have q476 : 0 < (t453.length : Int) := cd_
         obtain ⟨ad476, e476, hx476_0⟩ := Kd.at_int (Kd.V_reads' HO_6.out).2.2 0 p476 q476
         cases e476
         have qi476 : (0 < t453.length) = True := eq_true (by omega)
         (try rw [show ((0 : Int)).toNat = 0 from rfl] at hx476_0)
         (try rw [Addr.add_zero'] at hx476_0)
         replace p476 := eq_true p476
         replace q476 := eq_true q476
         obtain ⟨_, _, _, _, _, _, _, _, _, _, _, _, _, _⟩ := cells7 BK433.out
         go_wp2
         refine bodyPost_ret (results_ct rfl _ _ gb433 36 #[.int .i64 (wrap64 (t441 + 1)), .int .i64 (rd t453 0), .int .i64 0, .int .i64 0, .int .i64 x443004_10, .int .i64 0, .slice none 0 0] (0, 0) _ rfl b16_2 Tryz.underlying36 rfl (by kernel_rfl)) rfl ?_
         exact ⟨_, ce_, Kd.R_V (Kd.R_nil (Kd.int .i64) 2 _ w.heap.size (fun k_ => (w.heap.size ≤ k_))), cB2_ GE433.out GE442.out⟩
        rw [if_neg c157] at H
        have c157b0 : ((wrap64 (t441 + 1)) == 11) = false := beq_eq_false_iff_ne.mpr c157
        have c157b1 : ((wrap64 (t441 + 1)) != 11) = true := bne_iff_ne.mpr c157
        by_cases c166 : (wrap64 (t441 + 1)) = 12
        rotate_left
        ·rw [if_neg c166] at H
         have c166b0 : ((wrap64 (t441 + 1)) == 12) = false := beq_eq_false_iff_ne.mpr c166
         have c166b1 : ((wrap64 (t441 + 1)) != 12) = true := bne_iff_ne.mpr c166
         exact absurd H (by simp)
        rw [if_pos c166] at H
        have c166b0 : ((wrap64 (t441 + 1)) == 12) = true := beq_iff_eq.mpr c166
        have c166b1 : ((wrap64 (t441 + 1)) != 12) = false := bne_eq_false_iff_eq.mpr c166
        clear c166
        by_cases c167 : (t453.length : Int) = 1
        rotate_left
        ·rw [if_neg c167] at H
         have c167b0 : ((t453.length : Int) == 1) = false := beq_eq_false_iff_ne.mpr c167
         have c167b1 : ((t453.length : Int) != 1) = true := bne_iff_ne.mpr c167
         exact absurd H (by simp)
        rw [if_pos c167] at H
        have c167b0 : ((t453.length : Int) == 1) = true := beq_iff_eq.mpr c167
        have c167b1 : ((t453.length : Int) != 1) = false := bne_eq_false_iff_eq.mpr c167
        clear c167
        by_cases c168 : 0 < (t453.length : Int)
        rotate_left
        ·rw [if_neg c168] at H
         exact absurd H (by simp)
        rw [if_pos c168] at H
        have c168b0 := decide_eq_true c168
        have c168b1 : decide (0 < t453.length) = true := decide_eq_true (by omega)
        clear c168
        simp only [Option.some.injEq, Prod.mk.injEq] at H
        obtain ⟨rfl, rfl, rfl, rfl, rfl, rfl, rfl, rfl⟩ := H
        have hnb169 := NB442_433.out
        have hnc169 := NB433_442.out
        obtain ⟨_, _, _, _, _, _, _, _, _, _, _, _, _, _⟩ := cells7 BK442.out
        have p477 : 0 ≤ (0 : Int) := (by omega)
        have q477 : 0 < (t453.length : Int) := cd_
        obtain ⟨ad477, e477, hx477_0⟩ := Kd.at_int (Kd.V_reads' HO_6.out).2.2 0 p477 q477
        cases e477
        have qi477 : (0 < t453.length) = True := eq_true (by omega)
        (try rw [show ((0 : Int)).toNat = 0 from rfl] at hx477_0)
        (try rw [Addr.add_zero'] at hx477_0)
        replace p477 := eq_true p477
        replace q477 := eq_true q477
        obtain ⟨_, _, _, _, _, _, _, _, _, _, _, _, _, _⟩ := cells7 BK433.out
        go_wp2
        refine bodyPost_ret (results_ct rfl _ _ gb433 36 #[.int .i64 (wrap64 (t441 + 1)), .int .i64 (rd t453 0), .int .i64 0, .int .i64 0, .int .i64 x443004_10, .int .i64 0, .slice none 0 0] (0, 0) _ rfl b16_2 Tryz.underlying36 rfl (by kernel_rfl)) rfl ?_
        exact ⟨_, ce_, Kd.R_V (Kd.R_nil (Kd.int .i64) 2 _ w.heap.size (fun k_ => (w.heap.size ≤ k_))), cB2_ GE433.out GE442.out⟩

set_option maxHeartbeats 8000000 in
set_option maxRecDepth 100000 in
theorem impl_readNode.rest61 (k : Nat) (r1 r2 r3 r4 r5 r6 : Int) (r7 : List Int) (r8 : Bool) (w wc : World) (HTB_ : Aside0 (Tab.Tab w)) (t441 : Int) (t453 : List Int) (gb433 gb442 co59 kj10 kj47 : Nat) (Ao59 : Option Addr) (GE433 : Aside0 (w.heap.size ≤ gb433)) (GE442 : Aside0 (w.heap.size ≤ gb442)) (NB433_442 : Aside0 (gb433 ≠ gb442)) (NB442_433 : Aside0 (gb442 ≠ gb433)) (x434000_10 x434001_10 x434002_10 x434003_10 x434004_10 x434005_10 x443004_10 : Int) (HJ10 : Aside0 (kj10 + 1 ≤ k)) (HJ47 : Aside0 (kj47 + 1 ≤ kj10)) {K K1 : Act → World → Prop} (u0 u1 u3 u4 u7 u9 u10 u11 u12 u13 u14 u15 u16 u17 u18 u19 u20 u21 u22 u23 u24 u25 u26 u27 u28 u29 u30 u31 u32 u33 u34 u35 u36 u37 u38 u39 u40 u41 u42 u43 u44 u45 u46 u47 u48 u49 u50 u51 u52 u53 u54 u55 u56 u57 u58 u59 u60 u61 u62 u63 u64 u65 u66 u67 u68 u69 u70 u71 u72 u73 u74 u75 u76 u77 u78 u79 u80 u81 u82 u83 u84 u85 u86 u87 u88 u89 u90 u91 u92 u93 u94 u95 u96 u97 u98 u99 u100 u101 u102 u103 u104 u105 u106 u107 u108 u109 u110 u111 u112 u113 u114 u115 u116 u117 u118 u119 u120 u121 u122 u123 u124 u125 u126 u127 u128 u129 u130 u131 u132 u133 u134 u135 u136 u137 u138 u139 u140 u141 u142 u143 u144 u145 u146 u147 u148 u149 u150 u151 u152 u153 u154 u155 u156 u157 u158 u159 u160 u161 u162 u163 u164 u165 u166 u167 u168 u169 u170 u171 u172 u173 u174 u175 u176 u177 u178 : Value) (a1_ : ∀ a_ w_, Code.wp Tryz.prog (atOf Tryz.f22 (isReg 29)) (bodyPost Tryz.prog Tryz.f22 fun e w' => ∃ v6_ : Value, e = .returned (.tuple #[.agg #[.int .i64 r1, .int .i64 r2, .int .i64 r3, .int .i64 r4, .int .i64 r5, .int .i64 r6, v6_], .bool r8]) ∧ Kd.V (Kd.int .i64) 2 w' w.heap.size (fun k_ => (w.heap.size ≤ k_)) v6_ r7 ∧ Below w.heap.size w w') a_ w_ → K1 a_ w_) (ka_ : ∀ a_ w_, Code.wp Tryz.prog (atOf Tryz.f22 (isCond 61)) (Exit.inBlock 0 (Exit.then K1 (bodyPost Tryz.prog Tryz.f22 fun e w' => ∃ v6_ : Value, e = .returned (.tuple #[.agg #[.int .i64 r1, .int .i64 r2, .int .i64 r3, .int .i64 r4, .int .i64 r5, .int .i64 r6, v6_], .bool r8]) ∧ Kd.V (Kd.int .i64) 2 w' w.heap.size (fun k_ => (w.heap.size ≤ k_)) v6_ r7 ∧ Below w.heap.size w w'))) a_ w_ → K a_ w_) (hcut : ∃ (kq : Nat) (x61_57 : Bool), u61 = .bool x61_57 ∧ Aside0 (impl_readNode.j3 kq t453 (t453.length : Int) x61_57 (wrap64 (t441 + 1)) 0 0 0 x443004_10 0 = some (r1, r2, r3, r4, r5, r6, r7, r8)) ∧ Aside0 (kq ≤ kj47) ∧ Aside0 (Kd.V (Kd.int .i64) 2 wc w.heap.size (fun k_ => (w.heap.size ≤ k_) ∧ k_ ≠ gb433 ∧ k_ ≠ gb442) (.slice Ao59 t453.length co59) t453) ∧ Aside0 (wc.heap[gb433]? = some (.cells #[.int .i64 x434000_10, .int .i64 x434001_10, .int .i64 x434002_10, .int .i64 x434003_10, .int .i64 x434004_10, .int .i64 x434005_10, (.slice none 0 0)] 36 (0, 0))) ∧ Aside0 (wc.heap[gb442]? = some (.cells #[.int .i64 (wrap64 (t441 + 1)), .int .i64 0, .int .i64 0, .int .i64 0, .int .i64 x443004_10, .int .i64 0, (.slice none 0 0)] 36 (0, 0))) ∧ Aside0 (Below w.heap.size w wc)) :
  K ⟨(u0 :: u1 :: .pointer (some ⟨gb433, 0, none⟩) :: u3 :: u4 :: .pointer (some ⟨gb442, 0, none⟩) :: .slice Ao59 t453.length co59 :: u7 :: .int .i64 (t453.length : Int) :: u9 :: u10 :: u11 :: u12 :: u13 :: u14 :: u15 :: u16 :: u17 :: u18 :: u19 :: u20 :: u21 :: u22 :: u23 :: u24 :: u25 :: u26 :: u27 :: u28 :: u29 :: u30 :: u31 :: u32 :: u33 :: u34 :: u35 :: u36 :: u37 :: u38 :: u39 :: u40 :: u41 :: u42 :: u43 :: u44 :: u45 :: u46 :: u47 :: u48 :: u49 :: u50 :: u51 :: u52 :: u53 :: u54 :: u55 :: u56 :: u57 :: u58 :: u59 :: u60 :: u61 :: u62 :: u63 :: u64 :: u65 :: u66 :: u67 :: u68 :: u69 :: u70 :: u71 :: u72 :: u73 :: u74 :: u75 :: u76 :: u77 :: u78 :: u79 :: u80 :: u81 :: u82 :: u83 :: u84 :: u85 :: u86 :: u87 :: u88 :: u89 :: u90 :: u91 :: u92 :: u93 :: u94 :: u95 :: u96 :: u97 :: u98 :: u99 :: u100 :: u101 :: u102 :: u103 :: u104 :: u105 :: u106 :: u107 :: u108 :: u109 :: u110 :: u111 :: u112 :: u113 :: u114 :: u115 :: u116 :: u117 :: u118 :: u119 :: u120 :: u121 :: u122 :: u123 :: u124 :: u125 :: u126 :: u127 :: u128 :: u129 :: u130 :: u131 :: u132 :: u133 :: u134 :: u135 :: u136 :: u137 :: u138 :: u139 :: u140 :: u141 :: u142 :: u143 :: u144 :: u145 :: u146 :: u147 :: u148 :: u149 :: u150 :: u151 :: u152 :: u153 :: u154 :: u155 :: u156 :: u157 :: u158 :: u159 :: u160 :: u161 :: u162 :: u163 :: u164 :: u165 :: u166 :: u167 :: u168 :: u169 :: u170 :: u171 :: u172 :: u173 :: u174 :: u175 :: u176 :: u177 :: u178 :: []).toArray, []⟩ wc := by
 have hu36 := Tryz.underlying36
 generalize e1_ : atOf Tryz.f22 (isReg 29) = C1_ at a1_
 conv at e1_ => lhs; whnf
 generalize e2_ : atOf Tryz.f22 (isCond 61) = C2_ at ka_
 conv at e2_ => lhs; whnf
 subst e1_ e2_
 obtain ⟨kq, x61_57, rfl, HA, HJ57, HO_6, BK433, BK442, HB⟩ := hcut
 cases kq with
 | zero => exact absurd HA.out (by simp [impl_readNode.j3])
 | succ kj57 =>
  have H := HA.out
  clear HA
  simp only [impl_readNode.j3] at H
  by_cases c65 : x61_57 = true
  ·subst c65
   rw [if_pos rfl] at H
   by_cases c66 : 0 < (t453.length : Int)
   rotate_left
   ·rw [if_neg c66] at H
    exact absurd H (by simp)
   rw [if_pos c66] at H
   have c66b0 := decide_eq_true c66
   have c66b1 : decide (0 < t453.length) = true := decide_eq_true (by omega)
   clear c66
   simp only [Option.some.injEq, Prod.mk.injEq] at H
   obtain ⟨rfl, rfl, rfl, rfl, rfl, rfl, rfl, rfl⟩ := H
   have p457 : 0 ≤ (0 : Int) := (by omega)
   have q457 : 0 < (t453.length : Int) := cd_
   obtain ⟨ad457, e457, hx457_0⟩ := Kd.at_int (Kd.V_reads' HO_6.out).2.2 0 p457 q457
   cases e457
   have qi457 : (0 < t453.length) = True := eq_true (by omega)
   (try rw [show ((0 : Int)).toNat = 0 from rfl] at hx457_0)
   (try rw [Addr.add_zero'] at hx457_0)
   replace p457 := eq_true p457
   replace q457 := eq_true q457
   have hnb67 := NB442_433.out
   have hnc67 := NB433_442.out
   obtain ⟨_, _, _, _, _, _, _, _, _, _, _, _, _, _⟩ := cells7 BK442.out
   obtain ⟨_, _, _, _, _, _, _, _, _, _, _, _, _, _⟩ := cells7 BK433.out
   go_wp2
   refine bodyPost_ret (results_ct rfl _ _ gb433 36 #[.int .i64 (wrap64 (t441 + 1)), .int .i64 0, .int .i64 0, .int .i64 (rd t453 0), .int .i64 x443004_10, .int .i64 0, .slice none 0 0] (0, 0) _ rfl (by refine cO_ ?_; refine blk_put (cs := #[.int .i64 (wrap64 (t441 + 1)), .int .i64 0, .int .i64 0, .int .i64 (rd t453 0), .int .i64 x443004_10, .int .i64 0, .slice none 0 0]) ?_ 6 _ rfl; refine cO_ ?_; refine blk_put (cs := #[.int .i64 (wrap64 (t441 + 1)), .int .i64 0, .int .i64 0, .int .i64 (rd t453 0), .int .i64 x443004_10, .int .i64 x434005_10, .slice none 0 0]) ?_ 5 _ rfl; refine cO_ ?_; refine blk_put (cs := #[.int .i64 (wrap64 (t441 + 1)), .int .i64 0, .int .i64 0, .int .i64 (rd t453 0), .int .i64 x434004_10, .int .i64 x434005_10, .slice none 0 0]) ?_ 4 _ rfl; refine cO_ ?_; refine blk_put (cs := #[.int .i64 (wrap64 (t441 + 1)), .int .i64 0, .int .i64 0, .int .i64 x434003_10, .int .i64 x434004_10, .int .i64 x434005_10, .slice none 0 0]) ?_ 3 _ rfl; refine cO_ ?_; refine blk_put (cs := #[.int .i64 (wrap64 (t441 + 1)), .int .i64 0, .int .i64 x434002_10, .int .i64 x434003_10, .int .i64 x434004_10, .int .i64 x434005_10, .slice none 0 0]) ?_ 2 _ rfl; refine cO_ ?_; refine blk_put (cs := #[.int .i64 (wrap64 (t441 + 1)), .int .i64 x434001_10, .int .i64 x434002_10, .int .i64 x434003_10, .int .i64 x434004_10, .int .i64 x434005_10, .slice none 0 0]) ?_ 1 _ rfl; refine cO_ ?_; refine blk_put (cs := #[.int .i64 x434000_10, .int .i64 x434001_10, .int .i64 x434002_10, .int .i64 x434003_10, .int .i64 x434004_10, .int .i64 x434005_10, .slice none 0 0]) ?_ 0 _ rfl; refine cO_ ?_; refine blk_far ?_ NB433_442.out _; refine cO_ ?_; exact BK433.out) Tryz.underlying36 rfl (by kernel_rfl)) rfl ?_
   exact ⟨_, ce_, Kd.R_V (Kd.R_nil (Kd.int .i64) 2 _ w.heap.size (fun k_ => (w.heap.size ≤ k_))), cB2_ GE433.out GE442.out⟩
  replace c65 := Bool.eq_false_iff.mpr c65
  subst c65
  rw [if_neg (show ¬ (false = true) by decide)] at H
  by_cases c70 : (wrap64 (t441 + 1)) = 2
  ·rw [if_pos c70] at H
   have c70b0 : ((wrap64 (t441 + 1)) == 2) = true := beq_iff_eq.mpr c70
   have c70b1 : ((wrap64 (t441 + 1)) != 2) = false := bne_eq_false_iff_eq.mpr c70
   clear c70
   by_cases c71 : 0 < (t453.length : Int)
   rotate_left
   ·rw [if_neg c71] at H
    exact absurd H (by simp)
   rw [if_pos c71] at H
   have c71b0 := decide_eq_true c71
   have c71b1 : decide (0 < t453.length) = true := decide_eq_true (by omega)
   clear c71
   by_cases c72 : 1 < (t453.length : Int)
   rotate_left
   ·rw [if_neg c72] at H
    exact absurd H (by simp)
   rw [if_pos c72] at H
   have c72b0 := decide_eq_true c72
   have c72b1 : decide (1 < t453.length) = true := decide_eq_true (by omega)
   clear c72
   by_cases c73 : 2 < (t453.length : Int)
   rotate_left
   ·rw [if_neg c73] at H
    exact absurd H (by simp)
   rw [if_pos c73] at H
   have c73b0 := decide_eq_true c73
   have c73b1 : decide (2 < t453.length) = true := decide_eq_true (by omega)
   clear c73
   simp only [Option.some.injEq, Prod.mk.injEq] at H
   obtain ⟨rfl, rfl, rfl, rfl, rfl, rfl, rfl, rfl⟩ := H
   have hnb74 := NB442_433.out
   have hnc74 := NB433_442.out
   obtain ⟨_, _, _, _, _, _, _, _, _, _, _, _, _, _⟩ := cells7 BK442.out
   try go_wp2
   replace HO_6 := Aside0.mk (Kd.V_drew HO_6.out)
   replace BK433 := Aside0.mk (blk_drew BK433.out)
   replace BK442 := Aside0.mk (blk_drew BK442.out)
   replace HB := Aside0.mk (below_drew1 HB.out)
   have p458 : 0 ≤ (0 : Int) := (by omega)
   have q458 : 0 < (t453.length : Int) := cd_
   obtain ⟨ad458, e458, hx458_0⟩ := Kd.at_int (Kd.V_reads' HO_6.out).2.2 0 p458 q458
   cases e458
   have qi458 : (0 < t453.length) = True := eq_true (by omega)
   (try rw [show ((0 : Int)).toNat = 0 from rfl] at hx458_0)
   (try rw [Addr.add_zero'] at hx458_0)
   replace p458 := eq_true p458
   replace q458 := eq_true q458
   have p459 : 0 ≤ (1 : Int) := (by omega)
   have q459 : 1 < (t453.length : Int) := cd_
   obtain ⟨ad459, e459, hx459_0⟩ := Kd.at_int (Kd.V_reads' HO_6.out).2.2 1 p459 q459
   obtain rfl : ad458 = ad459 := (by injection e459)
   (try simp only [show (1 : Int).toNat = 1 from rfl, Nat.reduceMul, Nat.reduceEqDiff, Go.Addr.add, ↓reduceIte] at hx459_0)
   have qi459 : (1 < t453.length) = True := eq_true (by omega)
   (try rw [show ((1 : Int)).toNat = 1 from rfl] at hx459_0)
   replace p459 := eq_true p459
   replace q459 := eq_true q459
   have p460 : 0 ≤ (2 : Int) := (by omega)
   have q460 : 2 < (t453.length : Int) := cd_
   obtain ⟨ad460, e460, hx460_0⟩ := Kd.at_int (Kd.V_reads' HO_6.out).2.2 2 p460 q460
   obtain rfl : ad458 = ad460 := (by injection e460)
   (try simp only [show (2 : Int).toNat = 2 from rfl, Nat.reduceMul, Nat.reduceEqDiff, Go.Addr.add, ↓reduceIte] at hx460_0)
   have qi460 : (2 < t453.length) = True := eq_true (by omega)
   (try rw [show ((2 : Int)).toNat = 2 from rfl] at hx460_0)
   replace p460 := eq_true p460
   replace q460 := eq_true q460
   refine start_ (n := 15) (S := fun w' => w'.cell? ad458 = some (.int .i64 (rd t453 0)) ∧ w'.cell? ⟨ad458.block, ad458.off + 1, none⟩ = some (.int .i64 (rd t453 1)) ∧ w'.cell? ⟨ad458.block, ad458.off + 2, none⟩ = some (.int .i64 (rd t453 2))) (ds := []) (bl 15 0) (by kernel_rfl) rfl rfl ⟨hx458_0, hx459_0, hx460_0⟩ (fun hHeld => ?_); refine with_tabW impl_readNode.tab18 impl_readNode.bits18 (fun HT_ HW_ => ?_)
   generalize wc.drew = w76 at HO_6 BK433 BK442 HB hx458_0 hx459_0 hx460_0 hHeld ⊢
   refine pv_ 0 77 (bl 15 1) ?_
   refine pv_ 1 78 (bl 15 3) ?_
   refine pv_ 3 80 (bl 15 11) ?_
   refine pv_ 4 81 (bl 15 27) ?_
   refine pv_ 6 83 (bl 15 91) ?_
   refine pv_ 7 84 (bl 15 219) ?_
   refine tv_ 2 79 (bl 15 223) rfl hHeld (fun w' s_ => by obtain ⟨s0, s1, s2⟩ := s_; go_simp; with_reducible rfl) ?_
   refine pv_ 9 86 (bl 15 735) ?_
   refine tv_ 5 82 (bl 15 767) rfl hHeld (fun w' s_ => by obtain ⟨s0, s1, s2⟩ := s_; go_simp; with_reducible rfl) ?_
   refine tv_ 8 85 (bl 15 1023) rfl hHeld (fun w' s_ => by obtain ⟨s0, s1, s2⟩ := s_; go_simp; with_reducible rfl) ?_
   refine on_ 10 none (bl 15 2047) HT_.out rfl (fun K hK => ?_)
   have hs77 : w76.cell? ⟨gb442, 1, none⟩ = some (.int .i64 0) := (blk_cell BK442.out 1).trans rfl
   have hfs77 := blk_frozen BK442.out 1
   have hns77_0 := NB433_442.out
   have hms77_0 := NB442_433.out
   refine skip_ (w1 := ?_) (by rfl) rfl ?_ ?_
   rotate_left
   ·go_simp
    rfl
   refine hK.out _ _ ⟨((cell_far (p := ⟨gb442, _, none⟩) b16_0 _).trans (hHeld.1)), ((cell_far (p := ⟨gb442, _, none⟩) b16_0 _).trans (hHeld.2.1)), ((cell_far (p := ⟨gb442, _, none⟩) b16_0 _).trans (hHeld.2.2))⟩ (fun hHeld => ?_)
   clear hK K
   refine pv_ 11 87 (bl 15 4095) ?_
   refine on_ 12 none (bl 15 8191) HT_.out rfl (fun K hK => ?_)
   have hs78 : w76.cell? ⟨gb442, 3, none⟩ = some (.int .i64 0) := (blk_cell BK442.out 3).trans rfl
   have hfs78 := blk_frozen BK442.out 3
   have hns78_0 := NB433_442.out
   have hms78_0 := NB442_433.out
   refine skip_ (w1 := ?_) (by rfl) rfl ?_ ?_
   rotate_left
   ·go_simp
    rfl
   refine hK.out _ _ ⟨((cell_far (p := ⟨gb442, _, none⟩) b16_0 _).trans (hHeld.1)), ((cell_far (p := ⟨gb442, _, none⟩) b16_0 _).trans (hHeld.2.1)), ((cell_far (p := ⟨gb442, _, none⟩) b16_0 _).trans (hHeld.2.2))⟩ (fun hHeld => ?_)
   clear hK K
   refine pv_ 13 88 (bl 15 16383) ?_
   refine on_ 14 none (bl 15 32767) HT_.out rfl (fun K hK => ?_)
   have hs79 : w76.cell? ⟨gb442, 5, none⟩ = some (.int .i64 0) := (blk_cell BK442.out 5).trans rfl
   have hfs79 := blk_frozen BK442.out 5
   have hns79_0 := NB433_442.out
   have hms79_0 := NB442_433.out
   refine skip_ (w1 := ?_) (by rfl) rfl ?_ ?_
   rotate_left
   ·go_simp
    rfl
   refine hK.out _ _ ⟨((cell_far (p := ⟨gb442, _, none⟩) b16_0 _).trans (hHeld.1)), ((cell_far (p := ⟨gb442, _, none⟩) b16_0 _).trans (hHeld.2.1)), ((cell_far (p := ⟨gb442, _, none⟩) b16_0 _).trans (hHeld.2.2))⟩ (fun hHeld => ?_)
   clear hK K
   refine done_ (done_of HT_.out (by kernel_rfl)) ?_
   obtain ⟨_, _, _, _, _, _, _, _, _, _, _, _, _, _⟩ := cells7 BK442.out
   obtain ⟨_, _, _, _, _, _, _, _, _, _, _, _, _, _⟩ := cells7 BK433.out
   try go_wp2
   refine bodyPost_ret (results_ct rfl _ _ gb433 36 #[.int .i64 (wrap64 (t441 + 1)), .int .i64 (rd t453 0), .int .i64 0, .int .i64 (rd t453 1), .int .i64 x443004_10, .int .i64 (rd t453 2), .slice none 0 0] (0, 0) _ rfl (by refine cO_ ?_; refine blk_put (cs := #[.int .i64 (wrap64 (t441 + 1)), .int .i64 (rd t453 0), .int .i64 0, .int .i64 (rd t453 1), .int .i64 x443004_10, .int .i64 (rd t453 2), .slice none 0 0]) ?_ 6 _ rfl; refine cO_ ?_; refine blk_put (cs := #[.int .i64 (wrap64 (t441 + 1)), .int .i64 (rd t453 0), .int .i64 0, .int .i64 (rd t453 1), .int .i64 x443004_10, .int .i64 x434005_10, .slice none 0 0]) ?_ 5 _ rfl; refine cO_ ?_; refine blk_put (cs := #[.int .i64 (wrap64 (t441 + 1)), .int .i64 (rd t453 0), .int .i64 0, .int .i64 (rd t453 1), .int .i64 x434004_10, .int .i64 x434005_10, .slice none 0 0]) ?_ 4 _ rfl; refine cO_ ?_; refine blk_put (cs := #[.int .i64 (wrap64 (t441 + 1)), .int .i64 (rd t453 0), .int .i64 0, .int .i64 x434003_10, .int .i64 x434004_10, .int .i64 x434005_10, .slice none 0 0]) ?_ 3 _ rfl; refine cO_ ?_; refine blk_put (cs := #[.int .i64 (wrap64 (t441 + 1)), .int .i64 (rd t453 0), .int .i64 x434002_10, .int .i64 x434003_10, .int .i64 x434004_10, .int .i64 x434005_10, .slice none 0 0]) ?_ 2 _ rfl; refine cO_ ?_; refine blk_put (cs := #[.int .i64 (wrap64 (t441 + 1)), .int .i64 x434001_10, .int .i64 x434002_10, .int .i64 x434003_10, .int .i64 x434004_10, .int .i64 x434005_10, .slice none 0 0]) ?_ 1 _ rfl; refine cO_ ?_; refine blk_put (cs := #[.int .i64 x434000_10, .int .i64 x434001_10, .int .i64 x434002_10, .int .i64 x434003_10, .int .i64 x434004_10, .int .i64 x434005_10, .slice none 0 0]) ?_ 0 _ rfl; refine cO_ ?_; refine blk_far ?_ NB433_442.out _; refine cO_ ?_; refine blk_far ?_ NB433_442.out _; refine cO_ ?_; refine blk_far ?_ NB433_442.out _; refine cO_ ?_; exact BK433.out) Tryz.underlying36 rfl (by kernel_rfl)) rfl ?_
   exact ⟨_, ce_, Kd.R_V (Kd.R_nil (Kd.int .i64) 2 _ w.heap.size (fun k_ => (w.heap.size ≤ k_))), cB2_ GE433.out GE442.out⟩
  rw [if_neg c70] at H
  have c70b0 : ((wrap64 (t441 + 1)) == 2) = false := beq_eq_false_iff_ne.mpr c70
  have c70b1 : ((wrap64 (t441 + 1)) != 2) = true := bne_iff_ne.mpr c70
  have HC82 := Aside0.mk H
  clear H
  have hnb83 := NB442_433.out
  have hnc83 := NB433_442.out
  obtain ⟨_, _, _, _, _, _, _, _, _, _, _, _, _, _⟩ := cells7 BK442.out
  go_upto_region 19 with (fail)
  go_cut [89] (fun v89 wc => ∃ (kq : Nat) (x89_81 : Bool), v89 = .bool x89_81 ∧ Aside0 (impl_readNode.j4 kq t453 (t453.length : Int) x89_81 (wrap64 (t441 + 1)) 0 0 0 x443004_10 0 = some (r1, r2, r3, r4, r5, r6, r7, r8)) ∧ Aside0 (kq ≤ kj57) ∧ Aside0 (Kd.V (Kd.int .i64) 2 wc w.heap.size (fun k_ => (w.heap.size ≤ k_) ∧ k_ ≠ gb433 ∧ k_ ≠ gb442) (.slice Ao59 t453.length co59) t453) ∧ Aside0 (wc.heap[gb433]? = some (.cells #[.int .i64 x434000_10, .int .i64 x434001_10, .int .i64 x434002_10, .int .i64 x434003_10, .int .i64 x434004_10, .int .i64 x434005_10, (.slice none 0 0)] 36 (0, 0))) ∧ Aside0 (wc.heap[gb442]? = some (.cells #[.int .i64 (wrap64 (t441 + 1)), .int .i64 0, .int .i64 0, .int .i64 0, .int .i64 x443004_10, .int .i64 0, (.slice none 0 0)] 36 (0, 0))) ∧ Aside0 (Below w.heap.size w wc))
  case first =>
   have H := HC82.out
   clear HC82
   by_cases c85 : (wrap64 (t441 + 1)) = 3
   ·rw [if_pos c85] at H
    have c85b0 : ((wrap64 (t441 + 1)) == 3) = true := beq_iff_eq.mpr c85
    have c85b1 : ((wrap64 (t441 + 1)) != 3) = false := bne_eq_false_iff_eq.mpr c85
    clear c85
    (first | rw [c85b0] | (simp only [i64_w, i32_w]; rw [c85b0]) | skip)
    have H' := Aside0.mk H
    clear H
    have hnb86 := NB442_433.out
    have hnc86 := NB433_442.out
    obtain ⟨_, _, _, _, _, _, _, _, _, _, _, _, _, _⟩ := cells7 BK442.out
    go_wp2
    go_meet
    case rel => exact ⟨_, (decide ((t453.length : Int) ≥ 1)), cs_, H', ⟨by have := HJ10.out; have := HJ47.out; have := HJ57.out; first | omega | exact Nat.le_refl _⟩, ⟨cV_ HO_6.out⟩, ⟨cO_ BK433.out⟩, ⟨cO_ BK442.out⟩, ⟨cB2_ GE433.out GE442.out⟩⟩
   rw [if_neg c85] at H
   have c85b0 : ((wrap64 (t441 + 1)) == 3) = false := beq_eq_false_iff_ne.mpr c85
   have c85b1 : ((wrap64 (t441 + 1)) != 3) = true := bne_iff_ne.mpr c85
   (first | rw [c85b0] | (simp only [i64_w, i32_w]; rw [c85b0]) | skip)
   have H' := Aside0.mk H
   clear H
   have hnb88 := NB442_433.out
   have hnc88 := NB433_442.out
   obtain ⟨_, _, _, _, _, _, _, _, _, _, _, _, _, _⟩ := cells7 BK442.out
   go_wp2
   go_meet
   case rel => exact ⟨_, (false), cs_, H', ⟨by have := HJ10.out; have := HJ47.out; have := HJ57.out; first | omega | exact Nat.le_refl _⟩, ⟨cV_ HO_6.out⟩, ⟨cO_ BK433.out⟩, ⟨cO_ BK442.out⟩, ⟨cB2_ GE433.out GE442.out⟩⟩
  case rest =>
   exact impl_readNode.rest k _ _ _ _ _ _ _ _ w wc HTB_ t441 t453 gb433 gb442 co59 kj10 kj47 kj57 Ao59 GE433 GE442 NB433_442 NB442_433 x434000_10 x434001_10 x434002_10 x434003_10 x434004_10 x434005_10 x443004_10 HJ10 HJ47 HJ57 _ _ _ _ _ _ _ _ _ _ _ _ _ _ _ _ _ _ _ _ _ _ _ _ _ _ _ _ _ _ _ _ _ _ _ _ _ _ _ _ _ _ _ _ _ _ _ _ _ _ _ _ _ _ _ _ _ _ _ _ _ _ _ _ _ _ _ _ _ _ _ _ _ _ _ _ _ _ _ _ _ _ _ _ _ _ _ _ _ _ _ _ _ _ _ _ _ _ _ _ _ _ _ _ _ _ _ _ _ _ _ _ _ _ _ _ _ _ _ _ _ _ _ _ _ _ _ _ _ _ _ _ _ _ _ _ _ _ _ _ _ _ _ _ _ _ _ _ _ _ _ _ _ _ _ _ _ _ _ _ _ _ _ _ _ _ _ _ _ _ _ _ _ _ _ (by assumption) (by assumption) hcut

theorem impl_readNode.calls (k : Nat) (a0 : ByteArray) (r1 : Int) (r2 : Int) (r3 : Int) (r4 : Int) (r5 : Int) (r6 : Int) (r7 : List Int) (r8 : Bool) (w : World) (htab_ : Tab.Tab w) (h : impl_readNode.f k a0 = some (r1, r2, r3, r4, r5, r6, r7, r8)) :
  Calls Tryz.prog 22 #[.string a0] w fun e w' => ∃ v6_ : Value, e = .returned (.tuple #[.agg #[.int .i64 r1, .int .i64 r2, .int .i64 r3, .int .i64 r4, .int .i64 r5, .int .i64 r6, v6_], .bool r8]) ∧ Kd.V (Kd.int .i64) 2 w' w.heap.size (fun k_ => (w.heap.size ≤ k_)) v6_ r7 ∧ Below w.heap.size w w' := by
 have HTB_ := Aside0.mk htab_
 clear htab_
 have hu36 := Tryz.underlying36
 have HB := Aside0.mk (Below.refl w.heap.size w)
 have H : ((impl_piecesOf.f a0).bind fun t434 => (if (t434.length : Int) = 0 then (none) else ((strings_Split.f (⟨#[105, 110, 112, 117, 116, 32, 102, 105, 108, 116, 101, 114, 32, 112, 114, 111, 106, 101, 99, 116, 32, 117, 110, 105, 111, 110, 32, 110, 101, 103, 97, 116, 101, 32, 106, 111, 105, 110, 32, 99, 111, 117, 110, 116, 32, 115, 117, 109, 32, 108, 101, 97, 115, 116, 32, 109, 111, 115, 116, 32, 100, 105, 115, 116, 105, 110, 99, 116, 32, 118, 105, 101, 119]⟩ : ByteArray) (⟨#[32]⟩ : ByteArray)).bind fun t437 => (if 0 < (t434.length : Int) then ((slices_Index_string_string.f t437 (rdOf ByteArray.empty t434 0)).bind fun t441 => (if (wrap64 (t441 + 1)) = 2 then (if (t434.length : Int) = 5 then (if 3 < (t434.length : Int) then (impl_readNode.j0 k t434 (((rdOf ByteArray.empty t434 3).size : Int) != 1) (wrap64 (t441 + 1)) 0 0 0 0 0) else (none)) else (impl_readNode.j0 k t434 true (wrap64 (t441 + 1)) 0 0 0 0 0)) else (impl_readNode.j1 k t434 (wrap64 (t441 + 1)) 0 0 0 0 0))) else (none))))) = some (r1, r2, r3, r4, r5, r6, r7, r8) := h
 clear h
 obtain ⟨t434, A2, H⟩ := bnd_ H
 try dsimp only at H
 by_cases c3 : (t434.length : Int) = 0
 ·rw [if_pos c3] at H
  have c3b0 : ((t434.length : Int) == 0) = true := beq_iff_eq.mpr c3
  have c3b1 : ((t434.length : Int) != 0) = false := bne_eq_false_iff_eq.mpr c3
  clear c3
  exact absurd H (by simp)
 rw [if_neg c3] at H
 have c3b0 : ((t434.length : Int) == 0) = false := beq_eq_false_iff_ne.mpr c3
 have c3b1 : ((t434.length : Int) != 0) = true := bne_iff_ne.mpr c3
 have c3b2 : ¬ (t434 = []) := fun h_ => c3 (by rw [h_]; rfl)
 obtain ⟨t437, A8, H⟩ := bnd_ H
 try dsimp only at H
 by_cases c9 : 0 < (t434.length : Int)
 rotate_left
 ·rw [if_neg c9] at H
  exact absurd H (by simp)
 rw [if_pos c9] at H
 have c9b0 := decide_eq_true c9
 have c9b1 : decide (0 < t434.length) = true := decide_eq_true (by omega)
 clear c9
 obtain ⟨t441, A10, H⟩ := bnd_ H
 try dsimp only at H
 have HC11 := Aside0.mk H
 clear H
 go_enter Tryz.func22, Tryz.ntmps22
 try go_wp2_with (first | ((with_reducible refine gate_dst (N := 2) rfl ?_); (try (refine gate_guard (by rfl) ?_; dsimp only)); refine box_event ?hg (N := 2) ?hd (cs := #[.int .i64 0, .int .i64 0, .int .i64 0, .int .i64 0, .int .i64 0, .int .i64 0, .slice none 0 0]) (t := 36) ?hr ?_; (case hd => rfl); (case hg => rfl); (case hr => first | (go_simp; done) | (go_simp; rfl)); intro gb433 hg w12 hbox hb; have BK433 := Aside0.mk (hbox); have GW433 := Aside0.mk ((by rw [hg]; exact (below_size cB0_) : w.heap.size ≤ gb433)); have GE433 := Aside0.mk ((by rw [hg]; exact (below_size cB0_) : w.heap.size ≤ gb433)); replace HB := Aside0.mk (below_step cB0_ hb); clear hb hbox hg) | (refine gl_ 48 (some 10) Tryz.func48 #[.string a0] ?_; (with_reducible refine (impl_piecesOf.calls a0 t434 _ (Tab.tabB HTB_.out b16_3) A2.out).mono ?_); rintro e w13 ⟨v435, rfl, ho0, hb⟩; refine ⟨_, rfl, ?_⟩; have HO436 := Aside0.mk (Kd.R_lower (Kd.R_newM (M := fun k_ => (w.heap.size ≤ k_)) ho0 (below_size b16_3) (fun k_ h_ => h_)) (below_size b16_3)); replace BK433 := Aside0.mk (blk_below (g := gb433) (o := .cells #[.int .i64 0, .int .i64 0, .int .i64 0, .int .i64 0, .int .i64 0, .int .i64 0, .slice none 0 0] 36 (0, 0)) b16_5 hb); replace HB := Aside0.mk (below_step b16_3 hb); (try clear hb); (try clear ho0); obtain ⟨Ao14, co14, eo14⟩ := Kd.R_slice HO436.out; subst eo14))
 replace HO436 := Aside0.mk (Kd.R_drew HO436.out)
 replace BK433 := Aside0.mk (blk_drew BK433.out)
 replace HB := Aside0.mk (below_drew1 HB.out)
 have p440 : 0 ≤ (0 : Int) := (by omega)
 have q440 : 0 < (t434.length : Int) := cd_
 obtain ⟨ad440, e440, hx440_0⟩ := Kd.at_string (Kd.R_reads' HO436.out).2.2 0 p440 q440
 cases e440
 have qi440 : (0 < t434.length) = True := eq_true (by omega)
 (try rw [show ((0 : Int)).toNat = 0 from rfl] at hx440_0)
 (try rw [Addr.add_zero'] at hx440_0)
 replace p440 := eq_true p440
 replace q440 := eq_true q440
 refine start_ (n := 9) (S := fun w' => w'.cell? ad440 = some (.string (rdOf ByteArray.empty t434 0))) (ds := []) (bl 9 0) (by kernel_rfl) rfl rfl (hx440_0) (fun hHeld => ?_); refine with_tabW impl_readNode.tab4 impl_readNode.bits4 (fun HT_ HW_ => ?_)
 generalize w13.drew = w15 at HO436 BK433 HB hx440_0 hHeld ⊢
 refine pv_ 1 16 (bl 9 2) ?_
 refine pv_ 2 17 (bl 9 6) ?_
 refine take_ (i := 3) (N := some 18) (v := ?_) (a' := ?_) (bl 9 14) rfl rfl (take_ofW HT_.out HW_.out (by kernel_rfl)) (fun _ _ _ h => h) (Or.inl ⟨by rfl, ?_⟩) hHeld ?_ ?_
 rotate_left
 ·intro w' s0
  go_simp
  with_reducible rfl
 rotate_left
 ·simp only [Act.put, List.setIfInBounds_toArray, List.set_cons_zero, List.set_cons_succ, i64_w, i32_w]
  rfl
 refine join_ (σ := Value × Nat) 1 (bl 9 255) (fun s_ => [(15, s_.1), (19, .int .i64 t441), (5, .pointer (some ⟨s_.2, 0, none⟩)), (20, .int .i64 (wrap64 (t441 + 1))), (21, .agg #[.int .i64 (wrap64 (t441 + 1)), .int .i64 0, .int .i64 0, .int .i64 0, .int .i64 0, .int .i64 0, .slice none 0 0])]) (fun s_ w' => (w'.cell? ad440 = some (.string (rdOf ByteArray.empty t434 0))) ∧ (Kd.R Kd.string 9 w' w.heap.size (fun k_ => (w.heap.size ≤ k_) ∧ some k_ ≠ (s_.1 : Value).ownBlock) (.slice (some ad440) t434.length co14) t434) ∧ (Kd.R Kd.string 9 w' w.heap.size (fun k_ => (w.heap.size ≤ k_) ∧ some k_ ≠ (.slice (some ad440) t434.length co14 : Value).ownBlock) s_.1 t437) ∧ (w'.heap[gb433]? = some (.cells #[.int .i64 0, .int .i64 0, .int .i64 0, .int .i64 0, .int .i64 0, .int .i64 0, .slice none 0 0] 36 (0, 0))) ∧ (w'.heap[s_.2]? = some (.cells #[.int .i64 0, .int .i64 0, .int .i64 0, .int .i64 0, .int .i64 0, .int .i64 0, .slice none 0 0] 36 (0, 0))) ∧ (w.heap.size ≤ s_.2) ∧ (w.heap.size ≤ s_.2) ∧ (gb433 ≠ s_.2) ∧ (s_.2 ≠ gb433) ∧ (Below w.heap.size w w')) ?_ ?_
 rotate_left
 ·intro hCont
  refine two_ (i := 0) (j := 7) (Ni := some 15) (Nj := some 5) (bl 9 15) (bl 9 142) rfl rfl rfl rfl (two_of HT_.out (by kernel_rfl)) (by decide) (by decide) (fun K hK => ?_) (fun K hK => ?_)
  ·skip
   refine goes_ Tryz.func47 (by kernel_rfl) rfl #[.string (⟨#[105, 110, 112, 117, 116, 32, 102, 105, 108, 116, 101, 114, 32, 112, 114, 111, 106, 101, 99, 116, 32, 117, 110, 105, 111, 110, 32, 110, 101, 103, 97, 116, 101, 32, 106, 111, 105, 110, 32, 99, 111, 117, 110, 116, 32, 115, 117, 109, 32, 108, 101, 97, 115, 116, 32, 109, 111, 115, 116, 32, 100, 105, 115, 116, 105, 110, 99, 116, 32, 118, 105, 101, 119]⟩ : ByteArray), .string (⟨#[32]⟩ : ByteArray)] (by rfl) rfl rfl cx_ ?_
   with_reducible refine (strings_Split.calls (⟨#[105, 110, 112, 117, 116, 32, 102, 105, 108, 116, 101, 114, 32, 112, 114, 111, 106, 101, 99, 116, 32, 117, 110, 105, 111, 110, 32, 110, 101, 103, 97, 116, 101, 32, 106, 111, 105, 110, 32, 99, 111, 117, 110, 116, 32, 115, 117, 109, 32, 108, 101, 97, 115, 116, 32, 109, 111, 115, 116, 32, 100, 105, 115, 116, 105, 110, 99, 116, 32, 118, 105, 101, 119]⟩ : ByteArray) (⟨#[32]⟩ : ByteArray) t437 _ (Tab.tabB HTB_.out b16_3) A8.out).mono ?_
   rintro e w16 ⟨v438, rfl, ho0, hb⟩
   have HS0_ := (hb.cell (World.block_lt_of_cell? _ _ (hHeld))).trans (hHeld)
   refine ⟨_, rfl, ?_⟩
   have HO439 := Aside0.mk (Kd.R_lower (Kd.R_new' (Kd.R_newM (M := fun k_ => (w.heap.size ≤ k_)) ho0 (below_size b16_3) (fun k_ h_ => h_)) (Kd.R_lt b16_10)) (below_size b16_3))
   replace HO436 := Aside0.mk (Kd.R_elder' b16_10 (Kd.R_base ho0) hb)
   replace BK433 := Aside0.mk (blk_below (g := gb433) (o := .cells #[.int .i64 0, .int .i64 0, .int .i64 0, .int .i64 0, .int .i64 0, .int .i64 0, .slice none 0 0] 36 (0, 0)) b16_5 hb)
   replace HB := Aside0.mk (below_step b16_3 hb)
   (try clear hb)
   (try clear hb2)
   (try clear hk)
   (try clear hi)
   (try clear ho0)
   obtain ⟨Ao17, co17, eo17⟩ := Kd.R_slice HO439.out
   (first | subst eo17 | (injection eo17 with f1_ f2_ f3_; have f4_ := f1_.symm; have f5_ := f3_.symm; clear f1_ f2_ f3_; subst f4_; subst f5_))
   refine hK.out _ _ (HS0_) (fun hHeld => ?_)
   clear hK K
   refine nm_ (some 15) ?_
   refine two_ (i := 4) (j := 7) (Ni := some 19) (Nj := some 5) (bl 9 31) (bl 9 143) rfl rfl rfl rfl (two_of HT_.out (by kernel_rfl)) (by decide) (by decide) (fun K hK => ?_) (fun K hK => ?_)
   ·skip
    refine goes_ Tryz.func49 (by kernel_rfl) rfl #[.slice Ao17 t437.length co17, .string (rdOf ByteArray.empty t434 0)] (by rfl) rfl rfl cx_ ?_
    with_reducible refine (slices_Index_string_string.calls _ _ t437 (rdOf ByteArray.empty t434 0) t441 _ ?side0 ?side1 ?side2 A10.out).mono ?_
    (case side0 => intro ad_ e_; subst e_; exact Kd.R_head HO439.out); (case side1 => exact cC_ ((Kd.R_reads' HO439.out).2.2))
    (case side2 => exact (Kd.R_reads' HO439.out).2.1)
    rintro e w18 ⟨rfl, hb⟩
    have HS0_ := (hb.cell (World.block_lt_of_cell? _ _ (hHeld))).trans (hHeld)
    refine ⟨_, rfl, ?_⟩
    replace HO436 := Aside0.mk (Kd.R_below b16_10 hb)
    replace HO439 := Aside0.mk (Kd.R_below (cR_ HO439.out) hb)
    replace BK433 := Aside0.mk (blk_below (g := gb433) (o := .cells #[.int .i64 0, .int .i64 0, .int .i64 0, .int .i64 0, .int .i64 0, .int .i64 0, .slice none 0 0] 36 (0, 0)) b16_5 hb)
    replace HB := Aside0.mk (below_step b16_3 hb)
    (try clear hb)
    (try clear hb2)
    (try clear hk)
    (try clear hi)
    refine hK.out _ _ (HS0_) (fun hHeld => ?_)
    clear hK K
    refine nm_ (some 19) ?_
    refine pv_ 5 20 (bl 9 63) ?_
    refine pv_ 6 21 (bl 9 127) ?_
    refine ov_ 7 5 (bl 9 255) (fun K hK => ?_)
    refine box_step ?hg (N := 5) ?hd (cs := #[.int .i64 0, .int .i64 0, .int .i64 0, .int .i64 0, .int .i64 0, .int .i64 0, .slice none 0 0]) (t := 36) ?hr ?_; (case hd => rfl); (case hg => rfl); (case hr => first | (go_simp; done) | (go_simp; rfl))
    intro gb442 hg w19 hbox hb
    have HS0_ := (hb.cell (World.block_lt_of_cell? _ _ (hHeld))).trans (hHeld)
    replace HO436 := Aside0.mk (Kd.R_below b16_10 hb)
    replace HO439 := Aside0.mk (Kd.R_below (cR_ HO439.out) hb)
    have BK442 := Aside0.mk (hbox)
    have GW442 := Aside0.mk ((by rw [hg]; exact (below_size b16_3) : w.heap.size ≤ gb442))
    have GE442 := Aside0.mk ((by rw [hg]; exact (below_size b16_3) : w.heap.size ≤ gb442))
    replace HB := Aside0.mk (below_step b16_3 hb)
    have NB433_442 := Aside0.mk ((by rw [hg]; exact Nat.ne_of_lt (blk_lt (g := gb433) (o := .cells #[.int .i64 0, .int .i64 0, .int .i64 0, .int .i64 0, .int .i64 0, .int .i64 0, .slice none 0 0] 36 (0, 0)) b16_5) : gb433 ≠ gb442))
    have NB442_433 := Aside0.mk ((by rw [hg]; exact Nat.ne_of_gt (blk_lt (g := gb433) (o := .cells #[.int .i64 0, .int .i64 0, .int .i64 0, .int .i64 0, .int .i64 0, .int .i64 0, .slice none 0 0] 36 (0, 0)) b16_5) : gb442 ≠ gb433))
    replace BK433 := Aside0.mk (blk_below (g := gb433) (o := .cells #[.int .i64 0, .int .i64 0, .int .i64 0, .int .i64 0, .int .i64 0, .int .i64 0, .slice none 0 0] 36 (0, 0)) b16_5 hb)
    clear hb hbox hg
    refine hK.out _ _ (HS0_) (fun hHeld => ?_)
    clear hK K
    refine nm_ (some 5) ?_
    exact norm_ (by simp only [putAll, Act.put, List.setIfInBounds_toArray, List.set_cons_zero, List.set_cons_succ]) (hCont (.slice Ao17 t437.length co17, gb442) _ ⟨hHeld, (by refine cR_ ?_; exact Kd.R_mono HO436.out (fun _ hk => ⟨hk.1.1, hk.2⟩)), (by refine cR_ ?_; exact Kd.R_mono HO439.out (fun _ hk => ⟨hk.1.1, hk.2⟩)), b16_5, b16_11, GW442.out, GE442.out, NB433_442.out, NB442_433.out, b16_4⟩)
   ·skip
    refine box_step ?hg (N := 5) ?hd (cs := #[.int .i64 0, .int .i64 0, .int .i64 0, .int .i64 0, .int .i64 0, .int .i64 0, .slice none 0 0]) (t := 36) ?hr ?_; (case hd => rfl); (case hg => rfl); (case hr => first | (go_simp; done) | (go_simp; rfl))
    intro gb442 hg w17 hbox hb
    have HS0_ := (hb.cell (World.block_lt_of_cell? _ _ (hHeld))).trans (hHeld)
    replace HO436 := Aside0.mk (Kd.R_below b16_10 hb)
    replace HO439 := Aside0.mk (Kd.R_below (cR_ HO439.out) hb)
    have BK442 := Aside0.mk (hbox)
    have GW442 := Aside0.mk ((by rw [hg]; exact (below_size b16_3) : w.heap.size ≤ gb442))
    have GE442 := Aside0.mk ((by rw [hg]; exact (below_size b16_3) : w.heap.size ≤ gb442))
    replace HB := Aside0.mk (below_step b16_3 hb)
    have NB433_442 := Aside0.mk ((by rw [hg]; exact Nat.ne_of_lt (blk_lt (g := gb433) (o := .cells #[.int .i64 0, .int .i64 0, .int .i64 0, .int .i64 0, .int .i64 0, .int .i64 0, .slice none 0 0] 36 (0, 0)) b16_5) : gb433 ≠ gb442))
    have NB442_433 := Aside0.mk ((by rw [hg]; exact Nat.ne_of_gt (blk_lt (g := gb433) (o := .cells #[.int .i64 0, .int .i64 0, .int .i64 0, .int .i64 0, .int .i64 0, .int .i64 0, .slice none 0 0] 36 (0, 0)) b16_5) : gb442 ≠ gb433))
    replace BK433 := Aside0.mk (blk_below (g := gb433) (o := .cells #[.int .i64 0, .int .i64 0, .int .i64 0, .int .i64 0, .int .i64 0, .int .i64 0, .slice none 0 0] 36 (0, 0)) b16_5 hb)
    clear hb hbox hg
    obtain ⟨Ao18, co18, eo18⟩ := Kd.R_slice HO439.out
    (first | subst eo18 | (injection eo18 with f1_ f2_ f3_; have f4_ := f1_.symm; have f5_ := f3_.symm; clear f1_ f2_ f3_; subst f4_; subst f5_))
    refine hK.out _ _ (HS0_) (fun hHeld => ?_)
    clear hK K
    refine nm_ (some 5) ?_
    refine ov_ 4 19 (bl 9 159) (fun K hK => ?_)
    refine goes_ Tryz.func49 (by kernel_rfl) rfl #[.slice Ao18 t437.length co18, .string (rdOf ByteArray.empty t434 0)] (by rfl) rfl rfl cx_ ?_
    with_reducible refine (slices_Index_string_string.calls _ _ t437 (rdOf ByteArray.empty t434 0) t441 _ ?side0 ?side1 ?side2 A10.out).mono ?_
    (case side0 => intro ad_ e_; subst e_; exact Kd.R_head HO439.out); (case side1 => exact cC_ ((Kd.R_reads' HO439.out).2.2))
    (case side2 => exact (Kd.R_reads' HO439.out).2.1)
    rintro e w19 ⟨rfl, hb⟩
    have HS0_ := (hb.cell (World.block_lt_of_cell? _ _ (hHeld))).trans (hHeld)
    refine ⟨_, rfl, ?_⟩
    replace HO436 := Aside0.mk (Kd.R_below b16_10 hb)
    replace HO439 := Aside0.mk (Kd.R_below (cR_ HO439.out) hb)
    replace BK433 := Aside0.mk (blk_below (g := gb433) (o := .cells #[.int .i64 0, .int .i64 0, .int .i64 0, .int .i64 0, .int .i64 0, .int .i64 0, .slice none 0 0] 36 (0, 0)) b16_5 hb)
    replace BK442 := Aside0.mk (blk_below (g := gb442) (o := .cells #[.int .i64 0, .int .i64 0, .int .i64 0, .int .i64 0, .int .i64 0, .int .i64 0, .slice none 0 0] 36 (0, 0)) b16_11 hb)
    replace HB := Aside0.mk (below_step b16_4 hb)
    (try clear hb)
    (try clear hb2)
    (try clear hk)
    (try clear hi)
    refine hK.out _ _ (HS0_) (fun hHeld => ?_)
    clear hK K
    refine nm_ (some 19) ?_
    refine pv_ 5 20 (bl 9 191) ?_
    refine pv_ 6 21 (bl 9 255) ?_
    exact norm_ (by simp only [putAll, Act.put, List.setIfInBounds_toArray, List.set_cons_zero, List.set_cons_succ]) (hCont (.slice Ao18 t437.length co18, gb442) _ ⟨hHeld, (by refine cR_ ?_; exact Kd.R_mono HO436.out (fun _ hk => ⟨hk.1.1, hk.2⟩)), (by refine cR_ ?_; exact Kd.R_mono HO439.out (fun _ hk => ⟨hk.1.1, hk.2⟩)), b16_5, b16_11, GW442.out, GE442.out, NB433_442.out, NB442_433.out, b16_4⟩)
  ·skip
   refine box_step ?hg (N := 5) ?hd (cs := #[.int .i64 0, .int .i64 0, .int .i64 0, .int .i64 0, .int .i64 0, .int .i64 0, .slice none 0 0]) (t := 36) ?hr ?_; (case hd => rfl); (case hg => rfl); (case hr => first | (go_simp; done) | (go_simp; rfl))
   intro gb442 hg w16 hbox hb
   have HS0_ := (hb.cell (World.block_lt_of_cell? _ _ (hHeld))).trans (hHeld)
   replace HO436 := Aside0.mk (Kd.R_below b16_10 hb)
   have BK442 := Aside0.mk (hbox)
   have GW442 := Aside0.mk ((by rw [hg]; exact (below_size b16_3) : w.heap.size ≤ gb442))
   have GE442 := Aside0.mk ((by rw [hg]; exact (below_size b16_3) : w.heap.size ≤ gb442))
   replace HB := Aside0.mk (below_step b16_3 hb)
   have NB433_442 := Aside0.mk ((by rw [hg]; exact Nat.ne_of_lt (blk_lt (g := gb433) (o := .cells #[.int .i64 0, .int .i64 0, .int .i64 0, .int .i64 0, .int .i64 0, .int .i64 0, .slice none 0 0] 36 (0, 0)) b16_5) : gb433 ≠ gb442))
   have NB442_433 := Aside0.mk ((by rw [hg]; exact Nat.ne_of_gt (blk_lt (g := gb433) (o := .cells #[.int .i64 0, .int .i64 0, .int .i64 0, .int .i64 0, .int .i64 0, .int .i64 0, .slice none 0 0] 36 (0, 0)) b16_5) : gb442 ≠ gb433))
   replace BK433 := Aside0.mk (blk_below (g := gb433) (o := .cells #[.int .i64 0, .int .i64 0, .int .i64 0, .int .i64 0, .int .i64 0, .int .i64 0, .slice none 0 0] 36 (0, 0)) b16_5 hb)
   clear hb hbox hg
   refine hK.out _ _ (HS0_) (fun hHeld => ?_)
   clear hK K
   refine nm_ (some 5) ?_
   refine ov_ 0 15 (bl 9 143) (fun K hK => ?_)
   refine goes_ Tryz.func47 (by kernel_rfl) rfl #[.string (⟨#[105, 110, 112, 117, 116, 32, 102, 105, 108, 116, 101, 114, 32, 112, 114, 111, 106, 101, 99, 116, 32, 117, 110, 105, 111, 110, 32, 110, 101, 103, 97, 116, 101, 32, 106, 111, 105, 110, 32, 99, 111, 117, 110, 116, 32, 115, 117, 109, 32, 108, 101, 97, 115, 116, 32, 109, 111, 115, 116, 32, 100, 105, 115, 116, 105, 110, 99, 116, 32, 118, 105, 101, 119]⟩ : ByteArray), .string (⟨#[32]⟩ : ByteArray)] (by rfl) rfl rfl cx_ ?_
   with_reducible refine (strings_Split.calls (⟨#[105, 110, 112, 117, 116, 32, 102, 105, 108, 116, 101, 114, 32, 112, 114, 111, 106, 101, 99, 116, 32, 117, 110, 105, 111, 110, 32, 110, 101, 103, 97, 116, 101, 32, 106, 111, 105, 110, 32, 99, 111, 117, 110, 116, 32, 115, 117, 109, 32, 108, 101, 97, 115, 116, 32, 109, 111, 115, 116, 32, 100, 105, 115, 116, 105, 110, 99, 116, 32, 118, 105, 101, 119]⟩ : ByteArray) (⟨#[32]⟩ : ByteArray) t437 _ (Tab.tabB HTB_.out b16_4) A8.out).mono ?_
   rintro e w17 ⟨v438, rfl, ho0, hb⟩
   have HS0_ := (hb.cell (World.block_lt_of_cell? _ _ (hHeld))).trans (hHeld)
   refine ⟨_, rfl, ?_⟩
   have HO439 := Aside0.mk (Kd.R_lower (Kd.R_new' (Kd.R_newM (M := fun k_ => (w.heap.size ≤ k_)) ho0 (below_size b16_4) (fun k_ h_ => h_)) (Kd.R_lt b16_10)) (below_size b16_4))
   replace HO436 := Aside0.mk (Kd.R_elder' b16_10 (Kd.R_base ho0) hb)
   replace BK433 := Aside0.mk (blk_below (g := gb433) (o := .cells #[.int .i64 0, .int .i64 0, .int .i64 0, .int .i64 0, .int .i64 0, .int .i64 0, .slice none 0 0] 36 (0, 0)) b16_5 hb)
   replace BK442 := Aside0.mk (blk_below (g := gb442) (o := .cells #[.int .i64 0, .int .i64 0, .int .i64 0, .int .i64 0, .int .i64 0, .int .i64 0, .slice none 0 0] 36 (0, 0)) b16_11 hb)
   replace HB := Aside0.mk (below_step b16_4 hb)
   (try clear hb)
   (try clear hb2)
   (try clear hk)
   (try clear hi)
   (try clear ho0)
   obtain ⟨Ao18, co18, eo18⟩ := Kd.R_slice HO439.out
   (first | subst eo18 | (injection eo18 with f1_ f2_ f3_; have f4_ := f1_.symm; have f5_ := f3_.symm; clear f1_ f2_ f3_; subst f4_; subst f5_))
   refine hK.out _ _ (HS0_) (fun hHeld => ?_)
   clear hK K
   refine nm_ (some 15) ?_
   refine ov_ 4 19 (bl 9 159) (fun K hK => ?_)
   refine goes_ Tryz.func49 (by kernel_rfl) rfl #[.slice Ao18 t437.length co18, .string (rdOf ByteArray.empty t434 0)] (by rfl) rfl rfl cx_ ?_
   with_reducible refine (slices_Index_string_string.calls _ _ t437 (rdOf ByteArray.empty t434 0) t441 _ ?side0 ?side1 ?side2 A10.out).mono ?_
   (case side0 => intro ad_ e_; subst e_; exact Kd.R_head HO439.out); (case side1 => exact cC_ ((Kd.R_reads' HO439.out).2.2))
   (case side2 => exact (Kd.R_reads' HO439.out).2.1)
   rintro e w19 ⟨rfl, hb⟩
   have HS0_ := (hb.cell (World.block_lt_of_cell? _ _ (hHeld))).trans (hHeld)
   refine ⟨_, rfl, ?_⟩
   replace HO436 := Aside0.mk (Kd.R_below b16_10 hb)
   replace HO439 := Aside0.mk (Kd.R_below (cR_ HO439.out) hb)
   replace BK433 := Aside0.mk (blk_below (g := gb433) (o := .cells #[.int .i64 0, .int .i64 0, .int .i64 0, .int .i64 0, .int .i64 0, .int .i64 0, .slice none 0 0] 36 (0, 0)) b16_5 hb)
   replace BK442 := Aside0.mk (blk_below (g := gb442) (o := .cells #[.int .i64 0, .int .i64 0, .int .i64 0, .int .i64 0, .int .i64 0, .int .i64 0, .slice none 0 0] 36 (0, 0)) b16_11 hb)
   replace HB := Aside0.mk (below_step b16_4 hb)
   (try clear hb)
   (try clear hb2)
   (try clear hk)
   (try clear hi)
   refine hK.out _ _ (HS0_) (fun hHeld => ?_)
   clear hK K
   refine nm_ (some 19) ?_
   refine pv_ 5 20 (bl 9 191) ?_
   refine pv_ 6 21 (bl 9 255) ?_
   exact norm_ (by simp only [putAll, Act.put, List.setIfInBounds_toArray, List.set_cons_zero, List.set_cons_succ]) (hCont (.slice Ao18 t437.length co18, gb442) _ ⟨hHeld, (by refine cR_ ?_; exact Kd.R_mono HO436.out (fun _ hk => ⟨hk.1.1, hk.2⟩)), (by refine cR_ ?_; exact Kd.R_mono HO439.out (fun _ hk => ⟨hk.1.1, hk.2⟩)), b16_5, b16_11, GW442.out, GE442.out, NB433_442.out, NB442_433.out, b16_4⟩)
 rintro ⟨v438, gb442⟩ w20 ⟨hS_, h0_, h1_, h2_, h3_, h4_, h5_, h6_, h7_, h8_⟩
 have n0_ : Aside0 (Kd.R Kd.string 9 w20 w.heap.size (fun k_ => (w.heap.size ≤ k_) ∧ some k_ ≠ (v438 : Value).ownBlock) (.slice (some ad440) t434.length co14) t434) := ⟨h0_⟩
 have n1_ : Aside0 (Kd.R Kd.string 9 w20 w.heap.size (fun k_ => (w.heap.size ≤ k_) ∧ some k_ ≠ (.slice (some ad440) t434.length co14 : Value).ownBlock) v438 t437) := ⟨h1_⟩
 have n2_ : Aside0 (w20.heap[gb433]? = some (.cells #[.int .i64 0, .int .i64 0, .int .i64 0, .int .i64 0, .int .i64 0, .int .i64 0, .slice none 0 0] 36 (0, 0))) := ⟨h2_⟩
 have n3_ : Aside0 (w20.heap[gb442]? = some (.cells #[.int .i64 0, .int .i64 0, .int .i64 0, .int .i64 0, .int .i64 0, .int .i64 0, .slice none 0 0] 36 (0, 0))) := ⟨h3_⟩
 have n4_ : Aside0 (w.heap.size ≤ gb442) := ⟨h4_⟩
 have n5_ : Aside0 (w.heap.size ≤ gb442) := ⟨h5_⟩
 have n6_ : Aside0 (gb433 ≠ gb442) := ⟨h6_⟩
 have n7_ : Aside0 (gb442 ≠ gb433) := ⟨h7_⟩
 have n8_ : Aside0 (Below w.heap.size w w20) := ⟨h8_⟩
 clear HO436
 clear BK433
 clear HB
 clear h0_ h1_ h2_ h3_ h4_ h5_ h6_ h7_ h8_
 have HO436 := n0_
 have HO439 := n1_
 have BK433 := n2_
 have BK442 := n3_
 have GW442 := n4_
 have GE442 := n5_
 have NB433_442 := n6_
 have NB442_433 := n7_
 have HB := n8_
 clear n0_ n1_ n2_ n3_ n4_ n5_ n6_ n7_ n8_
 have hHeld : w20.cell? ad440 = some (.string (rdOf ByteArray.empty t434 0)) := hS_
 refine norm_ (a' := ?_) ?_ ?_
 rotate_left
 ·simp only [putAll, Act.put, List.setIfInBounds_toArray, List.set_cons_zero, List.set_cons_succ]
  rfl
 refine on_ 8 none (bl 9 511) HT_.out rfl (fun K hK => ?_)
 have hs21 : w20.cell? ⟨gb442, 0, none⟩ = some (.int .i64 0) := (blk_cell BK442.out 0).trans rfl
 have hfs21 := blk_frozen BK442.out 0
 have hns21_0 := NB433_442.out
 have hms21_0 := NB442_433.out
 have hs22 : w20.cell? ⟨gb442, 1, none⟩ = some (.int .i64 0) := (blk_cell BK442.out 1).trans rfl
 have hfs22 := blk_frozen BK442.out 1
 have hns22_0 := NB433_442.out
 have hms22_0 := NB442_433.out
 have hs23 : w20.cell? ⟨gb442, 2, none⟩ = some (.int .i64 0) := (blk_cell BK442.out 2).trans rfl
 have hfs23 := blk_frozen BK442.out 2
 have hns23_0 := NB433_442.out
 have hms23_0 := NB442_433.out
 have hs24 : w20.cell? ⟨gb442, 3, none⟩ = some (.int .i64 0) := (blk_cell BK442.out 3).trans rfl
 have hfs24 := blk_frozen BK442.out 3
 have hns24_0 := NB433_442.out
 have hms24_0 := NB442_433.out
 have hs25 : w20.cell? ⟨gb442, 4, none⟩ = some (.int .i64 0) := (blk_cell BK442.out 4).trans rfl
 have hfs25 := blk_frozen BK442.out 4
 have hns25_0 := NB433_442.out
 have hms25_0 := NB442_433.out
 have hs26 : w20.cell? ⟨gb442, 5, none⟩ = some (.int .i64 0) := (blk_cell BK442.out 5).trans rfl
 have hfs26 := blk_frozen BK442.out 5
 have hns26_0 := NB433_442.out
 have hms26_0 := NB442_433.out
 have hs27 : w20.cell? ⟨gb442, 6, none⟩ = some (.slice none 0 0) := (blk_cell BK442.out 6).trans rfl
 have hfs27 := blk_frozen BK442.out 6
 have hns27_0 := NB433_442.out
 have hms27_0 := NB442_433.out
 refine skip_ (w1 := ?_) (by rfl) rfl ?_ ?_
 rotate_left
 ·go_simp
  rfl
 refine hK.out _ _ (((cell_far (p := ⟨gb442, _, none⟩) b16_6 _).trans (((cell_far (p := ⟨gb442, _, none⟩) b16_6 _).trans (((cell_far (p := ⟨gb442, _, none⟩) b16_6 _).trans (((cell_far (p := ⟨gb442, _, none⟩) b16_6 _).trans (((cell_far (p := ⟨gb442, _, none⟩) b16_6 _).trans (((cell_far (p := ⟨gb442, _, none⟩) b16_6 _).trans (((cell_far (p := ⟨gb442, _, none⟩) b16_6 _).trans (hHeld))))))))))))))) (fun hHeld => ?_)
 clear hK K
 refine done_ (done_of HT_.out (by kernel_rfl)) ?_
 have hnb28 := NB442_433.out
 have hnc28 := NB433_442.out
 obtain ⟨hcz29_0, hcz29_1, hcz29_2, hcz29_3, hcz29_4, hcz29_5, hcz29_6, hfz29_0, hfz29_1, hfz29_2, hfz29_3, hfz29_4, hfz29_5, hfz29_6⟩ := cells7 BK442.out
 go_upto_if 24 with (fail)
 go_cut [4] (fun v4 wc => ∃ (kq : Nat) (x4_10 : List ByteArray) (x434000_10 : Int) (x434001_10 : Int) (x434002_10 : Int) (x434003_10 : Int) (x434004_10 : Int) (x434005_10 : Int) (x443004_10 : Int), Aside0 (impl_readNode.j1 kq x4_10 (wrap64 (t441 + 1)) 0 0 0 x443004_10 0 = some (r1, r2, r3, r4, r5, r6, r7, r8)) ∧ Aside0 (kq ≤ k) ∧ Aside0 (Kd.R Kd.string 9 wc w.heap.size (fun k_ => (w.heap.size ≤ k_)) v4 x4_10) ∧ Aside0 (wc.heap[gb433]? = some (.cells #[.int .i64 x434000_10, .int .i64 x434001_10, .int .i64 x434002_10, .int .i64 x434003_10, .int .i64 x434004_10, .int .i64 x434005_10, (.slice none 0 0)] 36 (0, 0))) ∧ Aside0 (wc.heap[gb442]? = some (.cells #[.int .i64 (wrap64 (t441 + 1)), .int .i64 0, .int .i64 0, .int .i64 0, .int .i64 x443004_10, .int .i64 0, (.slice none 0 0)] 36 (0, 0))) ∧ Aside0 (Below w.heap.size w wc))
 case first =>
  have H := HC11.out
  clear HC11
  by_cases c30 : (wrap64 (t441 + 1)) = 2
  rotate_left
  ·rw [if_neg c30] at H
   have c30b0 : ((wrap64 (t441 + 1)) == 2) = false := beq_eq_false_iff_ne.mpr c30
   have c30b1 : ((wrap64 (t441 + 1)) != 2) = true := bne_iff_ne.mpr c30
   (first | rw [c30b0] | (simp only [i64_w, i32_w]; rw [c30b0]) | skip)
   have H' := Aside0.mk H
   clear H
   go_wp2
   go_meet
   case rel => exact ⟨_, (t434), (0), (0), (0), (0), (0), (0), (0), H', ⟨cm_⟩, ⟨by refine cR_ ?_; exact Kd.R_mono (Kd.R_far (p := ⟨gb442, 6, none⟩) (Kd.R_far (p := ⟨gb442, 5, none⟩) (Kd.R_far (p := ⟨gb442, 4, none⟩) (Kd.R_far (p := ⟨gb442, 3, none⟩) (Kd.R_far (p := ⟨gb442, 2, none⟩) (Kd.R_far (p := ⟨gb442, 1, none⟩) (Kd.R_far (p := ⟨gb442, 0, none⟩) (Kd.R_types HO436.out BK442.out (by decide)) (fun _ hk => hk.2) (.int .i64 (wrap64 (t441 + 1)))) (fun _ hk => hk.2) (.int .i64 0)) (fun _ hk => hk.2) (.int .i64 0)) (fun _ hk => hk.2) (.int .i64 0)) (fun _ hk => hk.2) (.int .i64 0)) (fun _ hk => hk.2) (.int .i64 0)) (fun _ hk => hk.2) (.slice none 0 0)) (fun _ hk => hk.1.1)⟩, ⟨by refine cO_ ?_; refine blk_far ?_ NB433_442.out _; refine cO_ ?_; refine blk_far ?_ NB433_442.out _; refine cO_ ?_; refine blk_far ?_ NB433_442.out _; refine cO_ ?_; refine blk_far ?_ NB433_442.out _; refine cO_ ?_; refine blk_far ?_ NB433_442.out _; refine cO_ ?_; refine blk_far ?_ NB433_442.out _; refine cO_ ?_; refine blk_far ?_ NB433_442.out _; refine cO_ ?_; exact BK433.out⟩, ⟨by refine cO_ ?_; refine blk_put (cs := #[.int .i64 (wrap64 (t441 + 1)), .int .i64 0, .int .i64 0, .int .i64 0, .int .i64 0, .int .i64 0, .slice none 0 0]) ?_ 6 _ rfl; refine cO_ ?_; refine blk_put (cs := #[.int .i64 (wrap64 (t441 + 1)), .int .i64 0, .int .i64 0, .int .i64 0, .int .i64 0, .int .i64 0, .slice none 0 0]) ?_ 5 _ rfl; refine cO_ ?_; refine blk_put (cs := #[.int .i64 (wrap64 (t441 + 1)), .int .i64 0, .int .i64 0, .int .i64 0, .int .i64 0, .int .i64 0, .slice none 0 0]) ?_ 4 _ rfl; refine cO_ ?_; refine blk_put (cs := #[.int .i64 (wrap64 (t441 + 1)), .int .i64 0, .int .i64 0, .int .i64 0, .int .i64 0, .int .i64 0, .slice none 0 0]) ?_ 3 _ rfl; refine cO_ ?_; refine blk_put (cs := #[.int .i64 (wrap64 (t441 + 1)), .int .i64 0, .int .i64 0, .int .i64 0, .int .i64 0, .int .i64 0, .slice none 0 0]) ?_ 2 _ rfl; refine cO_ ?_; refine blk_put (cs := #[.int .i64 (wrap64 (t441 + 1)), .int .i64 0, .int .i64 0, .int .i64 0, .int .i64 0, .int .i64 0, .slice none 0 0]) ?_ 1 _ rfl; refine cO_ ?_; refine blk_put (cs := #[.int .i64 0, .int .i64 0, .int .i64 0, .int .i64 0, .int .i64 0, .int .i64 0, .slice none 0 0]) ?_ 0 _ rfl; refine cO_ ?_; exact BK442.out⟩, ⟨cB2_ GE433.out GE442.out⟩⟩
  rw [if_pos c30] at H
  have c30b0 : ((wrap64 (t441 + 1)) == 2) = true := beq_iff_eq.mpr c30
  have c30b1 : ((wrap64 (t441 + 1)) != 2) = false := bne_eq_false_iff_eq.mpr c30
  clear c30
  (first | rw [c30b0] | (simp only [i64_w, i32_w]; rw [c30b0]) | skip)
  have HC31 := Aside0.mk H
  clear H
  go_upto_region 6 with (fail)
  go_cut [34] (fun v34 wc => ∃ (kq : Nat) (x34_30 : Bool), v34 = .bool x34_30 ∧ Aside0 (impl_readNode.j0 kq t434 x34_30 (wrap64 (t441 + 1)) 0 0 0 0 0 = some (r1, r2, r3, r4, r5, r6, r7, r8)) ∧ Aside0 (kq ≤ k) ∧ Aside0 (Kd.R Kd.string 9 wc w.heap.size (fun k_ => (w.heap.size ≤ k_)) (.slice (some ad440) t434.length co14) t434) ∧ Aside0 (wc.heap[gb433]? = some (.cells #[.int .i64 0, .int .i64 0, .int .i64 0, .int .i64 0, .int .i64 0, .int .i64 0, (.slice none 0 0)] 36 (0, 0))) ∧ Aside0 (wc.heap[gb442]? = some (.cells #[.int .i64 (wrap64 (t441 + 1)), .int .i64 0, .int .i64 0, .int .i64 0, .int .i64 0, .int .i64 0, (.slice none 0 0)] 36 (0, 0))) ∧ Aside0 (Below w.heap.size w wc))
  case first =>
   have H := HC31.out
   clear HC31
   by_cases c32 : (t434.length : Int) = 5
   rotate_left
   ·rw [if_neg c32] at H
    have c32b0 : ((t434.length : Int) == 5) = false := beq_eq_false_iff_ne.mpr c32
    have c32b1 : ((t434.length : Int) != 5) = true := bne_iff_ne.mpr c32
    (first | rw [c32b0] | (simp only [i64_w, i32_w]; rw [c32b0]) | skip)
    have H' := Aside0.mk H
    clear H
    go_wp2
    go_meet
    case rel => exact ⟨_, (true), cs_, H', ⟨cm_⟩, ⟨by refine cR_ ?_; exact Kd.R_mono (Kd.R_far (p := ⟨gb442, 6, none⟩) (Kd.R_far (p := ⟨gb442, 5, none⟩) (Kd.R_far (p := ⟨gb442, 4, none⟩) (Kd.R_far (p := ⟨gb442, 3, none⟩) (Kd.R_far (p := ⟨gb442, 2, none⟩) (Kd.R_far (p := ⟨gb442, 1, none⟩) (Kd.R_far (p := ⟨gb442, 0, none⟩) (Kd.R_types HO436.out BK442.out (by decide)) (fun _ hk => hk.2) (.int .i64 (wrap64 (t441 + 1)))) (fun _ hk => hk.2) (.int .i64 0)) (fun _ hk => hk.2) (.int .i64 0)) (fun _ hk => hk.2) (.int .i64 0)) (fun _ hk => hk.2) (.int .i64 0)) (fun _ hk => hk.2) (.int .i64 0)) (fun _ hk => hk.2) (.slice none 0 0)) (fun _ hk => hk.1.1)⟩, ⟨by refine cO_ ?_; refine blk_far ?_ NB433_442.out _; refine cO_ ?_; refine blk_far ?_ NB433_442.out _; refine cO_ ?_; refine blk_far ?_ NB433_442.out _; refine cO_ ?_; refine blk_far ?_ NB433_442.out _; refine cO_ ?_; refine blk_far ?_ NB433_442.out _; refine cO_ ?_; refine blk_far ?_ NB433_442.out _; refine cO_ ?_; refine blk_far ?_ NB433_442.out _; refine cO_ ?_; exact BK433.out⟩, ⟨by refine cO_ ?_; refine blk_put (cs := #[.int .i64 (wrap64 (t441 + 1)), .int .i64 0, .int .i64 0, .int .i64 0, .int .i64 0, .int .i64 0, .slice none 0 0]) ?_ 6 _ rfl; refine cO_ ?_; refine blk_put (cs := #[.int .i64 (wrap64 (t441 + 1)), .int .i64 0, .int .i64 0, .int .i64 0, .int .i64 0, .int .i64 0, .slice none 0 0]) ?_ 5 _ rfl; refine cO_ ?_; refine blk_put (cs := #[.int .i64 (wrap64 (t441 + 1)), .int .i64 0, .int .i64 0, .int .i64 0, .int .i64 0, .int .i64 0, .slice none 0 0]) ?_ 4 _ rfl; refine cO_ ?_; refine blk_put (cs := #[.int .i64 (wrap64 (t441 + 1)), .int .i64 0, .int .i64 0, .int .i64 0, .int .i64 0, .int .i64 0, .slice none 0 0]) ?_ 3 _ rfl; refine cO_ ?_; refine blk_put (cs := #[.int .i64 (wrap64 (t441 + 1)), .int .i64 0, .int .i64 0, .int .i64 0, .int .i64 0, .int .i64 0, .slice none 0 0]) ?_ 2 _ rfl; refine cO_ ?_; refine blk_put (cs := #[.int .i64 (wrap64 (t441 + 1)), .int .i64 0, .int .i64 0, .int .i64 0, .int .i64 0, .int .i64 0, .slice none 0 0]) ?_ 1 _ rfl; refine cO_ ?_; refine blk_put (cs := #[.int .i64 0, .int .i64 0, .int .i64 0, .int .i64 0, .int .i64 0, .int .i64 0, .slice none 0 0]) ?_ 0 _ rfl; refine cO_ ?_; exact BK442.out⟩, ⟨cB2_ GE433.out GE442.out⟩⟩
   rw [if_pos c32] at H
   have c32b0 : ((t434.length : Int) == 5) = true := beq_iff_eq.mpr c32
   have c32b1 : ((t434.length : Int) != 5) = false := bne_eq_false_iff_eq.mpr c32
   clear c32
   (first | rw [c32b0] | (simp only [i64_w, i32_w]; rw [c32b0]) | skip)
   by_cases c33 : 3 < (t434.length : Int)
   rotate_left
   ·rw [if_neg c33] at H
    exact absurd H (by simp)
   rw [if_pos c33] at H
   have c33b0 := decide_eq_true c33
   have c33b1 : decide (3 < t434.length) = true := decide_eq_true (by omega)
   clear c33
   have H' := Aside0.mk H
   clear H
   have p443 : 0 ≤ (3 : Int) := (by omega)
   have q443 : 3 < (t434.length : Int) := cd_
   obtain ⟨ad443, e443, hx443_0⟩ := Kd.at_string (Kd.R_reads' HO436.out).2.2 3 p443 q443
   obtain rfl : ad440 = ad443 := (by injection e443)
   (try simp only [show (3 : Int).toNat = 3 from rfl, Nat.reduceMul, Nat.reduceEqDiff, Go.Addr.add, ↓reduceIte] at hx443_0)
   have qi443 : (3 < t434.length) = True := eq_true (by omega)
   (try rw [show ((3 : Int)).toNat = 3 from rfl] at hx443_0)
   have hn443_0 : ad440.block ≠ gb442 := Kd.own_blk (Kd.R_ne HO436.out BK442.out (by decide))
   have hn443_1 : ad440.block ≠ gb442 := Kd.own_blk (Kd.R_ne HO436.out BK442.out (by decide))
   have hn443_2 : ad440.block ≠ gb442 := Kd.own_blk (Kd.R_ne HO436.out BK442.out (by decide))
   have hn443_3 : ad440.block ≠ gb442 := Kd.own_blk (Kd.R_ne HO436.out BK442.out (by decide))
   have hn443_4 : ad440.block ≠ gb442 := Kd.own_blk (Kd.R_ne HO436.out BK442.out (by decide))
   have hn443_5 : ad440.block ≠ gb442 := Kd.own_blk (Kd.R_ne HO436.out BK442.out (by decide))
   have hn443_6 : ad440.block ≠ gb442 := Kd.own_blk (Kd.R_ne HO436.out BK442.out (by decide))
   replace hx443_0 := (cell_far (p := ⟨gb442, 0, none⟩) (by first | (rw [add_block]; exact hn443_0) | (show (Addr.add _ _).block ≠ _; rw [add_block]; exact hn443_0) | exact hn443_0) (.int .i64 (wrap64 (t441 + 1)))).trans hx443_0
   replace hx443_0 := (cell_far (p := ⟨gb442, 1, none⟩) (by first | (rw [add_block]; exact hn443_1) | (show (Addr.add _ _).block ≠ _; rw [add_block]; exact hn443_1) | exact hn443_1) (.int .i64 0)).trans hx443_0
   replace hx443_0 := (cell_far (p := ⟨gb442, 2, none⟩) (by first | (rw [add_block]; exact hn443_2) | (show (Addr.add _ _).block ≠ _; rw [add_block]; exact hn443_2) | exact hn443_2) (.int .i64 0)).trans hx443_0
   replace hx443_0 := (cell_far (p := ⟨gb442, 3, none⟩) (by first | (rw [add_block]; exact hn443_3) | (show (Addr.add _ _).block ≠ _; rw [add_block]; exact hn443_3) | exact hn443_3) (.int .i64 0)).trans hx443_0
   replace hx443_0 := (cell_far (p := ⟨gb442, 4, none⟩) (by first | (rw [add_block]; exact hn443_4) | (show (Addr.add _ _).block ≠ _; rw [add_block]; exact hn443_4) | exact hn443_4) (.int .i64 0)).trans hx443_0
   replace hx443_0 := (cell_far (p := ⟨gb442, 5, none⟩) (by first | (rw [add_block]; exact hn443_5) | (show (Addr.add _ _).block ≠ _; rw [add_block]; exact hn443_5) | exact hn443_5) (.int .i64 0)).trans hx443_0
   replace hx443_0 := (cell_far (p := ⟨gb442, 6, none⟩) (by first | (rw [add_block]; exact hn443_6) | (show (Addr.add _ _).block ≠ _; rw [add_block]; exact hn443_6) | exact hn443_6) (.slice none 0 0)).trans hx443_0
   clear hn443_0
   clear hn443_1
   clear hn443_2
   clear hn443_3
   clear hn443_4
   clear hn443_5
   clear hn443_6
   replace p443 := eq_true p443
   replace q443 := eq_true q443
   go_wp2
   go_meet
   case rel => exact ⟨_, ((((rdOf ByteArray.empty t434 3).size : Int) != 1)), cs_, H', ⟨cm_⟩, ⟨by refine cR_ ?_; exact Kd.R_mono (Kd.R_far (p := ⟨gb442, 6, none⟩) (Kd.R_far (p := ⟨gb442, 5, none⟩) (Kd.R_far (p := ⟨gb442, 4, none⟩) (Kd.R_far (p := ⟨gb442, 3, none⟩) (Kd.R_far (p := ⟨gb442, 2, none⟩) (Kd.R_far (p := ⟨gb442, 1, none⟩) (Kd.R_far (p := ⟨gb442, 0, none⟩) (Kd.R_types HO436.out BK442.out (by decide)) (fun _ hk => hk.2) (.int .i64 (wrap64 (t441 + 1)))) (fun _ hk => hk.2) (.int .i64 0)) (fun _ hk => hk.2) (.int .i64 0)) (fun _ hk => hk.2) (.int .i64 0)) (fun _ hk => hk.2) (.int .i64 0)) (fun _ hk => hk.2) (.int .i64 0)) (fun _ hk => hk.2) (.slice none 0 0)) (fun _ hk => hk.1.1)⟩, ⟨by refine cO_ ?_; refine blk_far ?_ NB433_442.out _; refine cO_ ?_; refine blk_far ?_ NB433_442.out _; refine cO_ ?_; refine blk_far ?_ NB433_442.out _; refine cO_ ?_; refine blk_far ?_ NB433_442.out _; refine cO_ ?_; refine blk_far ?_ NB433_442.out _; refine cO_ ?_; refine blk_far ?_ NB433_442.out _; refine cO_ ?_; refine blk_far ?_ NB433_442.out _; refine cO_ ?_; exact BK433.out⟩, ⟨by refine cO_ ?_; refine blk_put (cs := #[.int .i64 (wrap64 (t441 + 1)), .int .i64 0, .int .i64 0, .int .i64 0, .int .i64 0, .int .i64 0, .slice none 0 0]) ?_ 6 _ rfl; refine cO_ ?_; refine blk_put (cs := #[.int .i64 (wrap64 (t441 + 1)), .int .i64 0, .int .i64 0, .int .i64 0, .int .i64 0, .int .i64 0, .slice none 0 0]) ?_ 5 _ rfl; refine cO_ ?_; refine blk_put (cs := #[.int .i64 (wrap64 (t441 + 1)), .int .i64 0, .int .i64 0, .int .i64 0, .int .i64 0, .int .i64 0, .slice none 0 0]) ?_ 4 _ rfl; refine cO_ ?_; refine blk_put (cs := #[.int .i64 (wrap64 (t441 + 1)), .int .i64 0, .int .i64 0, .int .i64 0, .int .i64 0, .int .i64 0, .slice none 0 0]) ?_ 3 _ rfl; refine cO_ ?_; refine blk_put (cs := #[.int .i64 (wrap64 (t441 + 1)), .int .i64 0, .int .i64 0, .int .i64 0, .int .i64 0, .int .i64 0, .slice none 0 0]) ?_ 2 _ rfl; refine cO_ ?_; refine blk_put (cs := #[.int .i64 (wrap64 (t441 + 1)), .int .i64 0, .int .i64 0, .int .i64 0, .int .i64 0, .int .i64 0, .slice none 0 0]) ?_ 1 _ rfl; refine cO_ ?_; refine blk_put (cs := #[.int .i64 0, .int .i64 0, .int .i64 0, .int .i64 0, .int .i64 0, .int .i64 0, .slice none 0 0]) ?_ 0 _ rfl; refine cO_ ?_; exact BK442.out⟩, ⟨cB2_ GE433.out GE442.out⟩⟩
  case rest =>
   clear A2 c3 c3b0 c3b1 c3b2 A8 c9b0 c9b1 A10 GW433 H qi440 p440 q440 HT_ HW_ hx440_0 hS_ HO436 HO439 BK433 BK442 GW442 HB hs21 hfs21 hns21_0 hms21_0 hs22 hfs22 hns22_0 hms22_0 hs23 hfs23 hns23_0 hms23_0 hs24 hfs24 hns24_0 hms24_0 hs25 hfs25 hns25_0 hms25_0 hs26 hfs26 hns26_0 hms26_0 hs27 hfs27 hns27_0 hms27_0 hHeld hnb28 hnc28 hcz29_0 hcz29_1 hcz29_2 hcz29_3 hcz29_4 hcz29_5 hcz29_6 hfz29_0 hfz29_1 hfz29_2 hfz29_3 hfz29_4 hfz29_5 hfz29_6 c30b0 c30b1 HC31
   obtain ⟨kq, x34_30, rfl, HA, HJ30, HO_4, BK433, BK442, HB⟩ := hcut
   cases kq with
   | zero => exact absurd HA.out (by simp [impl_readNode.j0])
   | succ kj30 =>
    have H := HA.out
    clear HA
    simp only [impl_readNode.j0] at H
    by_cases c34 : x34_30 = true
    ·subst c34
     rw [if_pos rfl] at H
     exact absurd H (by simp)
    replace c34 := Bool.eq_false_iff.mpr c34
    subst c34
    rw [if_neg (show ¬ (false = true) by decide)] at H
    by_cases c37 : 3 < (t434.length : Int)
    rotate_left
    ·rw [if_neg c37] at H
     exact absurd H (by simp)
    rw [if_pos c37] at H
    have c37b0 := decide_eq_true c37
    have c37b1 : decide (3 < t434.length) = true := decide_eq_true (by omega)
    clear c37
    by_cases c38 : 0 < ((rdOf ByteArray.empty t434 3).size : Int)
    rotate_left
    ·rw [if_neg c38] at H
     exact absurd H (by simp)
    rw [if_pos c38] at H
    have c38b0 := decide_eq_true c38
    have c38b1 : decide (0 < (rdOf ByteArray.empty t434 3).size) = true := decide_eq_true (by omega)
    clear c38
    obtain ⟨t445, A40, H⟩ := bnd_ H
    try dsimp only at H
    obtain ⟨t446, A41, H⟩ := bnd_ H
    try dsimp only at H
    have H' := Aside0.mk H
    clear H
    have p444 : 0 ≤ (3 : Int) := (by omega)
    have q444 : 3 < (t434.length : Int) := cd_
    obtain ⟨ad444, e444, hx444_0⟩ := Kd.at_string (Kd.R_reads' HO_4.out).2.2 3 p444 q444
    obtain rfl : ad440 = ad444 := (by injection e444)
    (try simp only [show (3 : Int).toNat = 3 from rfl, Nat.reduceMul, Nat.reduceEqDiff, Go.Addr.add, ↓reduceIte] at hx444_0)
    have qi444 : (3 < t434.length) = True := eq_true (by omega)
    (try rw [show ((3 : Int)).toNat = 3 from rfl] at hx444_0)
    replace p444 := eq_true p444
    replace q444 := eq_true q444
    have p39 : 0 ≤ (0 : Int) := (by omega)
    have q39 : 0 < (rdOf ByteArray.empty t434 3).size := (by have : (0 : Int) < ((rdOf ByteArray.empty t434 3).size : Int) := cd_; omega)
    have hx39 : ∀ h : 0 < (rdOf ByteArray.empty t434 3).size, (((rdOf ByteArray.empty t434 3)[0]'h).toNat : Int) = bt (rdOf ByteArray.empty t434 3) 0 := bt_at (rdOf ByteArray.empty t434 3) 0
    clear p39
    have qi39 : (0 < ((rdOf ByteArray.empty t434 3).size : Int)) = True := eq_true (of_decide_eq_true ca_)
    replace q39 := eq_true q39
    go_wp2_with (first | (refine gl_ 50 (some 40) Tryz.func50 #[.string (⟨#[61, 60, 62]⟩ : ByteArray), .int .u8 (bt (rdOf ByteArray.empty t434 3) 0)] ?_; (with_reducible refine (strings_IndexByte.calls (⟨#[61, 60, 62]⟩ : ByteArray) (bt (rdOf ByteArray.empty t434 3) 0) t445 _ A40.out).mono ?_); rintro e w42 ⟨rfl, hb⟩; refine ⟨_, rfl, ?_⟩; replace HO_4 := Aside0.mk (Kd.R_below (cR_ HO_4.out) hb); replace BK433 := Aside0.mk (blk_below (g := gb433) (o := .cells #[.int .i64 0, .int .i64 0, .int .i64 0, .int .i64 0, .int .i64 0, .int .i64 0, .slice none 0 0] 36 (0, 0)) b16_5 hb); replace BK442 := Aside0.mk (blk_below (g := gb442) (o := .cells #[.int .i64 (wrap64 (t441 + 1)), .int .i64 0, .int .i64 0, .int .i64 0, .int .i64 0, .int .i64 0, .slice none 0 0] 36 (0, 0)) b16_11 hb); replace HB := Aside0.mk (below_step b16_4 hb); (try clear hb); have hnb43 := NB442_433.out; have hnc43 := NB433_442.out; obtain ⟨_, _, _, _, _, _, _, _, _, _, _, _, _, _⟩ := cells7 BK442.out) | (refine gl_ 51 (some 43) Tryz.func51 #[.slice (some ad440) t434.length co14, .int .i64 3, .int .i64 4] ?_; have et_ := A41.out; simp only [slices_Delete_string_string.f, Option.ite_none_right_eq_some, Option.some.injEq] at et_; obtain ⟨lt_, et_⟩ := et_; refine (Text.delete_rows (base := w.heap.size) (ok := fun k_ => (w.heap.size ≤ k_)) (A := some ad440) (c := co14) (xs := t434) (i := 3) (j := 4) ?side1 (by omega) (by omega) (by omega)).mono ?_; (case side1 => exact b16_14); rintro e w45 ⟨v447, rfl, ho0, hg⟩; refine ⟨_, rfl, ?_⟩; have n1_ := Aside0.mk (show Kd.R Kd.string 9 _ w.heap.size (fun k_ => (w.heap.size ≤ k_)) v447 t446 from by rw [← et_]; exact ho0); have n2_ := Aside0.mk (Text.blk_grown (g := gb433) (t := 36) (cs := #[.int .i64 0, .int .i64 0, .int .i64 0, .int .i64 0, .int .i64 0, .int .i64 0, .slice none 0 0]) hg (show Kd.R Kd.string 9 _ w.heap.size (fun k_ => (w.heap.size ≤ k_)) (.slice (some ad440) t434.length co14) t434 from b16_14) (by refine cO_ ?_; refine blk_far ?_ NB433_442.out _; refine cO_ ?_; exact BK433.out) (by decide)); have n3_ := Aside0.mk (Text.blk_grown (g := gb442) (t := 36) (cs := #[.int .i64 (wrap64 (t441 + 1)), .int .i64 0, .int .i64 0, .int .i64 0, .int .i64 t445, .int .i64 0, .slice none 0 0]) hg (show Kd.R Kd.string 9 _ w.heap.size (fun k_ => (w.heap.size ≤ k_)) (.slice (some ad440) t434.length co14) t434 from b16_14) (by refine cO_ ?_; refine blk_put (cs := #[.int .i64 (wrap64 (t441 + 1)), .int .i64 0, .int .i64 0, .int .i64 0, .int .i64 0, .int .i64 0, .slice none 0 0]) ?_ 4 _ rfl; refine cO_ ?_; exact BK442.out) (by decide)); have n4_ := Aside0.mk (Below.grown b16_4 hg (below_size b16_4) (Kd.R_base HO_4.out)); clear et_ lt_; clear HO_4; clear BK433; clear BK442; clear HB; have HO448 := n1_; have BK433 := n2_; have BK442 := n3_; have HB := n4_; clear n1_ n2_ n3_ n4_; (try clear hg); (try clear ho0)))
    go_meet
    case rel => exact ⟨_, (t446), (0), (0), (0), (0), (0), (0), (t445), H', ⟨by have := HJ30.out; first | omega | exact Nat.le_refl _⟩, ⟨cR_ HO448.out⟩, ⟨cO_ BK433.out⟩, ⟨cO_ BK442.out⟩, ⟨cB2_ GE433.out GE442.out⟩⟩
 case rest =>
  clear A2 c3 c3b0 c3b1 c3b2 A8 c9b0 c9b1 A10 HC11 GW433 H qi440 p440 q440 HT_ HW_ hx440_0 hS_ HO436 HO439 BK433 BK442 GW442 HB hs21 hfs21 hns21_0 hms21_0 hs22 hfs22 hns22_0 hms22_0 hs23 hfs23 hns23_0 hms23_0 hs24 hfs24 hns24_0 hms24_0 hs25 hfs25 hns25_0 hms25_0 hs26 hfs26 hns26_0 hms26_0 hs27 hfs27 hns27_0 hms27_0 hHeld hnb28 hnc28 hcz29_0 hcz29_1 hcz29_2 hcz29_3 hcz29_4 hcz29_5 hcz29_6 hfz29_0 hfz29_1 hfz29_2 hfz29_3 hfz29_4 hfz29_5 hfz29_6
  obtain ⟨kq, x4_10, x434000_10, x434001_10, x434002_10, x434003_10, x434004_10, x434005_10, x443004_10, HA, HJ10, HO_4, BK433, BK442, HB⟩ := hcut
  cases kq with
  | zero => exact absurd HA.out (by simp [impl_readNode.j1])
  | succ kj10 =>
   have H := HA.out
   clear HA
   simp only [impl_readNode.j1] at H
   by_cases c46 : 1 ≤ (x4_10.length : Int)
   rotate_left
   ·rw [if_neg c46] at H
    exact absurd H (by simp)
   rw [if_pos c46] at H
   have c46b0 := eq_true c46
   have c46b1 : decide (1 ≤ (x4_10.length : Int)) = true := decide_eq_true c46
   clear c46
   obtain ⟨y449, hy_⟩ : ∃ y_ : List ByteArray, y_ = (x4_10.drop 1) := ⟨_, rfl⟩
   replace H : ((impl_readNumbers.f kj10 y449 10).bind fun bt453 => (if bt453.2 = true then (impl_readNode.j2 kj10 bt453.1 (decide (x443004_10 < 0)) (wrap64 (t441 + 1)) 0 0 0 x443004_10 0) else (impl_readNode.j2 kj10 bt453.1 true (wrap64 (t441 + 1)) 0 0 0 x443004_10 0))) = some (r1, r2, r3, r4, r5, r6, r7, r8) := yb_
   have Ny449 := Aside0.mk hy_
   clear hy_
   obtain ⟨⟨t453, t456⟩, A47, H⟩ := bnd_ H
   try dsimp only at H
   have HC48 := Aside0.mk H
   clear H
   obtain ⟨Ao50, co50, eo50⟩ := Kd.R_slice HO_4.out
   subst eo50
   have q49 : (1 : Int) ≤ ((x4_10.length : Int) : Int) := cd_
   obtain ⟨i049, hi049, _, hsz49, _⟩ := info_parts info9
   have hroom49 : x4_10.length ≤ co50 := (Kd.R_reads' HO_4.out).2.1
   have hC49 : Kd.C Kd.string _ Ao50 x4_10.length x4_10 := (Kd.R_reads' HO_4.out).2.2
   have hcut49 := cut_from (P := Tryz.prog) 46 9 .i64 Tryz.underlying46 hi049 1 hsz49 Ao50 x4_10.length co50 1 (by omega) q49
   have hr49 := Kd.C_drop (m := (1 : Int).toNat) (c := co50) hC49 (by omega) hroom49
   obtain ⟨A49, hA49⟩ : ∃ A1, A1 = (if co50 = (1 : Int).toNat then Ao50 else (Ao50 : Option Addr).map (·.add ((1 : Int).toNat * 1))) := ⟨_, rfl⟩
   obtain ⟨c49, hc49⟩ : ∃ c1, c1 = co50 - (1 : Int).toNat := ⟨_, rfl⟩
   have hy49 : y449.length = x4_10.length - (1 : Int).toNat := (by rw [Ny449.out, List.length_drop] <;> omega)
   rw [show (x4_10).drop (1 : Int).toNat = y449 from Ny449.out.symm] at hr49
   replace hr49 : Kd.C Kd.string _ A49 y449.length y449 := (by rw [hA49]; exact hr49)
   rw [← hy49, ← hA49, ← hc49] at hcut49
   have HR452 := Aside0.mk hr49
   have HC452 := Aside0.mk (show y449.length ≤ c49 from by rw [hy49, hc49]; exact Nat.sub_le_sub_right hroom49 _)
   clear hr49 hC49 hroom49 hi049 hsz49 hc49
   have KY49 := Aside0.mk hy49
   have KA49 := Aside0.mk hA49
   clear hy49 hA49
   have KL49 := Aside0.mk (show 1 ≤ x4_10.length from by omega)
   replace q49 := eq_true q49
   go_upto_region 11 with (first | (refine gl_ 52 (some 47) Tryz.func52 #[.slice A49 y449.length c49, .int .i64 10] ?_; (with_reducible refine (impl_readNumbers.calls kj10 _ _ y449 10 t453 t456 _ ?side1 ?side2 A47.out).mono ?_); (case side1 => exact (by repeat (first | exact (by repeat (first | (with_reducible exact HR452.out) | (with_reducible refine Kd.C_alloc ?_ _) | (with_reducible refine Kd.C_drewN ?_ _) | (with_reducible refine Kd.C_drew ?_) | exact HR452.out)) | (with_reducible refine Kd.C_alloc ?_ _) | (with_reducible refine Kd.C_drewN ?_ _) | (with_reducible refine Kd.C_drew ?_)))); (case side2 => exact HC452.out); rintro e w51 ⟨v454, rfl, ho0, hb⟩; refine ⟨_, rfl, ?_⟩; have HO455 := Aside0.mk (Kd.V_lower (Kd.V_mono (ok' := fun k_ => (w.heap.size ≤ k_) ∧ some k_ ≠ (.slice Ao50 x4_10.length co50 : Value).ownBlock ∧ k_ ≠ gb433 ∧ k_ ≠ gb442) ho0 (fun k_ hk_ => ⟨(Nat.le_trans (below_size b16_4) hk_), (Kd.fresh' (Kd.R_lt (cR_ HO_4.out)) k_ hk_), (Kd.freshB (g := gb433) (o := .cells #[.int .i64 x434000_10, .int .i64 x434001_10, .int .i64 x434002_10, .int .i64 x434003_10, .int .i64 x434004_10, .int .i64 x434005_10, .slice none 0 0] 36 (0, 0)) b16_5 k_ hk_), (Kd.freshB (g := gb442) (o := .cells #[.int .i64 (wrap64 (t441 + 1)), .int .i64 0, .int .i64 0, .int .i64 0, .int .i64 x443004_10, .int .i64 0, .slice none 0 0] 36 (0, 0)) b16_11 k_ hk_)⟩)) (below_size b16_4)); replace HO_4 := Aside0.mk (Kd.R_below (cR_ HO_4.out) hb); replace BK433 := Aside0.mk (blk_below (g := gb433) (o := .cells #[.int .i64 x434000_10, .int .i64 x434001_10, .int .i64 x434002_10, .int .i64 x434003_10, .int .i64 x434004_10, .int .i64 x434005_10, .slice none 0 0] 36 (0, 0)) b16_5 hb); replace BK442 := Aside0.mk (blk_below (g := gb442) (o := .cells #[.int .i64 (wrap64 (t441 + 1)), .int .i64 0, .int .i64 0, .int .i64 0, .int .i64 x443004_10, .int .i64 0, .slice none 0 0] 36 (0, 0)) b16_11 hb); replace HB := Aside0.mk (below_step b16_4 hb); (try clear hb); (try clear ho0)))
   (try simp only [Act.put, List.setIfInBounds_toArray, List.set_cons_zero, List.set_cons_succ])
   go_cut [56] (fun v56 wc => ∃ (kq : Nat) (x56_47 : Bool), v56 = .bool x56_47 ∧ Aside0 (impl_readNode.j2 kq t453 x56_47 (wrap64 (t441 + 1)) 0 0 0 x443004_10 0 = some (r1, r2, r3, r4, r5, r6, r7, r8)) ∧ Aside0 (kq ≤ kj10) ∧ Aside0 (Kd.V (Kd.int .i64) 2 wc w.heap.size (fun k_ => (w.heap.size ≤ k_) ∧ k_ ≠ gb433 ∧ k_ ≠ gb442) v454 t453) ∧ Aside0 (wc.heap[gb433]? = some (.cells #[.int .i64 x434000_10, .int .i64 x434001_10, .int .i64 x434002_10, .int .i64 x434003_10, .int .i64 x434004_10, .int .i64 x434005_10, (.slice none 0 0)] 36 (0, 0))) ∧ Aside0 (wc.heap[gb442]? = some (.cells #[.int .i64 (wrap64 (t441 + 1)), .int .i64 0, .int .i64 0, .int .i64 0, .int .i64 x443004_10, .int .i64 0, (.slice none 0 0)] 36 (0, 0))) ∧ Aside0 (Below w.heap.size w wc))
   case first =>
    have H := HC48.out
    clear HC48
    by_cases c52 : t456 = true
    ·subst c52
     rw [if_pos rfl] at H
     have H' := Aside0.mk H
     clear H
     have hnb53 := NB442_433.out
     have hnc53 := NB433_442.out
     obtain ⟨_, _, _, _, _, _, _, _, _, _, _, _, _, _⟩ := cells7 BK442.out
     go_wp2
     go_meet
     case rel => exact ⟨_, (decide (x443004_10 < 0)), cs_, H', ⟨by have := HJ10.out; first | omega | exact Nat.le_refl _⟩, ⟨by refine cV_ ?_; exact Kd.V_mono HO455.out (fun _ hk => ⟨hk.1, ⟨hk.2.2.1, hk.2.2.2⟩⟩)⟩, ⟨cO_ BK433.out⟩, ⟨cO_ BK442.out⟩, ⟨cB2_ GE433.out GE442.out⟩⟩
    replace c52 := Bool.eq_false_iff.mpr c52
    subst c52
    rw [if_neg (show ¬ (false = true) by decide)] at H
    have H' := Aside0.mk H
    clear H
    go_wp2
    go_meet
    case rel => exact ⟨_, (true), cs_, H', ⟨by have := HJ10.out; first | omega | exact Nat.le_refl _⟩, ⟨by refine cV_ ?_; exact Kd.V_mono HO455.out (fun _ hk => ⟨hk.1, ⟨hk.2.2.1, hk.2.2.2⟩⟩)⟩, ⟨cO_ BK433.out⟩, ⟨cO_ BK442.out⟩, ⟨cB2_ GE433.out GE442.out⟩⟩
   case rest =>
    clear c46b0 c46b1 H Ny449 A47 HC48 hcut49 HR452 HC452 KY49 KA49 KL49 q49 HO455 HO_4 BK433 BK442 HB
    obtain ⟨kq, x56_47, rfl, HA, HJ47, HO_6, BK433, BK442, HB⟩ := hcut
    cases kq with
    | zero => exact absurd HA.out (by simp [impl_readNode.j2])
    | succ kj47 =>
     have H := HA.out
     clear HA
     simp only [impl_readNode.j2] at H
     by_cases c55 : x56_47 = true
     ·subst c55
      rw [if_pos rfl] at H
      exact absurd H (by simp)
     replace c55 := Bool.eq_false_iff.mpr c55
     subst c55
     rw [if_neg (show ¬ (false = true) by decide)] at H
     have HC58 := Aside0.mk H
     clear H
     obtain ⟨Ao59, co59, eo59⟩ := Kd.V_slice HO_6.out
     subst eo59
     go_upto_region 15 with (fail)
     go_cut [61] (fun v61 wc => ∃ (kq : Nat) (x61_57 : Bool), v61 = .bool x61_57 ∧ Aside0 (impl_readNode.j3 kq t453 (t453.length : Int) x61_57 (wrap64 (t441 + 1)) 0 0 0 x443004_10 0 = some (r1, r2, r3, r4, r5, r6, r7, r8)) ∧ Aside0 (kq ≤ kj47) ∧ Aside0 (Kd.V (Kd.int .i64) 2 wc w.heap.size (fun k_ => (w.heap.size ≤ k_) ∧ k_ ≠ gb433 ∧ k_ ≠ gb442) (.slice Ao59 t453.length co59) t453) ∧ Aside0 (wc.heap[gb433]? = some (.cells #[.int .i64 x434000_10, .int .i64 x434001_10, .int .i64 x434002_10, .int .i64 x434003_10, .int .i64 x434004_10, .int .i64 x434005_10, (.slice none 0 0)] 36 (0, 0))) ∧ Aside0 (wc.heap[gb442]? = some (.cells #[.int .i64 (wrap64 (t441 + 1)), .int .i64 0, .int .i64 0, .int .i64 0, .int .i64 x443004_10, .int .i64 0, (.slice none 0 0)] 36 (0, 0))) ∧ Aside0 (Below w.heap.size w wc))
     case first =>
      have H := HC58.out
      clear HC58
      by_cases c60 : (wrap64 (t441 + 1)) = 1
      ·rw [if_pos c60] at H
       have c60b0 : ((wrap64 (t441 + 1)) == 1) = true := beq_iff_eq.mpr c60
       have c60b1 : ((wrap64 (t441 + 1)) != 1) = false := bne_eq_false_iff_eq.mpr c60
       clear c60
       (first | rw [c60b0] | (simp only [i64_w, i32_w]; rw [c60b0]) | skip)
       have H' := Aside0.mk H
       clear H
       have hnb61 := NB442_433.out
       have hnc61 := NB433_442.out
       obtain ⟨_, _, _, _, _, _, _, _, _, _, _, _, _, _⟩ := cells7 BK442.out
       go_wp2
       go_meet
       case rel => exact ⟨_, (((t453.length : Int) == 1)), cs_, H', ⟨by have := HJ10.out; have := HJ47.out; first | omega | exact Nat.le_refl _⟩, ⟨cV_ HO_6.out⟩, ⟨cO_ BK433.out⟩, ⟨cO_ BK442.out⟩, ⟨cB2_ GE433.out GE442.out⟩⟩
      rw [if_neg c60] at H
      have c60b0 : ((wrap64 (t441 + 1)) == 1) = false := beq_eq_false_iff_ne.mpr c60
      have c60b1 : ((wrap64 (t441 + 1)) != 1) = true := bne_iff_ne.mpr c60
      (first | rw [c60b0] | (simp only [i64_w, i32_w]; rw [c60b0]) | skip)
      have H' := Aside0.mk H
      clear H
      have hnb63 := NB442_433.out
      have hnc63 := NB433_442.out
      obtain ⟨_, _, _, _, _, _, _, _, _, _, _, _, _, _⟩ := cells7 BK442.out
      go_wp2
      go_meet
      case rel => exact ⟨_, (false), cs_, H', ⟨by have := HJ10.out; have := HJ47.out; first | omega | exact Nat.le_refl _⟩, ⟨cV_ HO_6.out⟩, ⟨cO_ BK433.out⟩, ⟨cO_ BK442.out⟩, ⟨cB2_ GE433.out GE442.out⟩⟩
     case rest =>
      exact impl_readNode.rest61 k _ _ _ _ _ _ _ _ w wc HTB_ t441 t453 gb433 gb442 co59 kj10 kj47 Ao59 GE433 GE442 NB433_442 NB442_433 x434000_10 x434001_10 x434002_10 x434003_10 x434004_10 x434005_10 x443004_10 HJ10 HJ47 _ _ _ _ _ _ _ _ _ _ _ _ _ _ _ _ _ _ _ _ _ _ _ _ _ _ _ _ _ _ _ _ _ _ _ _ _ _ _ _ _ _ _ _ _ _ _ _ _ _ _ _ _ _ _ _ _ _ _ _ _ _ _ _ _ _ _ _ _ _ _ _ _ _ _ _ _ _ _ _ _ _ _ _ _ _ _ _ _ _ _ _ _ _ _ _ _ _ _ _ _ _ _ _ _ _ _ _ _ _ _ _ _ _ _ _ _ _ _ _ _ _ _ _ _ _ _ _ _ _ _ _ _ _ _ _ _ _ _ _ _ _ _ _ _ _ _ _ _ _ _ _ _ _ _ _ _ _ _ _ _ _ _ _ _ _ _ _ _ _ _ _ _ _ _ (by assumption) (by assumption) hcut
end Go.Proofs.YteibdjkfkcckkaaGreatDoor.PFnPlans
