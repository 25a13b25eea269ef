-- Written by fprint, a program of this session, out of Lean's own print of the translation. Lean checks it.
import Derived.Test.YthgmicingbjemaaDoorDense
import Derived.Test.YthgmicingbjemaaDoorPFnSumsx0
import Derived.Test.YthgmicingbjemaaDoorPFnSumsx8
import Derived.Test.YthgmicingbjemaaDoorPFnSumsx9
namespace Go.Proofs.YthgmicingbjemaaDoor.PFnSums
open Go.RowKit Go.Proofs.YthgmicingbjemaaDoorW.PrintWords Go.Proofs.YthgmicingbjemaaDoorW.PrintLast Go.Proofs.YthgmicingbjemaaDoorW.PrintMore
attribute [local go_sem] max2_int min2_int max_two min_two max_three min_three max_four min_four   -- for this text's walks alone
set_option linter.unusedVariables false
set_option linter.unusedSimpArgs false

theorem b10_0 {p : Prop} (h : p := by exact cB1_ GE329.out) : p := h
/-! ### strings_Join: function 29 -/
def strings_Join.f (l0 : List ByteArray) (a1 : ByteArray) : Option ByteArray := if l0.length ≤ 140737488355328 ∧ (Lib.join (l0.map (·.data.toList)) a1.data.toList).length ≤ 140737488355328 then some ⟨(Lib.join (l0.map (·.data.toList)) a1.data.toList).toArray⟩ else none
theorem strings_Join.calls (A0 : Option Addr) (c0 : Nat) (l0 : List ByteArray) (a1 : ByteArray) (r : ByteArray) (w : World) (hA0 : ∀ ad, A0 = some ad → ∃ g, ad = ⟨g, 0, none⟩) (hr0 : Kd.C Kd.string w A0 l0.length l0) (hc0 : l0.length ≤ c0) (h : strings_Join.f l0 a1 = some r) :
  Calls Tryd.prog 29 #[.slice A0 l0.length c0, .string a1] w fun e w' => e = .returned (.string r) ∧ Below w.heap.size w w' := by
 unfold strings_Join.f at h
 by_cases c : l0.length ≤ 140737488355328 ∧ (Lib.join (l0.map (·.data.toList)) a1.data.toList).length ≤ 140737488355328
 ·rw [if_pos c] at h
  obtain rfl := Option.some.inj h
  exact Tab.join_rows hA0 hr0 hc0 c.1 c.2
 rw [if_neg c] at h
 exact absurd h (by simp)

/-! ### impl_SetText: function 12 -/
mutual
def impl_SetText.l0 : Nat → ByteArray → List (S31) → Int → Int → Option (ByteArray)
 | 0, _, _, _, _ => none
 | k + 1, x3, x12, x13, x14 => if x14 < x13 then (if 0 ≤ x14 then (if x14 < (x12.length : Int) then (impl_SetText.l1 k x3 (([] : List ByteArray)) x12 x13 x14 ((rd_T31 x12 x14).f0) (((rd_T31 x12 x14).f0).length : Int) 0 ((rd_T31 x12 x14).f0) ((rd_T31 x12 x14).f1)) else (none)) else (none)) else (some x3)
def impl_SetText.l1 : Nat → ByteArray → List ByteArray → List (S31) → Int → Int → List Int → Int → Int → List Int → Int → Option (ByteArray)
 | 0, _, _, _, _, _, _, _, _, _, _ => none
 | k + 1, x3, x6, x12, x13, x14, x20, x21, x22, x330000, x330001 => if x22 < x21 then (if 0 ≤ x22 then (if x22 < (x20.length : Int) then ((impl_decimal.f (rd x20 x22)).bind fun t334 => (if x6.length < 8796093022208 then (impl_SetText.l1 k x3 (x6 ++ [t334]) x12 x13 x14 x20 x21 (wrap64 (x22 + 1)) x330000 x330001) else (none))) else (none)) else (none)) else ((impl_decimal.f x330001).bind fun t338 => ((some (([(⟨#[58]⟩ : ByteArray), t338] : List ByteArray) : List ByteArray)).bind fun y339 => (if x6.length + y339.length < 8796093022208 then ((strings_Join.f (x6 ++ y339) (⟨#[32]⟩ : ByteArray)).bind fun t345 => (if t345.size + 1 ≤ 9223372036854775807 then (if x3.size + (t345 ++ (⟨#[10]⟩ : ByteArray)).size ≤ 9223372036854775807 then (impl_SetText.l0 k (x3 ++ (t345 ++ (⟨#[10]⟩ : ByteArray))) x12 x13 (wrap64 (x14 + 1))) else (none)) else (none))) else (none))))
end
def impl_SetText.f (k : Nat) (l0 : List (S31)) : Option (ByteArray) := (impl_SetFault.f k l0).bind fun t327 => (if t327 = 0 then (impl_SetText.l0 k (⟨#[]⟩ : ByteArray) l0 (l0.length : Int) 0) else (some (⟨#[]⟩ : ByteArray)))
theorem impl_SetText.mono_l : ∀ k, (∀ y0 y1 y2 y3, LeO (impl_SetText.l0 k y0 y1 y2 y3) (impl_SetText.l0 (k + 1) y0 y1 y2 y3)) ∧ (∀ y0 y1 y2 y3 y4 y5 y6 y7 y8 y9, LeO (impl_SetText.l1 k y0 y1 y2 y3 y4 y5 y6 y7 y8 y9) (impl_SetText.l1 (k + 1) y0 y1 y2 y3 y4 y5 y6 y7 y8 y9))
 | 0 => ⟨fun _ _ _ _ r h => by simp [impl_SetText.l0] at h, fun _ _ _ _ _ _ _ _ _ _ r h => by simp [impl_SetText.l1] at h⟩
 | k + 1 => by
  obtain ⟨ih0, ih1⟩ := impl_SetText.mono_l k
  refine ⟨?_, ?_⟩
  ·intro y0 y1 y2 y3
   unfold impl_SetText.l0
   repeat' first
   | (with_reducible exact ih0 _ _ _ _)
   | (with_reducible exact ih1 _ _ _ _ _ _ _ _ _ _)
   | (with_reducible exact impl_SetFault.mono _ _)
   | (with_reducible exact LeO.refl _)
   | (with_reducible exact LeO.none _)
   | (with_reducible refine LeO.ite ?_ ?_)
   | (with_reducible refine LeO.bind ?_ (fun _ => ?_))
   | exact ih0 _ _ _ _
   | exact ih1 _ _ _ _ _ _ _ _ _ _
   | exact impl_SetFault.mono _ _
   | exact LeO.none _
   | refine LeO.ite ?_ ?_
   | refine LeO.bind ?_ (fun _ => ?_)
  ·intro y0 y1 y2 y3 y4 y5 y6 y7 y8 y9
   unfold impl_SetText.l1
   repeat' first
   | (with_reducible exact ih0 _ _ _ _)
   | (with_reducible exact ih1 _ _ _ _ _ _ _ _ _ _)
   | (with_reducible exact impl_SetFault.mono _ _)
   | (with_reducible exact LeO.refl _)
   | (with_reducible exact LeO.none _)
   | (with_reducible refine LeO.ite ?_ ?_)
   | (with_reducible refine LeO.bind ?_ (fun _ => ?_))
   | exact ih0 _ _ _ _
   | exact ih1 _ _ _ _ _ _ _ _ _ _
   | exact impl_SetFault.mono _ _
   | exact LeO.none _
   | refine LeO.ite ?_ ?_
   | refine LeO.bind ?_ (fun _ => ?_)
theorem impl_SetText.mono : ∀ a0 k, LeO (impl_SetText.f k a0) (impl_SetText.f (k + 1) a0) := by
 intro a0 k
 obtain ⟨ih0, ih1⟩ := impl_SetText.mono_l k
 unfold impl_SetText.f
 repeat' first
   | (with_reducible exact ih0 _ _ _ _)
   | (with_reducible exact ih1 _ _ _ _ _ _ _ _ _ _)
   | (with_reducible exact impl_SetFault.mono _ _)
   | (with_reducible exact LeO.refl _)
   | (with_reducible exact LeO.none _)
   | (with_reducible refine LeO.ite ?_ ?_)
   | (with_reducible refine LeO.bind ?_ (fun _ => ?_))
   | exact ih0 _ _ _ _
   | exact ih1 _ _ _ _ _ _ _ _ _ _
   | exact impl_SetFault.mono _ _
   | exact LeO.none _
   | refine LeO.ite ?_ ?_
   | refine LeO.bind ?_ (fun _ => ?_)
set_option maxHeartbeats 8000000 in
set_option maxRecDepth 100000 in
theorem impl_SetText.calls (k : Nat) (A0 : Option Addr) (c0 : Nat) (l0 : List (S31)) (r : ByteArray) (w : World) (hr0 : Kd.C k31 w A0 l0.length l0) (hc0 : l0.length ≤ c0) (htab_ : Tab.Tab w) (h : impl_SetText.f k l0 = some r) :
  Calls Tryd.prog 12 #[.slice A0 l0.length c0] w fun e w' => e = .returned (.string r) ∧ Below w.heap.size w w' := by
 have HTB_ := Aside0.mk htab_
 clear htab_
 have hu31 := Tryd.underlying31
 have HR0 := Aside0.mk hr0
 have HC0 := Aside0.mk hc0
 clear hr0 hc0
 have HB := Aside0.mk (Below.refl w.heap.size w)
 have H : ((impl_SetFault.f k l0).bind fun t327 => (if t327 = 0 then (impl_SetText.l0 k (⟨#[]⟩ : ByteArray) l0 (l0.length : Int) 0) else (some (⟨#[]⟩ : ByteArray)))) = some r := h
 clear h
 obtain ⟨t327, A2, H⟩ := bnd_ H
 try dsimp only at H
 by_cases c3 : t327 = 0
 rotate_left
 ·rw [if_neg c3] at H
  have c3b0 : (t327 == 0) = false := beq_eq_false_iff_ne.mpr c3
  have c3b1 : (t327 != 0) = true := bne_iff_ne.mpr c3
  obtain rfl := Option.some.inj H
  go_enter Tryd.func12, Tryd.ntmps12
  go_wp2_with (first | (refine gl_ 9 (some 10) Tryd.func9 #[.slice A0 l0.length c0] ?_; (with_reducible refine (impl_SetFault.calls k _ _ l0 t327 _ ?side1 ?side2 A2.out).mono ?_); (case side1 => exact cC_ HR0.out); (case side2 => exact HC0.out); rintro e w33 ⟨rfl, hb⟩; refine ⟨_, rfl, ?_⟩; replace HB := Aside0.mk (below_step cB0_ hb); (try clear hb); (try clear hb2); (try clear hk); (try clear hi)))
  go_ret
  exact ⟨ce_, cB0_⟩
 rw [if_pos c3] at H
 have c3b0 : (t327 == 0) = true := beq_iff_eq.mpr c3
 have c3b1 : (t327 != 0) = false := bne_eq_false_iff_eq.mpr c3
 clear c3
 have H' := Aside0.mk H
 clear H
 go_enter Tryd.func12, Tryd.ntmps12
 go_wp2_with (first | (refine gl_ 9 (some 10) Tryd.func9 #[.slice A0 l0.length c0] ?_; (with_reducible refine (impl_SetFault.calls k _ _ l0 t327 _ ?side1 ?side2 A2.out).mono ?_); (case side1 => exact cC_ HR0.out); (case side2 => exact HC0.out); rintro e w4 ⟨rfl, hb⟩; refine ⟨_, rfl, ?_⟩; replace HB := Aside0.mk (below_step cB0_ hb); (try clear hb); (try clear hb2); (try clear hk); (try clear hi)))
 go_loopg [3, 14] k (fun kq v3 v14 w' => ∃ (x3_1 : ByteArray) (x14_1 : Int), v3 = .string x3_1 ∧ v14 = .int .i64 x14_1 ∧ Aside0 (impl_SetText.l0 kq x3_1 l0 (l0.length : Int) x14_1 = some r) ∧ Aside0 (kq ≤ k) ∧ Aside0 (Below w.heap.size w w'))
 case atStart => exact ⟨((⟨#[]⟩ : ByteArray)), (0), cs_, cs_, H', ⟨Nat.le_refl _⟩, ⟨cB0_⟩⟩
 case round =>
  clear H'
  try clear c1
  try clear p2
  try clear c3
  try clear c3b0
  try clear c3b1
  obtain ⟨x3_1, x14_1, rfl, rfl, HA, HK1, HB⟩ := hrel
  cases gk with
  | zero => exact absurd HA.out (by simp [impl_SetText.l0])
  | succ k1 =>
   have H := HA.out
   clear HA
   simp only [impl_SetText.l0] at H
   by_cases c5 : x14_1 < (l0.length : Int)
   rotate_left
   ·rw [if_neg c5] at H
    have c5b0 : decide (x14_1 < (l0.length : Int)) = false := decide_eq_false c5
    clear c5
    obtain rfl := Option.some.inj H
    go_wp2
    go_ret
    exact ⟨ce_, cB0_⟩
   rw [if_pos c5] at H
   have c5b0 : decide (x14_1 < (l0.length : Int)) = true := decide_eq_true c5
   clear c5
   by_cases c6 : 0 ≤ x14_1
   rotate_left
   ·rw [if_neg c6] at H
    exact absurd H (by simp)
   rw [if_pos c6] at H
   have c6b0 : decide (0 ≤ x14_1) = true := decide_eq_true c6
   clear c6
   by_cases c7 : x14_1 < (l0.length : Int)
   rotate_left
   ·rw [if_neg c7] at H
    exact absurd H (by simp)
   rw [if_pos c7] at H
   have c7b0 : decide (x14_1 < (l0.length : Int)) = true := decide_eq_true c7
   clear c7
   obtain ⟨y330, hy_⟩ : ∃ y_ : List ByteArray, y_ = (([] : List ByteArray)) := ⟨_, rfl⟩
   replace H : (impl_SetText.l1 k1 x3_1 y330 l0 (l0.length : Int) x14_1 ((rd_T31 l0 x14_1).f0) (((rd_T31 l0 x14_1).f0).length : Int) 0 ((rd_T31 l0 x14_1).f0) ((rd_T31 l0 x14_1).f1)) = some r := yb_
   have Ny330 := Aside0.mk hy_
   clear hy_
   have H' := Aside0.mk H
   clear H
   have p328 : 0 ≤ (x14_1 : Int) := of_decide_eq_true ca_
   have q328 : x14_1 < (l0.length : Int) := of_decide_eq_true ca_
   obtain ⟨ad328, A328_0, c328_0, e328, hx328_0, hx328_1, hl328_0, hi328_0⟩ := at_T31 HR0.out x14_1 p328 q328
   cases e328
   replace hx328_0 := (HB.out.cell (World.block_lt_of_cell? w _ hx328_0)).trans hx328_0
   replace hx328_1 := (HB.out.cell (World.block_lt_of_cell? w _ hx328_1)).trans hx328_1
   have HR328_0 := Aside0.mk hi328_0
   have HC328_0 := Aside0.mk hl328_0
   clear hi328_0 hl328_0
   replace p328 := eq_true p328
   replace q328 := eq_true q328
   go_wp2_with (first | (refine bx_ 5 #[.slice none 0 0, .int .i64 0] 31 ?_; intro gb329 hg w8 hbox hb; have BK329 := Aside0.mk (hbox); have GW329 := Aside0.mk ((by rw [hg]; exact (below_size cB0_) : w.heap.size ≤ gb329)); have GE329 := Aside0.mk ((by rw [hg]; exact (below_size cB0_) : w.heap.size ≤ gb329)); replace HB := Aside0.mk (below_step cB0_ hb); clear hb hbox hg; obtain ⟨hcz9_0, hcz9_1, hfz9_0, hfz9_1⟩ := cells2 BK329.out) | ((with_reducible refine gate_dst (N := 18) rfl ?_); refine Kd.R_lit Kd.string _ 9 ?hg (N := 18) ?hd (xs := ([] : List ByteArray)) (inner := []) (ok := fun _ => True) (okp := fun _ => True) ?hr ?hp (fun _ hk => hk) trivial (Below.refl _ _) (Nat.le_refl _) (by simp) ?_; (case hd => rfl); (case hg => rfl); (case hr => first | (go_simp; done) | (go_simp; rfl)); (case hp => exact (Reps.none _ _)); intro v331 w10 ho11 hb hg_ hnew_; clear hg_ hnew_; (first | rw [← Ny330.out] at ho11 | (simp only [Int.reduceToNat] at ho11; rw [← Ny330.out] at ho11)); have HO332 := Aside0.mk (Kd.R_lower ho11 (below_size b10_0)); replace BK329 := Aside0.mk (blk_below (g := gb329) (o := .cells #[.slice A328_0 ((rd_T31 l0 x14_1).f0).length c328_0, .int .i64 ((rd_T31 l0 x14_1).f1)] 31 (0, 0)) (by refine cO_ ?_; refine blk_put (cs := #[.slice A328_0 ((rd_T31 l0 x14_1).f0).length c328_0, .int .i64 0]) ?_ 1 _ rfl; refine cO_ ?_; refine blk_put (cs := #[.slice none 0 0, .int .i64 0]) ?_ 0 _ rfl; refine cO_ ?_; exact BK329.out) hb); replace HB := Aside0.mk (below_step b10_0 hb); clear hb ho11; obtain ⟨hcz12_0, hcz12_1, hfz12_0, hfz12_1⟩ := cells2 BK329.out))
   go_loopg [6, 22] k1 (fun kq v6 v22 w' => ∃ (x6_2 : List ByteArray) (x22_2 : Int), v22 = .int .i64 x22_2 ∧ Aside0 (impl_SetText.l1 kq x3_1 x6_2 l0 (l0.length : Int) x14_1 ((rd_T31 l0 x14_1).f0) (((rd_T31 l0 x14_1).f0).length : Int) x22_2 ((rd_T31 l0 x14_1).f0) ((rd_T31 l0 x14_1).f1) = some r) ∧ Aside0 (kq ≤ k1) ∧ Aside0 (Kd.R Kd.string 9 w' w.heap.size (fun _ => True) v6 x6_2) ∧ Aside0 (w'.heap[gb329]? = some (.cells #[(.slice A328_0 ((rd_T31 l0 x14_1).f0).length c328_0), .int .i64 ((rd_T31 l0 x14_1).f1)] 31 (0, 0))) ∧ Aside0 (Below w.heap.size w w'))
   case atStart => exact ⟨(y330), (0), cs_, H', ⟨Nat.le_refl _⟩, ⟨cR_ HO332.out⟩, ⟨cO_ BK329.out⟩, ⟨cB1_ GE329.out⟩⟩
   case round =>
    clear H'
    try clear c1
    try clear p2
    try clear c3
    try clear c3b0
    try clear c3b1
    try clear p3
    try clear q3
    try clear hx3
    try clear c5
    try clear c5b0
    try clear c6
    try clear c6b0
    try clear c7
    try clear c7b0
    try clear c9
    try clear c12
    try clear hcz12_0
    try clear hcz12_1
    try clear hcz9_0
    try clear hcz9_1
    try clear hfz12_0
    try clear hfz12_1
    try clear hfz9_0
    try clear hfz9_1
    try clear hx328_0
    try clear hx328_1
    try clear p2
    try clear p328
    try clear q328
    obtain ⟨x6_2, x22_2, rfl, HA, HK2, HO_6, BK329, HB⟩ := hrel
    cases gk with
    | zero => exact absurd HA.out (by simp [impl_SetText.l1])
    | succ k2 =>
     have H := HA.out
     clear HA
     simp only [impl_SetText.l1] at H
     by_cases c13 : x22_2 < (((rd_T31 l0 x14_1).f0).length : Int)
     ·rw [if_pos c13] at H
      have c13b0 : decide (x22_2 < (((rd_T31 l0 x14_1).f0).length : Int)) = true := decide_eq_true c13
      clear c13
      by_cases c14 : 0 ≤ x22_2
      rotate_left
      ·rw [if_neg c14] at H
       exact absurd H (by simp)
      rw [if_pos c14] at H
      have c14b0 : decide (0 ≤ x22_2) = true := decide_eq_true c14
      clear c14
      by_cases c15 : x22_2 < (((rd_T31 l0 x14_1).f0).length : Int)
      rotate_left
      ·rw [if_neg c15] at H
       exact absurd H (by simp)
      rw [if_pos c15] at H
      have c15b0 : decide (x22_2 < (((rd_T31 l0 x14_1).f0).length : Int)) = true := decide_eq_true c15
      clear c15
      obtain ⟨t334, A16, H⟩ := bnd_ H
      try dsimp only at H
      by_cases c17 : x6_2.length < 8796093022208
      rotate_left
      ·rw [if_neg c17] at H
       exact absurd H (by simp)
      rw [if_pos c17] at H
      have LMc17 := Aside0.mk c17
      clear c17
      obtain ⟨y335, hy_⟩ : ∃ y_ : List ByteArray, y_ = (x6_2 ++ [t334]) := ⟨_, rfl⟩
      replace H : (impl_SetText.l1 k2 x3_1 y335 l0 (l0.length : Int) x14_1 ((rd_T31 l0 x14_1).f0) (((rd_T31 l0 x14_1).f0).length : Int) (wrap64 (x22_2 + 1)) ((rd_T31 l0 x14_1).f0) ((rd_T31 l0 x14_1).f1)) = some r := yb_
      have Ny335 := Aside0.mk hy_
      clear hy_
      have H' := Aside0.mk H
      clear H
      have p333 : 0 ≤ (x22_2 : Int) := of_decide_eq_true ca_
      have q333 : x22_2 < (((rd_T31 l0 x14_1).f0).length : Int) := of_decide_eq_true ca_
      obtain ⟨ad333, e333, hx333_0⟩ := Kd.at_int HR328_0.out x22_2 p333 q333
      cases e333
      replace hx333_0 := (HB.out.cell (World.block_lt_of_cell? w _ hx333_0)).trans hx333_0
      replace p333 := eq_true p333
      replace q333 := eq_true q333
      go_wp2_with (first | (refine gl_ 28 (some 28) Tryd.func28 #[.int .i64 (rd ((rd_T31 l0 x14_1).f0) x22_2)] ?_; (with_reducible refine (impl_decimal.calls (rd ((rd_T31 l0 x14_1).f0) x22_2) t334 _ (Tab.tabB HTB_.out b10_0) A16.out).mono ?_); rintro e w18 ⟨rfl, hb⟩; refine ⟨_, rfl, ?_⟩; replace HO_6 := Aside0.mk (Kd.R_below (cR_ HO_6.out) hb); replace BK329 := Aside0.mk (blk_below (g := gb329) (o := .cells #[.slice (some ad333) ((rd_T31 l0 x14_1).f0).length c328_0, .int .i64 ((rd_T31 l0 x14_1).f1)] 31 (0, 0)) (cO_ BK329.out) hb); replace HB := Aside0.mk (below_step b10_0 hb); (try clear hb); (try clear hb2); (try clear hk); (try clear hi)) | ((with_reducible refine gate_builtin (b := .append) (xs := #[.tmp 26, .tmp 29]) rfl ?_); at_builtin; refine Kd.R_append Kd.string (w0 := w) w.heap.size rfl (.tmp 26) (.tmp 29) 53 9 (.string ⟨#[]⟩) 16 rfl Tryd.underlying53 info9 rfl (by decide) (by omega) u6 x6_2 t334 [.string t334] (fun _ => True) (fun _ => False) rfl rfl ?aP (fun _ hk => hk.elim) ?aF ?aO ?aB ?aS ?aL ?_; (case aP => exact rfl); (case aB => exact b10_0); (case aF => exact (fun _ _ => trivial)); (case aO => exact (by exact cR_ HO_6.out)); (case aS => exact (by exact (below_size b10_0))); (case aL => exact co_ LMc17.out); intro v336 w19 ho hb hg hat; rw [← Ny335.out] at ho; replace BK329 := Aside0.mk (blk_grown (g := gb329) (o := .cells #[.slice (some ad333) ((rd_T31 l0 x14_1).f0).length c328_0, .int .i64 ((rd_T31 l0 x14_1).f1)] 31 (0, 0)) (cO_ BK329.out) hg (Kd.R_ne HO_6.out BK329.out (by decide))); replace HB := Aside0.mk (hb); have HO337 := Aside0.mk (ho); clear HO_6; clear ho hb hg hat))
      go_roundg k2
      case measure => have := HK1.out; have := HK2.out; omega
      case rel => exact ⟨(y335), (wrap64 (x22_2 + 1)), cs_, H', ⟨by have := HK1.out; have := HK2.out; omega⟩, ⟨cR_ HO337.out⟩, ⟨cO_ BK329.out⟩, ⟨cB1_ GE329.out⟩⟩
     rw [if_neg c13] at H
     have c13b0 : decide (x22_2 < (((rd_T31 l0 x14_1).f0).length : Int)) = false := decide_eq_false c13
     clear c13
     obtain ⟨t338, A20, H⟩ := bnd_ H
     try dsimp only at H
     obtain ⟨y339, hy_⟩ : ∃ y_ : List ByteArray, y_ = (([(⟨#[58]⟩ : ByteArray), t338] : List ByteArray)) := ⟨_, rfl⟩
     replace H : (if x6_2.length + y339.length < 8796093022208 then ((strings_Join.f (x6_2 ++ y339) (⟨#[32]⟩ : ByteArray)).bind fun t345 => (if t345.size + 1 ≤ 9223372036854775807 then (if x3_1.size + (t345 ++ (⟨#[10]⟩ : ByteArray)).size ≤ 9223372036854775807 then (impl_SetText.l0 k2 (x3_1 ++ (t345 ++ (⟨#[10]⟩ : ByteArray))) l0 (l0.length : Int) (wrap64 (x14_1 + 1))) else (none)) else (none))) else (none)) = some r := yb_
     have Ny339 := Aside0.mk hy_
     clear hy_
     by_cases c21 : x6_2.length + y339.length < 8796093022208
     rotate_left
     ·rw [if_neg c21] at H
      exact absurd H (by simp)
     rw [if_pos c21] at H
     have LMc21 := Aside0.mk c21
     clear c21
     obtain ⟨y342, hy_⟩ : ∃ y_ : List ByteArray, y_ = (x6_2 ++ y339) := ⟨_, rfl⟩
     replace H : ((strings_Join.f y342 (⟨#[32]⟩ : ByteArray)).bind fun t345 => (if t345.size + 1 ≤ 9223372036854775807 then (if x3_1.size + (t345 ++ (⟨#[10]⟩ : ByteArray)).size ≤ 9223372036854775807 then (impl_SetText.l0 k2 (x3_1 ++ (t345 ++ (⟨#[10]⟩ : ByteArray))) l0 (l0.length : Int) (wrap64 (x14_1 + 1))) else (none)) else (none))) = some r := yb_
     have Ny342 := Aside0.mk hy_
     clear hy_
     obtain ⟨t345, A22, H⟩ := bnd_ H
     try dsimp only at H
     by_cases c23 : t345.size + 1 ≤ 9223372036854775807
     rotate_left
     ·rw [if_neg c23] at H
      exact absurd H (by simp)
     rw [if_pos c23] at H
     have c23b0 := eq_true c23
     have c23b1 : decide (t345.size + 1 ≤ 9223372036854775807) = true := decide_eq_true c23
     try have c23b2 : (9223372036854775807 < t345.size + 1) = False := eq_false (Nat.not_lt.2 c23)
     by_cases c24 : x3_1.size + (t345 ++ (⟨#[10]⟩ : ByteArray)).size ≤ 9223372036854775807
     ·rw [if_pos c24] at H
      have c24b0 := eq_true c24
      have c24b1 : decide (x3_1.size + (t345 ++ (⟨#[10]⟩ : ByteArray)).size ≤ 9223372036854775807) = true := decide_eq_true c24
      try have c24b2 : (9223372036854775807 < x3_1.size + (t345 ++ (⟨#[10]⟩ : ByteArray)).size) = False := eq_false (Nat.not_lt.2 c24)
      try have c24b3 : (9223372036854775807 < x3_1.size + (t345.size + 1)) = False := eq_false (by rw [← (show x3_1.size + (t345 ++ (⟨#[10]⟩ : ByteArray)).size = x3_1.size + (t345.size + 1) from by first | rfl | (simp only [ByteArray.size_append]; done) | (simp only [ByteArray.size_append]; rfl))]; exact Nat.not_lt.2 c24)
      have H' := Aside0.mk H
      clear H
      obtain ⟨hcz25_0, hcz25_1, hfz25_0, hfz25_1⟩ := cells2 BK329.out
      go_wp2_with (first | (refine gl_ 28 (some 36) Tryd.func28 #[.int .i64 ((rd_T31 l0 x14_1).f1)] ?_; (with_reducible refine (impl_decimal.calls ((rd_T31 l0 x14_1).f1) t338 _ (Tab.tabB HTB_.out b10_0) A20.out).mono ?_); rintro e w26 ⟨rfl, hb⟩; refine ⟨_, rfl, ?_⟩; replace HO_6 := Aside0.mk (Kd.R_below (cR_ HO_6.out) hb); replace BK329 := Aside0.mk (blk_below (g := gb329) (o := .cells #[.slice A328_0 ((rd_T31 l0 x14_1).f0).length c328_0, .int .i64 ((rd_T31 l0 x14_1).f1)] 31 (0, 0)) (cO_ BK329.out) hb); replace HB := Aside0.mk (below_step b10_0 hb); (try clear hb); (try clear hb2); (try clear hk); (try clear hi)) | ((with_reducible refine gate_dst (N := 37) rfl ?_); refine Kd.R_lit Kd.string _ 9 ?hg (N := 37) ?hd (xs := ([(⟨#[58]⟩ : ByteArray), t338] : List ByteArray)) (inner := [.string (⟨#[58]⟩ : ByteArray), .string t338]) (ok := fun _ => True) (okp := fun _ => True) ?hr ?hp (fun _ hk => hk) trivial (Below.refl _ _) (Nat.le_refl _) (by simp) ?_; (case hd => rfl); (case hg => rfl); (case hr => first | (go_simp; done) | (go_simp; rfl)); (case hp => exact (Reps.one (show Kd.M Kd.string _ _ _ (⟨#[58]⟩ : ByteArray) [.string (⟨#[58]⟩ : ByteArray)] from rfl) (Reps.one (show Kd.M Kd.string _ _ _ t338 [.string t338] from rfl) (Reps.none _ _)))); intro v340 w27 ho28 hb hg_ hnew_; clear hg_ hnew_; (first | rw [← Ny339.out] at ho28 | (simp only [Int.reduceToNat] at ho28; rw [← Ny339.out] at ho28)); have HO341 := Aside0.mk (Kd.R_lower (Kd.R_new' ho28 (Kd.R_lt (cR_ HO_6.out))) (below_size b10_0)); replace HO_6 := Aside0.mk (Kd.R_elder' (cR_ HO_6.out) (Kd.R_base ho28) hb); replace BK329 := Aside0.mk (blk_below (g := gb329) (o := .cells #[.slice A328_0 ((rd_T31 l0 x14_1).f0).length c328_0, .int .i64 ((rd_T31 l0 x14_1).f1)] 31 (0, 0)) (cO_ BK329.out) hb); replace HB := Aside0.mk (below_step b10_0 hb); clear hb ho28; obtain ⟨Ao30, co30, eo30⟩ := Kd.R_slice HO341.out; subst eo30) | ((with_reducible refine gate_builtin (b := .append) (xs := #[.tmp 33, .tmp 37]) rfl ?_); at_builtin; refine Kd.R_append_rows Kd.string (w0 := w) w.heap.size rfl (.tmp 33) (.tmp 37) 53 9 (.string ⟨#[]⟩) 16 rfl Tryd.underlying53 info9 rfl (by decide) (by omega) u6 x6_2 y339 _ _ _ (fun k_ => some k_ ≠ (.slice Ao30 y339.length co30 : Value).ownBlock) (fun _ => False) rfl rfl ?aO ?aR (fun _ _ h => h) (fun _ h => h.elim) ?aF ?aB ?aS ?aL ?_; (case aR => exact cC_ ((Kd.R_reads' HO341.out).2.2)); (case aB => exact b10_0); (case aF => exact (by exact (fun k_ hk => Kd.fresh' (Kd.R_lt (cR_ HO341.out)) k_ hk))); (case aO => exact (by exact (by refine cR_ ?_; exact Kd.R_mono HO_6.out (fun _ hk => hk.2)))); (case aS => exact (by exact (below_size b10_0))); (case aL => exact co_ LMc21.out); intro v343 w29 ho hb hg hat; rw [← Ny342.out] at ho; replace BK329 := Aside0.mk (blk_grown (g := gb329) (o := .cells #[.slice A328_0 ((rd_T31 l0 x14_1).f0).length c328_0, .int .i64 ((rd_T31 l0 x14_1).f1)] 31 (0, 0)) (cO_ BK329.out) hg (Kd.R_ne HO_6.out BK329.out (by decide))); replace HO341 := Aside0.mk (Kd.R_after (ok := (fun _ => True)) (cR_ HO341.out) hg hat); replace HB := Aside0.mk (hb); have HO344 := Aside0.mk (ho); clear HO_6; clear ho hb hg hat; obtain ⟨Ao31, co31, eo31⟩ := Kd.R_slice HO344.out; subst eo31) | (refine gl_ 29 (some 39) Tryd.func29 #[.slice Ao31 y342.length co31, .string (⟨#[32]⟩ : ByteArray)] ?_; (with_reducible refine (strings_Join.calls _ _ y342 (⟨#[32]⟩ : ByteArray) t345 _ ?side0 ?side1 ?side2 A22.out).mono ?_); (case side0 => intro ad_ e_; subst e_; exact Kd.R_head HO344.out); (case side1 => exact cC_ ((Kd.R_reads' HO344.out).2.2)); (case side2 => exact (Kd.R_reads' HO344.out).2.1); rintro e w32 ⟨rfl, hb⟩; refine ⟨_, rfl, ?_⟩; replace HO341 := Aside0.mk (Kd.R_below (cR_ HO341.out) hb); replace HO344 := Aside0.mk (Kd.R_below (cR_ HO344.out) hb); replace BK329 := Aside0.mk (blk_below (g := gb329) (o := .cells #[.slice A328_0 ((rd_T31 l0 x14_1).f0).length c328_0, .int .i64 ((rd_T31 l0 x14_1).f1)] 31 (0, 0)) (cO_ BK329.out) hb); replace HB := Aside0.mk (below_step b10_0 hb); (try clear hb); (try clear hb2); (try clear hk); (try clear hi)))
      go_roundg k2
      case measure => have := HK1.out; have := HK2.out; omega
      case rel => exact ⟨(x3_1 ++ (t345 ++ (⟨#[10]⟩ : ByteArray))), (wrap64 (x14_1 + 1)), cs_, cs_, H', ⟨by have := HK1.out; have := HK2.out; omega⟩, ⟨cB1_ GE329.out⟩⟩
     rw [if_neg c24] at H
     exact absurd H (by simp)

end Go.Proofs.YthgmicingbjemaaDoor.PFnSums
