-- Written by fprint, a program of this session, out of Lean's own print of the translation. Lean checks it.
import Derived.Test.YthgmicingbjemaaDense
import Derived.Test.YthgmicingbjemaaPFnGroupsx0
import Derived.Test.YthgmicingbjemaaPFnGroupsx4
import Derived.Test.YthgmicingbjemaaPFnGroupsx6
import Derived.Test.YthgmicingbjemaaPFnGroupsx9
namespace Go.Proofs.Ythgmicingbjemaa.PFnGroups
open Go.RowKit Go.Proofs.YthgmicingbjemaaW.PrintWords Go.Proofs.YthgmicingbjemaaW.PrintLast Go.Proofs.YthgmicingbjemaaW.PrintMore
attribute [local go_sem] max2_int min2_int max_two min_two max_three min_three max_four min_four   -- for this text's walks alone
set_option linter.unusedVariables false
set_option linter.unusedSimpArgs false

theorem b10_0 {p : Prop} (h : p := by exact cK_ HK.out) : p := h
theorem b10_2 {p : Prop} (h : p := by exact cI_ HI0.out) : p := h
theorem b10_3 {p : Prop} (h : p := by exact cN_ HO279.out) : p := h
theorem b10_4 {p : Prop} (h : p := by exact cB1_ (IsS106.ge HI310.out)) : p := h
theorem b10_9 {p : Prop} (h : p := by exact cB1_ (IsS106.ge HI0.out)) : p := h
/-! ### spec_l1Bent: function 104 -/
mutual
def spec_l1Bent.j0 : Nat → List Int → Bool → List Int → Int → Option (List Int × Int)
 | 0, _, _, _, _ => none
 | k + 1, x3, x14, x1000, x1001 => if x14 = true then ((spec_l1Pick.f x1000 x1001 (([1000000000, (-1000000000), 1000000001, (-1000000001), 4611686018427387904, (-9223372036854775808)] : List Int))).bind fun bt268 => (if 0 < (x3.length : Int) then (spec_l1Bent.j1 k (x3.set (0 : Int).toNat bt268.1) x1000 bt268.2) else (none))) else (spec_l1Bent.j1 k x3 x1000 x1001)
def spec_l1Bent.j1 : Nat → List Int → List Int → Int → Option (List Int × Int)
 | 0, _, _, _ => none
 | k + 1, x3, x1000, x1001 => (spec_l1Chance.f x1000 x1001 24).bind fun bt271 => (if bt271.1 = true then ((spec_l1Row.f k x1000 bt271.2 5).bind fun bt273 => (some (bt273.1, bt273.2))) else (some (x3, bt271.2)))
end
def spec_l1Bent.f (k : Nat) (s0_0 : List Int) (s0_1 : Int) : Option (List Int × Int) := (spec_l1Next.f s0_0 s0_1 5).bind fun bt257 => ((spec_l1Row.f k s0_0 bt257.2 bt257.1).bind fun bt259 => (if (bt259.1.length : Int) > 0 then ((spec_l1Chance.f s0_0 bt259.2 12).bind fun bt263 => (spec_l1Bent.j0 k bt259.1 bt263.1 s0_0 bt263.2)) else (spec_l1Bent.j0 k bt259.1 false s0_0 bt259.2)))
theorem spec_l1Bent.mono_l : ∀ k, (∀ y0 y1 y2 y3, LeO (spec_l1Bent.j0 k y0 y1 y2 y3) (spec_l1Bent.j0 (k + 1) y0 y1 y2 y3)) ∧ (∀ y0 y1 y2, LeO (spec_l1Bent.j1 k y0 y1 y2) (spec_l1Bent.j1 (k + 1) y0 y1 y2))
 | 0 => ⟨fun _ _ _ _ r h => by simp [spec_l1Bent.j0] at h, fun _ _ _ r h => by simp [spec_l1Bent.j1] at h⟩
 | k + 1 => by
  obtain ⟨ih0, ih1⟩ := spec_l1Bent.mono_l k
  refine ⟨?_, ?_⟩
  ·intro y0 y1 y2 y3
   unfold spec_l1Bent.j0
   repeat' first
   | (with_reducible exact ih0 _ _ _ _)
   | (with_reducible exact ih1 _ _ _)
   | (with_reducible exact spec_l1Row.mono _ _ _ _)
   | (with_reducible exact LeO.refl _)
   | (with_reducible exact LeO.none _)
   | (with_reducible refine LeO.ite ?_ ?_)
   | (with_reducible refine LeO.bind ?_ (fun _ => ?_))
   | exact ih0 _ _ _ _
   | exact ih1 _ _ _
   | exact spec_l1Row.mono _ _ _ _
   | exact LeO.none _
   | refine LeO.ite ?_ ?_
   | refine LeO.bind ?_ (fun _ => ?_)
  ·intro y0 y1 y2
   unfold spec_l1Bent.j1
   repeat' first
   | (with_reducible exact ih0 _ _ _ _)
   | (with_reducible exact ih1 _ _ _)
   | (with_reducible exact spec_l1Row.mono _ _ _ _)
   | (with_reducible exact LeO.refl _)
   | (with_reducible exact LeO.none _)
   | (with_reducible refine LeO.ite ?_ ?_)
   | (with_reducible refine LeO.bind ?_ (fun _ => ?_))
   | exact ih0 _ _ _ _
   | exact ih1 _ _ _
   | exact spec_l1Row.mono _ _ _ _
   | exact LeO.none _
   | refine LeO.ite ?_ ?_
   | refine LeO.bind ?_ (fun _ => ?_)
theorem spec_l1Bent.mono : ∀ a0 a1 k, LeO (spec_l1Bent.f k a0 a1) (spec_l1Bent.f (k + 1) a0 a1) := by
 intro a0 a1 k
 obtain ⟨ih0, ih1⟩ := spec_l1Bent.mono_l k
 unfold spec_l1Bent.f
 repeat' first
   | (with_reducible exact ih0 _ _ _ _)
   | (with_reducible exact ih1 _ _ _)
   | (with_reducible exact spec_l1Row.mono _ _ _ _)
   | (with_reducible exact LeO.refl _)
   | (with_reducible exact LeO.none _)
   | (with_reducible refine LeO.ite ?_ ?_)
   | (with_reducible refine LeO.bind ?_ (fun _ => ?_))
   | exact ih0 _ _ _ _
   | exact ih1 _ _ _
   | exact spec_l1Row.mono _ _ _ _
   | exact LeO.none _
   | refine LeO.ite ?_ ?_
   | refine LeO.bind ?_ (fun _ => ?_)
set_option maxHeartbeats 8000000 in
set_option maxRecDepth 100000 in
theorem spec_l1Bent.calls (k : Nat) (g : Nat) (s0_0 : List Int) (s0_1 : Int) (r1 : List Int) (r2 : Int) (w0 w : World) (hI : IsS106 w0 w g s0_0 s0_1) (hB : Below w0.heap.size w0 w) (h : spec_l1Bent.f k s0_0 s0_1 = some (r1, r2)) :
  Calls Try.prog 104 #[.pointer (some ⟨g, 0, none⟩)] w fun e w' => ∃ v0_ : Value, e = .returned (v0_) ∧ Kd.R (Kd.int .i64) 2 w' w.heap.size (fun _ => True) v0_ r1 ∧ IsS106 w0 w' g s0_0 r2 ∧ Below w0.heap.size w0 w' ∧ KeepBut w w' g none := by
 have HI0 := Aside0.mk hI
 have HK := Aside0.mk (KeepBut.refl w g none)
 have HL := Aside0.mk hB.size
 clear hI
 have HW0 := Aside0.mk hB.size
 have HB := Aside0.mk hB
 clear hB
 have H : ((spec_l1Next.f s0_0 s0_1 5).bind fun bt257 => ((spec_l1Row.f k s0_0 bt257.2 bt257.1).bind fun bt259 => (if (bt259.1.length : Int) > 0 then ((spec_l1Chance.f s0_0 bt259.2 12).bind fun bt263 => (spec_l1Bent.j0 k bt259.1 bt263.1 s0_0 bt263.2)) else (spec_l1Bent.j0 k bt259.1 false s0_0 bt259.2)))) = some (r1, r2) := h
 clear h
 obtain ⟨⟨t257, t258⟩, A2, H⟩ := bnd_ H
 try dsimp only at H
 obtain ⟨⟨t259, t262⟩, A3, H⟩ := bnd_ H
 try dsimp only at H
 have HC4 := Aside0.mk H
 clear H
 go_enter Try.func104, Try.ntmps104
 go_upto_region 2 with (first | (refine gl_ 66 (some 6) Try.func66 #[.pointer (some ⟨g, 0, none⟩), .int .i64 5] ?_; (with_reducible refine (spec_l1Next.calls g s0_0 s0_1 5 t257 t258 w0 _ ?side1 ?side2 A2.out).mono ?_); (case side1 => exact cI_ HI0.out); (case side2 => exact cB1_ (IsS106.ge HI0.out)); rintro e w5 ⟨rfl, hi, hb, hk⟩; refine ⟨_, rfl, ?_⟩; replace HK := Aside0.mk (KeepBut.trans b10_0 hk (.inl rfl)); replace HB := Aside0.mk (hb); replace HI0 := Aside0.mk (hi); (try clear hb); (try clear hb2); (try clear hk); (try clear hi)) | (refine gl_ 120 (some 7) Try.func120 #[.pointer (some ⟨g, 0, none⟩), .int .i64 t257] ?_; (with_reducible refine (spec_l1Row.calls k g s0_0 t258 t257 t259 t262 w0 _ ?side1 ?side2 A3.out).mono ?_); (case side1 => exact cI_ HI0.out); (case side2 => exact cB1_ (IsS106.ge HI0.out)); rintro e w6 ⟨v260, rfl, ho0, hi, hb, hk⟩; refine ⟨_, rfl, ?_⟩; have HO261 := Aside0.mk (Kd.R_lower ho0 (keep_size (w := w) (g := g) (row := none) b10_0)); replace HK := Aside0.mk (KeepBut.trans b10_0 hk (.inl rfl)); replace HB := Aside0.mk (hb); replace HI0 := Aside0.mk (hi); (try clear hb); (try clear hb2); (try clear hk); (try clear hi); (try clear ho0)))
 (try simp only [Act.put, List.setIfInBounds_toArray, List.set_cons_zero, List.set_cons_succ])
 go_cut [14] (fun v14 wc => ∃ (kq : Nat) (x14_3 : Bool) (x1001_3 : Int), v14 = .bool x14_3 ∧ Aside0 (spec_l1Bent.j0 kq t259 x14_3 s0_0 x1001_3 = some (r1, r2)) ∧ Aside0 (kq ≤ k) ∧ Aside0 (Kd.R (Kd.int .i64) 2 wc w.heap.size (fun _ => True) v260 t259) ∧ Aside0 (IsS106 w0 wc g s0_0 x1001_3) ∧ Aside0 (KeepBut w wc g none) ∧ Aside0 (Below w0.heap.size w0 wc))
 case first =>
  have H := HC4.out
  clear HC4
  by_cases c7 : (t259.length : Int) > 0
  ·rw [if_pos c7] at H
   have c7b0 : decide (0 < (t259.length : Int)) = true := decide_eq_true c7
   have c7b1 : decide (0 < t259.length) = true := decide_eq_true (by omega)
   clear c7
   (first | rw [c7b0] | (simp only [i64_w, i32_w]; rw [c7b0]) | skip)
   obtain ⟨⟨t263, t264⟩, A8, H⟩ := bnd_ H
   try dsimp only at H
   have H' := Aside0.mk H
   clear H
   obtain ⟨Ao9, co9, eo9⟩ := Kd.R_slice HO261.out
   subst eo9
   go_wp2_with (first | (go_at_call 67; (with_reducible refine (spec_l1Chance.calls g s0_0 t262 12 t263 t264 w0 _ ?side1 ?side2 A8.out).mono ?_); (case side1 => exact cI_ HI0.out); (case side2 => exact cB1_ (IsS106.ge HI0.out)); rintro e w10 ⟨rfl, hi, hb, hk⟩; replace HO261 := Aside0.mk (Kd.R_mono (Kd.R_keep (IsS106.apart (show IsS106 w0 _ g s0_0 t262 from by repeat (first | (with_reducible first | exact HI0.out | apply IsS106.alloc | apply IsS106.drewN | apply IsS106.drew | apply IsS106.set_1) | exact HI0.out)) (cR_ HO261.out) (by decide)) hk (fun _ h => h.2)) (fun _ h => h.1)); replace HK := Aside0.mk (KeepBut.trans b10_0 hk (.inl rfl)); replace HB := Aside0.mk (hb); replace HI0 := Aside0.mk (hi); (try clear hb); (try clear hb2); (try clear hk); (try clear hi)))
   go_meet
   case rel => exact ⟨_, (t263), (t264), cs_, H', ⟨cm_⟩, ⟨cR_ HO261.out⟩, ⟨cI_ HI0.out⟩, ⟨cK_ HK.out⟩, ⟨cB1_ (IsS106.ge HI0.out)⟩⟩
  ·rw [if_neg c7] at H
   have c7b0 : decide (0 < (t259.length : Int)) = false := decide_eq_false c7
   have c7b1 : decide (0 < t259.length) = false := decide_eq_false (by omega)
   clear c7
   (first | rw [c7b0] | (simp only [i64_w, i32_w]; rw [c7b0]) | skip)
   have H' := Aside0.mk H
   clear H
   obtain ⟨Ao11, co11, eo11⟩ := Kd.R_slice HO261.out
   subst eo11
   go_wp2
   go_meet
   case rel => exact ⟨_, (false), (t262), cs_, H', ⟨cm_⟩, ⟨cR_ HO261.out⟩, ⟨cI_ HI0.out⟩, ⟨cK_ HK.out⟩, ⟨cB1_ (IsS106.ge HI0.out)⟩⟩
 case rest =>
  clear HC4
  try clear c1
  try clear p2
  try clear c6
  try clear c7
  try clear c7b0
  try clear c7b1
  try clear c10
  obtain ⟨kq, x14_3, x1001_3, rfl, HA, HJ3, HO_3, HI0, HK, HB⟩ := hcut
  cases kq with
  | zero => exact absurd HA.out (by simp [spec_l1Bent.j0])
  | succ kj3 =>
   have H := HA.out
   clear HA
   simp only [spec_l1Bent.j0] at H
   have HC12 := Aside0.mk H
   clear H
   go_upto_if 14 with (fail)
   go_cut [] (fun wc => ∃ (kq : Nat) (x3_11 : List Int) (x1001_11 : Int), Aside0 (spec_l1Bent.j1 kq x3_11 s0_0 x1001_11 = some (r1, r2)) ∧ Aside0 (kq ≤ kj3) ∧ Aside0 (Kd.R (Kd.int .i64) 2 wc w.heap.size (fun _ => True) v260 x3_11) ∧ Aside0 (IsS106 w0 wc g s0_0 x1001_11) ∧ Aside0 (KeepBut w wc g none) ∧ Aside0 (Below w0.heap.size w0 wc))
   case first =>
    have H := HC12.out
    clear HC12
    by_cases c13 : x14_3 = true
    ·subst c13
     rw [if_pos rfl] at H
     obtain ⟨y265, hy_⟩ : ∃ y_ : List Int, y_ = (([1000000000, (-1000000000), 1000000001, (-1000000001), 4611686018427387904, (-9223372036854775808)] : List Int)) := ⟨_, rfl⟩
     replace H : ((spec_l1Pick.f s0_0 x1001_3 y265).bind fun bt268 => (if 0 < (t259.length : Int) then (spec_l1Bent.j1 kj3 (t259.set (0 : Int).toNat bt268.1) s0_0 bt268.2) else (none))) = some (r1, r2) := yb_
     have Ny265 := Aside0.mk hy_
     clear hy_
     obtain ⟨⟨t268, t269⟩, A14, H⟩ := bnd_ H
     try dsimp only at H
     by_cases c15 : 0 < (t259.length : Int)
     ·rw [if_pos c15] at H
      have c15b0 : decide (0 < (t259.length : Int)) = true := decide_eq_true c15
      have c15b1 : decide (0 < t259.length) = true := decide_eq_true (by omega)
      clear c15
      (first | rw [c15b0] | (simp only [i64_w, i32_w]; rw [c15b0]) | skip)
      obtain ⟨y270, hy_⟩ : ∃ y_ : List Int, y_ = (t259.set (0 : Int).toNat t268) := ⟨_, rfl⟩
      replace H : (spec_l1Bent.j1 kj3 y270 s0_0 t269) = some (r1, r2) := yb_
      have Ny270 := Aside0.mk hy_
      clear hy_
      have H' := Aside0.mk H
      clear H
      go_wp2_with (first | ((with_reducible refine gate_dst (N := 17) rfl ?_); refine Kd.R_lit (Kd.int .i64) _ 2 ?hg (N := 17) ?hd (xs := ([1000000000, (-1000000000), 1000000001, (-1000000001), 4611686018427387904, (-9223372036854775808)] : List Int)) (inner := [.int .i64 1000000000, .int .i64 (-1000000000), .int .i64 1000000001, .int .i64 (-1000000001), .int .i64 4611686018427387904, .int .i64 (-9223372036854775808)]) (ok := fun _ => True) (okp := fun _ => True) ?hr ?hp (fun _ hk => hk) trivial (Below.refl _ _) (Nat.le_refl _) (by simp) ?_; (case hd => rfl); (case hg => rfl); (case hr => first | (go_simp; done) | (go_simp; rfl)); (case hp => exact (Reps.one (show Kd.M (Kd.int .i64) _ _ _ 1000000000 [.int .i64 1000000000] from rfl) (Reps.one (show Kd.M (Kd.int .i64) _ _ _ (-1000000000) [.int .i64 (-1000000000)] from rfl) (Reps.one (show Kd.M (Kd.int .i64) _ _ _ 1000000001 [.int .i64 1000000001] from rfl) (Reps.one (show Kd.M (Kd.int .i64) _ _ _ (-1000000001) [.int .i64 (-1000000001)] from rfl) (Reps.one (show Kd.M (Kd.int .i64) _ _ _ 4611686018427387904 [.int .i64 4611686018427387904] from rfl) (Reps.one (show Kd.M (Kd.int .i64) _ _ _ (-9223372036854775808) [.int .i64 (-9223372036854775808)] from rfl) (Reps.none _ _)))))))); intro v266 w17 ho18 hb hg_ hnew_; clear hg_ hnew_; (first | rw [← Ny265.out] at ho18 | (simp only [Int.reduceToNat] at ho18; rw [← Ny265.out] at ho18)); have HO267 := Aside0.mk (Kd.R_lower (Kd.R_new' ho18 (Kd.R_lt (cR_ HO_3.out))) (keep_size (w := w) (g := g) (row := none) b10_0)); replace HO_3 := Aside0.mk (Kd.R_elder' (cR_ HO_3.out) (Kd.R_base ho18) hb); replace HK := Aside0.mk (KeepBut.trans b10_0 (KeepBut.of_below hb g none) (.inl rfl)); replace HB := Aside0.mk (below_step b10_9 hb); replace HI0 := Aside0.mk (IsS106.below b10_2 hb); clear hb ho18; obtain ⟨Ao19, co19, eo19⟩ := Kd.R_slice HO267.out; subst eo19) | (refine gl_ 68 (some 18) Try.func68 #[.pointer (some ⟨g, 0, none⟩), .slice Ao19 y265.length co19] ?_; (with_reducible refine (spec_l1Pick.calls g s0_0 x1001_3 _ _ y265 t268 t269 w0 _ ?side1 ?side2 ?side3 ?side4 ?side5 A14.out).mono ?_); (case side1 => exact cI_ HI0.out); (case side2 => exact cB1_ (IsS106.ge HI0.out)); (case side3 => exact cC_ ((Kd.R_reads' HO267.out).2.2)); (case side4 => exact (Kd.R_reads' HO267.out).2.1); (case side5 => exact (by exact far_slice (IsS106.own_ne HI0.out HO267.out (by decide)))); rintro e w20 ⟨rfl, hi, hb, hk⟩; refine ⟨_, rfl, ?_⟩; replace HO_3 := Aside0.mk (Kd.R_mono (Kd.R_keep (IsS106.apart (show IsS106 w0 _ g s0_0 x1001_3 from by repeat (first | (with_reducible first | exact HI0.out | apply IsS106.alloc | apply IsS106.drewN | apply IsS106.drew | apply IsS106.set_1) | exact HI0.out)) (cR_ HO_3.out) (by decide)) hk (fun _ h => h.2)) (fun _ h => h.1)); replace HO267 := Aside0.mk (Kd.R_mono (Kd.R_keep (IsS106.apart (show IsS106 w0 _ g s0_0 x1001_3 from by repeat (first | (with_reducible first | exact HI0.out | apply IsS106.alloc | apply IsS106.drewN | apply IsS106.drew | apply IsS106.set_1) | exact HI0.out)) (cR_ HO267.out) (by decide)) hk (fun _ h => h.2)) (fun _ h => h.1)); replace HK := Aside0.mk (KeepBut.trans b10_0 hk (.inl rfl)); replace HB := Aside0.mk (hb); replace HI0 := Aside0.mk (hi); (try clear hb); (try clear hb2); (try clear hk); (try clear hi); have p16 : 0 ≤ (0 : Int) := (by omega); have q16 : (0 : Int) < ((t259.length : Int) : Int) := of_decide_eq_true ca_; have qi16 : (0 < t259.length) = True := eq_true (by omega); obtain ⟨go16, co16, eo16, gb16, gl16, cl16, HG16⟩ := Kd.R_form HO_3.out (by omega); (first | cases eo16 | (injection eo16 with ea_ en_ ec_; (first | subst ea_ | (injection ea_ with ea_; subst ea_)); subst ec_; clear en_)); have GB16 := Aside0.mk gb16; have GG16 := Aside0.mk HG16; clear gb16 gl16 HG16; obtain ⟨hx16_0, hf16_0⟩ := Kd.R_celln 0 HO_3.out (0 : Int) p16 q16; (try rw [show ((0 : Int)).toNat = 0 from rfl] at hx16_0); (try simp only [Nat.reduceMul, Nat.zero_mul, Nat.zero_add, Nat.reduceAdd] at hx16_0); (try rw [show ((0 : Int)).toNat = 0 from rfl] at hf16_0); (try simp only [Nat.reduceMul, Nat.zero_mul, Nat.zero_add, Nat.reduceAdd] at hf16_0); replace p16 := eq_true p16; replace q16 := eq_true q16; have n_ := Aside0.mk (Kd.R_mono (ok' := (fun k_ => some k_ ≠ (.slice Ao19 y265.length co19 : Value).ownBlock)) HO_3.out (fun k_ hk => hk.2)); clear HO_3; have HO_3 := n_; clear n_; obtain ⟨hy21_, hz21_⟩ := Kd.R_celln 0 HO_3.out (0 : Int) (by omega) (of_decide_eq_true ca_); (try simp only [Int.reduceToNat, Int.toNat_zero, Int.toNat_ofNat, Nat.reduceMul, Nat.zero_mul, Nat.zero_add] at hy21_ hz21_); (try rw [show ((0 : Int)).toNat = 0 from rfl] at hy21_); (try rw [show ((0 : Int)).toNat = 0 from rfl] at hz21_); have HP21 := Kd.R_putg HO_3.out (0 : Int) t268) | ((with_reducible refine gate_store (t := 2) (p := 19) rfl ?_); refine store_event (t := 2) (p := 19) (v := ?vo_w22) (w1 := (w20.setCell ⟨go16, (0 : Int).toNat, none⟩ (.int .i64 t268))) ?hg ?ho ?hn ?hr ?_; (case ho => rfl); (case hg => rfl); (case hn => rfl); (case hr => first | (go_simp; done) | (go_simp; rfl)); intro w22 hw; have hg : w20.grownBy w22 (some go16) := (by rw [hw]; exact HP21.2); have hp_ : Kd.R (Kd.int .i64) 2 w22 w.heap.size (fun k_ => some k_ ≠ (.slice Ao19 y265.length co19 : Value).ownBlock) (.slice (some ⟨go16, 0, none⟩) t259.length co16) y270 := (by rw [hw, Ny270.out]; exact HP21.1); clear HP21; replace HI0 := Aside0.mk (IsS106.grown b10_2 hg (IsS106.own_ne HI0.out HO_3.out (by decide))); replace HO267 := Aside0.mk (Kd.R_after (v := (.slice (some ⟨go16, 0, none⟩) t259.length co16)) (v1 := (.slice (some ⟨go16, 0, none⟩) t259.length co16)) (ok := (fun _ => True)) (cR_ HO267.out) hg (.inl rfl)); replace HB := Aside0.mk ((by rw [hw]; exact below_set (HB.out) (Nat.le_trans HL.out GB16.out) : Below w0.heap.size w0 w22)); replace HK := Aside0.mk (KeepBut.trans b10_0 (KeepBut.of_grown hg g) (Kd.R_base2 HO_3.out)); replace HO_3 := Aside0.mk (hp_); clear hg hw hp_))
      go_meet
      case rel => exact ⟨_, (y270), (t269), H', ⟨by have := HJ3.out; first | omega | exact Nat.le_refl _⟩, ⟨by refine cR_ ?_; exact Kd.R_mono HO_3.out (fun _ hk => trivial)⟩, ⟨cI_ HI0.out⟩, ⟨cK_ HK.out⟩, ⟨cB1_ (IsS106.ge HI0.out)⟩⟩
     ·rw [if_neg c15] at H
      exact absurd H (by simp)
    ·replace c13 := Bool.eq_false_iff.mpr c13
     subst c13
     rw [if_neg (show ¬ (false = true) by decide)] at H
     have H' := Aside0.mk H
     clear H
     go_wp2
     go_meet
     case rel => exact ⟨_, (t259), (x1001_3), H', ⟨by have := HJ3.out; first | omega | exact Nat.le_refl _⟩, ⟨cR_ HO_3.out⟩, ⟨cI_ HI0.out⟩, ⟨cK_ HK.out⟩, ⟨cB1_ (IsS106.ge HI0.out)⟩⟩
   case rest =>
    clear HC12
    try clear c1
    try clear p1
    try clear q1
    try clear hx1
    try clear qi1
    try clear hf1
    try clear p2
    try clear c6
    try clear c7
    try clear c7b0
    try clear c7b1
    try clear c10
    try clear c12
    try clear c13
    try clear c15
    try clear c15b0
    try clear c15b1
    try clear p16
    try clear q16
    try clear hx16
    try clear qi16
    try clear hf16
    try clear hx16_0
    try clear p16
    try clear p2
    try clear q16
    obtain ⟨kq, x3_11, x1001_11, HA, HJ11, HO_3, HI0, HK, HB⟩ := hcut
    cases kq with
    | zero => exact absurd HA.out (by simp [spec_l1Bent.j1])
    | succ kj11 =>
     have H := HA.out
     clear HA
     simp only [spec_l1Bent.j1] at H
     obtain ⟨⟨t271, t272⟩, A23, H⟩ := bnd_ H
     try dsimp only at H
     by_cases c24 : t271 = true
     ·subst c24
      rw [if_pos rfl] at H
      obtain ⟨⟨t273, t276⟩, A25, H⟩ := bnd_ H
      try dsimp only at H
      simp only [Option.some.injEq, Prod.mk.injEq] at H
      obtain ⟨rfl, rfl⟩ := H
      go_wp2_with (first | (refine gl_ 67 (some 21) Try.func67 #[.pointer (some ⟨g, 0, none⟩), .int .i64 24] ?_; (with_reducible refine (spec_l1Chance.calls g s0_0 x1001_11 24 true t272 w0 _ ?side1 ?side2 A23.out).mono ?_); (case side1 => exact cI_ HI0.out); (case side2 => exact cB1_ (IsS106.ge HI0.out)); rintro e w26 ⟨rfl, hi, hb, hk⟩; refine ⟨_, rfl, ?_⟩; replace HO_3 := Aside0.mk (Kd.R_mono (Kd.R_keep (IsS106.apart (show IsS106 w0 _ g s0_0 x1001_11 from by repeat (first | (with_reducible first | exact HI0.out | apply IsS106.alloc | apply IsS106.drewN | apply IsS106.drew | apply IsS106.set_1) | exact HI0.out)) (cR_ HO_3.out) (by decide)) hk (fun _ h => h.2)) (fun _ h => h.1)); replace HK := Aside0.mk (KeepBut.trans b10_0 hk (.inl rfl)); replace HB := Aside0.mk (hb); replace HI0 := Aside0.mk (hi); (try clear hb); (try clear hb2); (try clear hk); (try clear hi)) | (refine gl_ 120 (some 23) Try.func120 #[.pointer (some ⟨g, 0, none⟩), .int .i64 5] ?_; (with_reducible refine (spec_l1Row.calls kj11 g s0_0 t272 5 t273 t276 w0 _ ?side1 ?side2 A25.out).mono ?_); (case side1 => exact cI_ HI0.out); (case side2 => exact cB1_ (IsS106.ge HI0.out)); rintro e w27 ⟨v274, rfl, ho0, hi, hb, hk⟩; refine ⟨_, rfl, ?_⟩; have HO275 := Aside0.mk (Kd.R_lower (Kd.R_new' ho0 (Kd.R_lt (cR_ HO_3.out))) (keep_size (w := w) (g := g) (row := none) b10_0)); replace HO_3 := Aside0.mk (Kd.R_mono (Kd.R_told (Kd.R_oldK (IsS106.apart (show IsS106 w0 _ g s0_0 t272 from by repeat (first | (with_reducible first | exact HI0.out | apply IsS106.alloc | apply IsS106.drewN | apply IsS106.drew | apply IsS106.set_1) | exact HI0.out)) (cR_ HO_3.out) (by decide)) hk) (Kd.R_base ho0)) (fun _ h_ => h_.1)); replace HK := Aside0.mk (KeepBut.trans b10_0 hk (.inl rfl)); replace HB := Aside0.mk (hb); replace HI0 := Aside0.mk (hi); (try clear hb); (try clear hb2); (try clear hk); (try clear hi); (try clear ho0)))
      go_ret
      exact ⟨_, ce_, by refine cR_ ?_; exact Kd.R_mono HO275.out (fun _ hk => trivial), cI_ HI0.out, cB1_ (IsS106.ge HI0.out), cK_ HK.out⟩
     ·replace c24 := Bool.eq_false_iff.mpr c24
      subst c24
      rw [if_neg (show ¬ (false = true) by decide)] at H
      simp only [Option.some.injEq, Prod.mk.injEq] at H
      obtain ⟨rfl, rfl⟩ := H
      go_wp2_with (first | (refine gl_ 67 (some 21) Try.func67 #[.pointer (some ⟨g, 0, none⟩), .int .i64 24] ?_; (with_reducible refine (spec_l1Chance.calls g s0_0 x1001_11 24 false t272 w0 _ ?side1 ?side2 A23.out).mono ?_); (case side1 => exact cI_ HI0.out); (case side2 => exact cB1_ (IsS106.ge HI0.out)); rintro e w28 ⟨rfl, hi, hb, hk⟩; refine ⟨_, rfl, ?_⟩; replace HO_3 := Aside0.mk (Kd.R_mono (Kd.R_keep (IsS106.apart (show IsS106 w0 _ g s0_0 x1001_11 from by repeat (first | (with_reducible first | exact HI0.out | apply IsS106.alloc | apply IsS106.drewN | apply IsS106.drew | apply IsS106.set_1) | exact HI0.out)) (cR_ HO_3.out) (by decide)) hk (fun _ h => h.2)) (fun _ h => h.1)); replace HK := Aside0.mk (KeepBut.trans b10_0 hk (.inl rfl)); replace HB := Aside0.mk (hb); replace HI0 := Aside0.mk (hi); (try clear hb); (try clear hb2); (try clear hk); (try clear hi)))
      go_ret
      exact ⟨_, ce_, cR_ HO_3.out, cI_ HI0.out, cB1_ (IsS106.ge HI0.out), cK_ HK.out⟩

/-! ### spec_l2Bent: function 65 -/
def spec_l2Bent.f (k : Nat) (s0_0 : List Int) (s0_1 : Int) (a1 : Int) : Option ((List (S42)) × Int) := (spec_l2Draw.f k s0_0 s0_1 a1).bind fun bt277 => (if (bt277.1.length : Int) = 0 then (some (bt277.1, bt277.2)) else ((spec_l1Next.f s0_0 bt277.2 (bt277.1.length : Int)).bind fun bt281 => ((spec_l1Next.f s0_0 bt281.2 20).bind fun bt283 => (if bt283.1 = 0 then ((spec_l1Bent.f k s0_0 bt283.2).bind fun bt285 => (if 0 ≤ bt281.1 then (if bt281.1 < (bt277.1.length : Int) then (some ((bt277.1.set (bt281.1 : Int).toNat (⟨bt285.1, (rd_T42 bt277.1 bt281.1).f1⟩ : S42)), bt285.2)) else (none)) else (none))) else (if bt283.1 = 1 then ((spec_l1Pick.f s0_0 bt283.2 (([0, 1000000000000, 1000000000001, (-1000000000000), (-1000000000001), (-9223372036854775808)] : List Int))).bind fun bt293 => (if 0 ≤ bt281.1 then (if bt281.1 < (bt277.1.length : Int) then (some ((bt277.1.set (bt281.1 : Int).toNat (⟨(rd_T42 bt277.1 bt281.1).f0, bt293.1⟩ : S42)), bt293.2)) else (none)) else (none))) else (if bt283.1 = 2 then (if 0 ≤ bt281.1 then (if bt281.1 < (bt277.1.length : Int) then (if bt277.1.length < 4398046511104 then (some ((bt277.1 ++ [(⟨(rd_T42 bt277.1 bt281.1).f0, (rd_T42 bt277.1 bt281.1).f1⟩ : S42)]), bt283.2)) else (none)) else (none)) else (none)) else (if bt283.1 = 3 then (if 201 ≤ 8796093022208 then (some ((List.replicate 201 z42), bt283.2)) else (none)) else (some (bt277.1, bt283.2)))))))))
theorem spec_l2Bent.mono : ∀ a0 a1 a2 k, LeO (spec_l2Bent.f k a0 a1 a2) (spec_l2Bent.f (k + 1) a0 a1 a2) := by
 intro a0 a1 a2 k
 unfold spec_l2Bent.f
 repeat' first
   | (with_reducible exact spec_l1Bent.mono _ _ _)
   | (with_reducible exact spec_l2Draw.mono _ _ _ _)
   | (with_reducible exact LeO.refl _)
   | (with_reducible exact LeO.none _)
   | (with_reducible refine LeO.ite ?_ ?_)
   | (with_reducible refine LeO.bind ?_ (fun _ => ?_))
   | exact spec_l1Bent.mono _ _ _
   | exact spec_l2Draw.mono _ _ _ _
   | exact LeO.none _
   | refine LeO.ite ?_ ?_
   | refine LeO.bind ?_ (fun _ => ?_)
set_option maxHeartbeats 8000000 in
set_option maxRecDepth 100000 in
theorem spec_l2Bent.calls (k : Nat) (g : Nat) (s0_0 : List Int) (s0_1 : Int) (a1 : Int) (r1 : List (S42)) (r2 : Int) (w0 w : World) (hI : IsS106 w0 w g s0_0 s0_1) (hB : Below w0.heap.size w0 w) (h : spec_l2Bent.f k s0_0 s0_1 a1 = some (r1, r2)) :
  Calls Try.prog 65 #[.pointer (some ⟨g, 0, none⟩), .int .i64 a1] w fun e w' => ∃ v0_ : Value, e = .returned (v0_) ∧ Kd.N k42 42 w' w.heap.size (fun k_ => (w.heap.size ≤ k_)) v0_ r1 ∧ IsS106 w0 w' g s0_0 r2 ∧ Below w0.heap.size w0 w' ∧ KeepBut w w' g none := by
 have hu42 := Try.underlying42
 have HI0 := Aside0.mk hI
 have HK := Aside0.mk (KeepBut.refl w g none)
 have HL := Aside0.mk hB.size
 clear hI
 have HW0 := Aside0.mk hB.size
 have HB := Aside0.mk hB
 clear hB
 have H : ((spec_l2Draw.f k s0_0 s0_1 a1).bind fun bt277 => (if (bt277.1.length : Int) = 0 then (some (bt277.1, bt277.2)) else ((spec_l1Next.f s0_0 bt277.2 (bt277.1.length : Int)).bind fun bt281 => ((spec_l1Next.f s0_0 bt281.2 20).bind fun bt283 => (if bt283.1 = 0 then ((spec_l1Bent.f k s0_0 bt283.2).bind fun bt285 => (if 0 ≤ bt281.1 then (if bt281.1 < (bt277.1.length : Int) then (some ((bt277.1.set (bt281.1 : Int).toNat (⟨bt285.1, (rd_T42 bt277.1 bt281.1).f1⟩ : S42)), bt285.2)) else (none)) else (none))) else (if bt283.1 = 1 then ((spec_l1Pick.f s0_0 bt283.2 (([0, 1000000000000, 1000000000001, (-1000000000000), (-1000000000001), (-9223372036854775808)] : List Int))).bind fun bt293 => (if 0 ≤ bt281.1 then (if bt281.1 < (bt277.1.length : Int) then (some ((bt277.1.set (bt281.1 : Int).toNat (⟨(rd_T42 bt277.1 bt281.1).f0, bt293.1⟩ : S42)), bt293.2)) else (none)) else (none))) else (if bt283.1 = 2 then (if 0 ≤ bt281.1 then (if bt281.1 < (bt277.1.length : Int) then (if bt277.1.length < 4398046511104 then (some ((bt277.1 ++ [(⟨(rd_T42 bt277.1 bt281.1).f0, (rd_T42 bt277.1 bt281.1).f1⟩ : S42)]), bt283.2)) else (none)) else (none)) else (none)) else (if bt283.1 = 3 then (if 201 ≤ 8796093022208 then (some ((List.replicate 201 z42), bt283.2)) else (none)) else (some (bt277.1, bt283.2)))))))))) = some (r1, r2) := h
 clear h
 obtain ⟨⟨t277, t280⟩, A3, H⟩ := bnd_ H
 try dsimp only at H
 by_cases c4 : (t277.length : Int) = 0
 ·rw [if_pos c4] at H
  have c4b0 : ((t277.length : Int) == 0) = true := beq_iff_eq.mpr c4
  have c4b1 : ((t277.length : Int) != 0) = false := bne_eq_false_iff_eq.mpr c4
  clear c4
  simp only [Option.some.injEq, Prod.mk.injEq] at H
  obtain ⟨rfl, rfl⟩ := H
  go_enter Try.func65, Try.ntmps65
  go_wp2_with (first | (refine gl_ 103 (some 9) Try.func103 #[.pointer (some ⟨g, 0, none⟩), .int .i64 a1] ?_; (with_reducible refine (spec_l2Draw.calls k g s0_0 s0_1 a1 t277 t280 w0 _ ?side1 ?side2 A3.out).mono ?_); (case side1 => exact cI_ HI0.out); (case side2 => exact cB1_ (IsS106.ge HI0.out)); rintro e w5 ⟨v278, rfl, ho0, hi, hb, hk⟩; refine ⟨_, rfl, ?_⟩; have HO279 := Aside0.mk (Kd.N_lower (Kd.N_mono (ok' := fun k_ => (w.heap.size ≤ k_) ∧ k_ ≠ g) ho0 (fun k_ hk_ => ⟨(Nat.le_trans (keep_size (w := w) (g := g) (row := none) b10_0) hk_), (IsS106.fresh b10_2 k_ hk_)⟩)) (keep_size (w := w) (g := g) (row := none) b10_0)); replace HK := Aside0.mk (KeepBut.trans b10_0 hk (.inl rfl)); replace HB := Aside0.mk (hb); replace HI0 := Aside0.mk (hi); (try clear hb); (try clear hb2); (try clear hk); (try clear hi); (try clear ho0); obtain ⟨Ao6, co6, eo6⟩ := Kd.N_slice HO279.out; subst eo6))
  go_ret
  exact ⟨_, ce_, by refine cN_ ?_; exact Kd.N_mono HO279.out (fun _ hk => hk.1), cI_ HI0.out, cB1_ (IsS106.ge HI0.out), cK_ HK.out⟩
 ·rw [if_neg c4] at H
  have c4b0 : ((t277.length : Int) == 0) = false := beq_eq_false_iff_ne.mpr c4
  have c4b1 : ((t277.length : Int) != 0) = true := bne_iff_ne.mpr c4
  have c4b2 : ¬ (t277 = []) := fun h_ => c4 (by rw [h_]; rfl)
  obtain ⟨⟨t281, t282⟩, A7, H⟩ := bnd_ H
  try dsimp only at H
  obtain ⟨⟨t283, t284⟩, A8, H⟩ := bnd_ H
  try dsimp only at H
  by_cases c9 : t283 = 0
  ·rw [if_pos c9] at H
   have c9b0 : (t283 == 0) = true := beq_iff_eq.mpr c9
   have c9b1 : (t283 != 0) = false := bne_eq_false_iff_eq.mpr c9
   clear c9
   obtain ⟨⟨t285, t288⟩, A10, H⟩ := bnd_ H
   try dsimp only at H
   by_cases c11 : 0 ≤ t281
   ·rw [if_pos c11] at H
    have c11b0 : decide (0 ≤ t281) = true := decide_eq_true c11
    clear c11
    by_cases c12 : t281 < (t277.length : Int)
    ·rw [if_pos c12] at H
     have c12b0 : decide (t281 < (t277.length : Int)) = true := decide_eq_true c12
     clear c12
     obtain ⟨y289, hy_⟩ : ∃ y_ : List (S42), y_ = (t277.set (t281 : Int).toNat (⟨t285, (rd_T42 t277 t281).f1⟩ : S42)) := ⟨_, rfl⟩
     replace H : (some (y289, t288)) = some (r1, r2) := yb_
     have Ny289 := Aside0.mk hy_
     clear hy_
     simp only [Option.some.injEq, Prod.mk.injEq] at H
     obtain ⟨rfl, rfl⟩ := H
     go_enter Try.func65, Try.ntmps65
     go_wp2_with (first | (refine gl_ 103 (some 9) Try.func103 #[.pointer (some ⟨g, 0, none⟩), .int .i64 a1] ?_; (with_reducible refine (spec_l2Draw.calls k g s0_0 s0_1 a1 t277 t280 w0 _ ?side1 ?side2 A3.out).mono ?_); (case side1 => exact cI_ HI0.out); (case side2 => exact cB1_ (IsS106.ge HI0.out)); rintro e w14 ⟨v278, rfl, ho0, hi, hb, hk⟩; refine ⟨_, rfl, ?_⟩; have HO279 := Aside0.mk (Kd.N_lower (Kd.N_mono (ok' := fun k_ => (w.heap.size ≤ k_) ∧ k_ ≠ g) ho0 (fun k_ hk_ => ⟨(Nat.le_trans (keep_size (w := w) (g := g) (row := none) b10_0) hk_), (IsS106.fresh b10_2 k_ hk_)⟩)) (keep_size (w := w) (g := g) (row := none) b10_0)); replace HK := Aside0.mk (KeepBut.trans b10_0 hk (.inl rfl)); replace HB := Aside0.mk (hb); replace HI0 := Aside0.mk (hi); (try clear hb); (try clear hb2); (try clear hk); (try clear hi); (try clear ho0); obtain ⟨Ao15, co15, eo15⟩ := Kd.N_slice HO279.out; subst eo15) | (refine gl_ 66 (some 17) Try.func66 #[.pointer (some ⟨g, 0, none⟩), .int .i64 (t277.length : Int)] ?_; (with_reducible refine (spec_l1Next.calls g s0_0 t280 (t277.length : Int) t281 t282 w0 _ ?side1 ?side2 A7.out).mono ?_); (case side1 => exact cI_ HI0.out); (case side2 => exact cB1_ (IsS106.ge HI0.out)); rintro e w16 ⟨rfl, hi, hb, hk⟩; refine ⟨_, rfl, ?_⟩; replace HO279 := Aside0.mk (Kd.N_mono (Kd.N_keep (Kd.N_mono (ok := fun k_ => (((w.heap.size ≤ k_)) ∧ k_ ≠ g)) b10_3 (fun k_ hk_ => (⟨hk_, hk_.2⟩ : _ ∧ k_ ≠ g))) hk (fun _ h => h.2)) (fun _ h => h.1)); replace HK := Aside0.mk (KeepBut.trans b10_0 hk (.inl rfl)); replace HB := Aside0.mk (hb); replace HI0 := Aside0.mk (hi); (try clear hb); (try clear hb2); (try clear hk); (try clear hi)) | (refine gl_ 66 (some 19) Try.func66 #[.pointer (some ⟨g, 0, none⟩), .int .i64 20] ?_; (with_reducible refine (spec_l1Next.calls g s0_0 t282 20 t283 t284 w0 _ ?side1 ?side2 A8.out).mono ?_); (case side1 => exact cI_ HI0.out); (case side2 => exact cB1_ (IsS106.ge HI0.out)); rintro e w17 ⟨rfl, hi, hb, hk⟩; refine ⟨_, rfl, ?_⟩; replace HO279 := Aside0.mk (Kd.N_mono (Kd.N_keep (Kd.N_mono (ok := fun k_ => (((w.heap.size ≤ k_)) ∧ k_ ≠ g)) b10_3 (fun k_ hk_ => (⟨hk_, hk_.2⟩ : _ ∧ k_ ≠ g))) hk (fun _ h => h.2)) (fun _ h => h.1)); replace HK := Aside0.mk (KeepBut.trans b10_0 hk (.inl rfl)); replace HB := Aside0.mk (hb); replace HI0 := Aside0.mk (hi); (try clear hb); (try clear hb2); (try clear hk); (try clear hi)) | (refine gl_ 104 (some 25) Try.func104 #[.pointer (some ⟨g, 0, none⟩)] ?_; (with_reducible refine (spec_l1Bent.calls k g s0_0 t284 t285 t288 w0 _ ?side1 ?side2 A10.out).mono ?_); (case side1 => exact cI_ HI0.out); (case side2 => exact cB1_ (IsS106.ge HI0.out)); rintro e w18 ⟨v286, rfl, ho0, hi, hb, hk⟩; refine ⟨_, rfl, ?_⟩; replace HO279 := Aside0.mk (Kd.N_mono (Kd.N_told (Kd.N_oldK (Kd.N_mono (ok := fun k_ => (((w.heap.size ≤ k_)) ∧ k_ ≠ g)) b10_3 (fun k_ hk_ => (⟨hk_, hk_.2⟩ : _ ∧ k_ ≠ g))) hk) (Kd.R_base ho0)) (fun _ h_ => h_.1)); have HO287 := Aside0.mk (Kd.R_lower (Kd.R_newM (M := fun k_ => (w.heap.size ≤ k_)) ho0 (keep_size (w := w) (g := g) (row := none) b10_0) (fun k_ h_ => h_)) (keep_size (w := w) (g := g) (row := none) b10_0)); replace HK := Aside0.mk (KeepBut.trans b10_0 hk (.inl rfl)); replace HB := Aside0.mk (hb); replace HI0 := Aside0.mk (hi); (try clear hb); (try clear hb2); (try clear hk); (try clear hi); (try clear ho0); have p13 : 0 ≤ (t281 : Int) := of_decide_eq_true ca_; have q13 : (t281 : Int) < ((t277.length : Int) : Int) := of_decide_eq_true ca_; obtain ⟨go13, co13, eo13, gb13, gl13, cl13, HG13⟩ := Kd.N_form HO279.out (by omega); (first | cases eo13 | (injection eo13 with ea_ en_ ec_; (first | subst ea_ | (injection ea_ with ea_; subst ea_)); subst ec_; clear en_)); have GB13 := Aside0.mk gb13; have GG13 := Aside0.mk HG13; clear gb13 gl13 HG13; obtain ⟨ce13, hcl13, hM13, hcc13, hfr13⟩ := Kd.N_elem HO279.out z42 (t281 : Int) p13 q13; obtain ⟨ua13_0, uc13_0, rfl, ul13_0, ge13_0⟩ := k42_openF hM13; have hx13_0 : w18.cell? ⟨go13, (t281 : Int).toNat * 2, none⟩ = some (.slice ua13_0 ((rd_T42 t277 t281).f0).length uc13_0) := hcc13 0 _ rfl; have hx13_1 : w18.cell? ⟨go13, (t281 : Int).toNat * 2 + 1, none⟩ = some (.int .i64 ((rd_T42 t277 t281).f1)) := hcc13 1 _ rfl; have hf13_0 : w18.frozen? ⟨go13, (t281 : Int).toNat * 2, none⟩ = false := hfr13 0; have hf13_1 : w18.frozen? ⟨go13, (t281 : Int).toNat * 2 + 1, none⟩ = false := hfr13 1; (try clear hM13); clear hcl13 hcc13 hfr13; replace p13 := eq_true p13; replace q13 := eq_true q13; obtain ⟨Ao19, co19, eo19⟩ := Kd.R_slice HO287.out; subst eo19; have n_ := Aside0.mk (Kd.N_mono (ok' := (fun k_ => (w.heap.size ≤ k_) ∧ some k_ ≠ (.slice Ao19 t285.length co19 : Value).ownBlock)) HO279.out (fun k_ hk => ⟨hk.1.1, hk.2⟩)); clear HO279; have HO279 := n_; clear n_; have HX20 := Aside0.mk (show Kd.N k42 42 w18 w.heap.size (fun k_ => (w.heap.size ≤ k_)) (.slice (some ⟨go13, 0, none⟩) t277.length co15) t277 from (by refine cN_ ?_; exact Kd.N_mono HO279.out (fun _ hk => hk.1))); obtain ⟨ce20, hcl20, hM20, hcc20, hfr20⟩ := Kd.N_elem HX20.out z42 (t281 : Int) (of_decide_eq_true ca_) (by have h_ : (t281 : Int) < ((t277.length : Int) : Int) := of_decide_eq_true ca_; first | exact h_ | (have e_ := (Kd.N_reads' HO279.out).1; omega) | simpa using h_); obtain ⟨ua20_0, uc20_0, rfl, ul20_0, ge20_0⟩ := k42_openF hM20; have HP20 := Kd.N_seg HX20.out (t281 : Int) (of_decide_eq_true ca_) (by have h_ : (t281 : Int) < ((t277.length : Int) : Int) := of_decide_eq_true ca_; first | exact h_ | (have e_ := (Kd.N_reads' HO279.out).1; omega) | simpa using h_) (seg := [.slice Ao19 t285.length co19]) (j := 0) hcl20 hcc20 (show 1 ≤ 2 from by decide) (x' := (⟨t285, (rd_T42 t277 t281).f1⟩ : S42)) (k42_mkF _ _ (⟨t285, (rd_T42 t277 t281).f1⟩ : S42) (Kd.R_reads' (Kd.R_mono (ok' := (fun k_ => ((fun k_ => (w.heap.size ≤ k_))) k_ ∧ k_ ≠ go13)) (Kd.R_apart' (HO287.out) (Kd.N_typed HO279.out) (by decide)) (fun k_ hk => ⟨hk.1.1, fun e_ => (hk.2) (by rw [e_]; rfl)⟩))).2.1 (Kd.R_F (Kd.R_mono (ok' := (fun k_ => ((fun k_ => (w.heap.size ≤ k_))) k_ ∧ k_ ≠ go13)) (Kd.R_apart' (HO287.out) (Kd.N_typed HO279.out) (by decide)) (fun k_ hk => ⟨hk.1.1, fun e_ => (hk.2) (by rw [e_]; rfl)⟩)))) (fun _ hk => hk); have hx20_0 := hcc20 0 _ rfl; (try simp only [show (k42).sz = 2 from rfl, Nat.mul_one, Nat.add_zero] at hx20_0); have hf20_0 := hfr20 0; (try simp only [show (k42).sz = 2 from rfl, Nat.mul_one, Nat.add_zero] at hf20_0); (try clear hM20); clear hcl20 hcc20 hfr20) | ((with_reducible refine gate_store (t := 40) (p := 27) rfl ?_); refine store_event (t := 40) (p := 27) (v := ?vo_w21) (w1 := (w18.setCell ⟨go13, (t281 : Int).toNat * 2, none⟩ (.slice Ao19 t285.length co19))) ?hg ?ho ?hn ?hr ?_; (case ho => rfl); (case hg => rfl); (case hn => rfl); (case hr => first | (go_simp; done) | (go_simp; rfl)); intro w21 hw; have hg : w18.grownBy w21 (some go13) := (by rw [hw]; exact HP20.2); have hp_ : Kd.N k42 42 w21 w.heap.size (fun k_ => (w.heap.size ≤ k_)) (.slice (some ⟨go13, 0, none⟩) t277.length co15) y289 := (by rw [hw, Ny289.out]; exact HP20.1); clear HP20; replace HI0 := Aside0.mk (IsS106.grown b10_2 hg (IsS106.own_neN HI0.out HO279.out (by decide))); replace HB := Aside0.mk ((by rw [hw]; exact below_set (HB.out) (Nat.le_trans HL.out GB13.out) : Below w0.heap.size w0 w21)); replace HK := Aside0.mk (KeepBut.trans b10_0 (KeepBut.of_grown hg g) (Kd.N_base2 HO279.out)); replace HO279 := Aside0.mk (hp_); clear HO287; clear hg hw hp_))
     go_ret
     exact ⟨_, ce_, cN_ HO279.out, cI_ HI0.out, cB1_ (IsS106.ge HI0.out), cK_ HK.out⟩
    ·rw [if_neg c12] at H
     exact absurd H (by simp)
   ·rw [if_neg c11] at H
    exact absurd H (by simp)
  ·rw [if_neg c9] at H
   have c9b0 : (t283 == 0) = false := beq_eq_false_iff_ne.mpr c9
   have c9b1 : (t283 != 0) = true := bne_iff_ne.mpr c9
   by_cases c22 : t283 = 1
   ·rw [if_pos c22] at H
    have c22b0 : (t283 == 1) = true := beq_iff_eq.mpr c22
    have c22b1 : (t283 != 1) = false := bne_eq_false_iff_eq.mpr c22
    clear c22
    obtain ⟨y290, hy_⟩ : ∃ y_ : List Int, y_ = (([0, 1000000000000, 1000000000001, (-1000000000000), (-1000000000001), (-9223372036854775808)] : List Int)) := ⟨_, rfl⟩
    replace H : ((spec_l1Pick.f s0_0 t284 y290).bind fun bt293 => (if 0 ≤ t281 then (if t281 < (t277.length : Int) then (some ((t277.set (t281 : Int).toNat (⟨(rd_T42 t277 t281).f0, bt293.1⟩ : S42)), bt293.2)) else (none)) else (none))) = some (r1, r2) := yb_
    have Ny290 := Aside0.mk hy_
    clear hy_
    obtain ⟨⟨t293, t294⟩, A23, H⟩ := bnd_ H
    try dsimp only at H
    by_cases c24 : 0 ≤ t281
    ·rw [if_pos c24] at H
     have c24b0 : decide (0 ≤ t281) = true := decide_eq_true c24
     clear c24
     by_cases c25 : t281 < (t277.length : Int)
     ·rw [if_pos c25] at H
      have c25b0 : decide (t281 < (t277.length : Int)) = true := decide_eq_true c25
      clear c25
      obtain ⟨y295, hy_⟩ : ∃ y_ : List (S42), y_ = (t277.set (t281 : Int).toNat (⟨(rd_T42 t277 t281).f0, t293⟩ : S42)) := ⟨_, rfl⟩
      replace H : (some (y295, t294)) = some (r1, r2) := yb_
      have Ny295 := Aside0.mk hy_
      clear hy_
      simp only [Option.some.injEq, Prod.mk.injEq] at H
      obtain ⟨rfl, rfl⟩ := H
      go_enter Try.func65, Try.ntmps65
      go_wp2_with (first | (refine gl_ 103 (some 9) Try.func103 #[.pointer (some ⟨g, 0, none⟩), .int .i64 a1] ?_; (with_reducible refine (spec_l2Draw.calls k g s0_0 s0_1 a1 t277 t280 w0 _ ?side1 ?side2 A3.out).mono ?_); (case side1 => exact cI_ HI0.out); (case side2 => exact cB1_ (IsS106.ge HI0.out)); rintro e w27 ⟨v278, rfl, ho0, hi, hb, hk⟩; refine ⟨_, rfl, ?_⟩; have HO279 := Aside0.mk (Kd.N_lower (Kd.N_mono (ok' := fun k_ => (w.heap.size ≤ k_) ∧ k_ ≠ g) ho0 (fun k_ hk_ => ⟨(Nat.le_trans (keep_size (w := w) (g := g) (row := none) b10_0) hk_), (IsS106.fresh b10_2 k_ hk_)⟩)) (keep_size (w := w) (g := g) (row := none) b10_0)); replace HK := Aside0.mk (KeepBut.trans b10_0 hk (.inl rfl)); replace HB := Aside0.mk (hb); replace HI0 := Aside0.mk (hi); (try clear hb); (try clear hb2); (try clear hk); (try clear hi); (try clear ho0); obtain ⟨Ao28, co28, eo28⟩ := Kd.N_slice HO279.out; subst eo28) | (refine gl_ 66 (some 17) Try.func66 #[.pointer (some ⟨g, 0, none⟩), .int .i64 (t277.length : Int)] ?_; (with_reducible refine (spec_l1Next.calls g s0_0 t280 (t277.length : Int) t281 t282 w0 _ ?side1 ?side2 A7.out).mono ?_); (case side1 => exact cI_ HI0.out); (case side2 => exact cB1_ (IsS106.ge HI0.out)); rintro e w29 ⟨rfl, hi, hb, hk⟩; refine ⟨_, rfl, ?_⟩; replace HO279 := Aside0.mk (Kd.N_mono (Kd.N_keep (Kd.N_mono (ok := fun k_ => (((w.heap.size ≤ k_)) ∧ k_ ≠ g)) b10_3 (fun k_ hk_ => (⟨hk_, hk_.2⟩ : _ ∧ k_ ≠ g))) hk (fun _ h => h.2)) (fun _ h => h.1)); replace HK := Aside0.mk (KeepBut.trans b10_0 hk (.inl rfl)); replace HB := Aside0.mk (hb); replace HI0 := Aside0.mk (hi); (try clear hb); (try clear hb2); (try clear hk); (try clear hi)) | (refine gl_ 66 (some 19) Try.func66 #[.pointer (some ⟨g, 0, none⟩), .int .i64 20] ?_; (with_reducible refine (spec_l1Next.calls g s0_0 t282 20 t283 t284 w0 _ ?side1 ?side2 A8.out).mono ?_); (case side1 => exact cI_ HI0.out); (case side2 => exact cB1_ (IsS106.ge HI0.out)); rintro e w30 ⟨rfl, hi, hb, hk⟩; refine ⟨_, rfl, ?_⟩; replace HO279 := Aside0.mk (Kd.N_mono (Kd.N_keep (Kd.N_mono (ok := fun k_ => (((w.heap.size ≤ k_)) ∧ k_ ≠ g)) b10_3 (fun k_ hk_ => (⟨hk_, hk_.2⟩ : _ ∧ k_ ≠ g))) hk (fun _ h => h.2)) (fun _ h => h.1)); replace HK := Aside0.mk (KeepBut.trans b10_0 hk (.inl rfl)); replace HB := Aside0.mk (hb); replace HI0 := Aside0.mk (hi); (try clear hb); (try clear hb2); (try clear hk); (try clear hi)) | ((with_reducible refine gate_dst (N := 33) rfl ?_); refine Kd.R_lit (Kd.int .i64) _ 2 ?hg (N := 33) ?hd (xs := ([0, 1000000000000, 1000000000001, (-1000000000000), (-1000000000001), (-9223372036854775808)] : List Int)) (inner := [.int .i64 0, .int .i64 1000000000000, .int .i64 1000000000001, .int .i64 (-1000000000000), .int .i64 (-1000000000001), .int .i64 (-9223372036854775808)]) (ok := fun _ => True) (okp := fun _ => True) ?hr ?hp (fun _ hk => hk) trivial (Below.refl _ _) (Nat.le_refl _) (by simp) ?_; (case hd => rfl); (case hg => rfl); (case hr => first | (go_simp; done) | (go_simp; rfl)); (case hp => exact (Reps.one (show Kd.M (Kd.int .i64) _ _ _ 0 [.int .i64 0] from rfl) (Reps.one (show Kd.M (Kd.int .i64) _ _ _ 1000000000000 [.int .i64 1000000000000] from rfl) (Reps.one (show Kd.M (Kd.int .i64) _ _ _ 1000000000001 [.int .i64 1000000000001] from rfl) (Reps.one (show Kd.M (Kd.int .i64) _ _ _ (-1000000000000) [.int .i64 (-1000000000000)] from rfl) (Reps.one (show Kd.M (Kd.int .i64) _ _ _ (-1000000000001) [.int .i64 (-1000000000001)] from rfl) (Reps.one (show Kd.M (Kd.int .i64) _ _ _ (-9223372036854775808) [.int .i64 (-9223372036854775808)] from rfl) (Reps.none _ _)))))))); intro v291 w31 ho32 hb hg_ hnew_; clear hg_ hnew_; (first | rw [← Ny290.out] at ho32 | (simp only [Int.reduceToNat] at ho32; rw [← Ny290.out] at ho32)); replace HO279 := Aside0.mk (Kd.N_elder' b10_3 (Kd.R_base ho32) hb); have HO292 := Aside0.mk (Kd.R_lower (Kd.R_newM (M := fun k_ => (w.heap.size ≤ k_)) ho32 (keep_size (w := w) (g := g) (row := none) b10_0) (fun k_ h_ => h_)) (keep_size (w := w) (g := g) (row := none) b10_0)); replace HK := Aside0.mk (KeepBut.trans b10_0 (KeepBut.of_below hb g none) (.inl rfl)); replace HB := Aside0.mk (below_step b10_9 hb); replace HI0 := Aside0.mk (IsS106.below b10_2 hb); clear hb ho32; obtain ⟨Ao33, co33, eo33⟩ := Kd.R_slice HO292.out; subst eo33) | (refine gl_ 68 (some 34) Try.func68 #[.pointer (some ⟨g, 0, none⟩), .slice Ao33 y290.length co33] ?_; (with_reducible refine (spec_l1Pick.calls g s0_0 t284 _ _ y290 t293 t294 w0 _ ?side1 ?side2 ?side3 ?side4 ?side5 A23.out).mono ?_); (case side1 => exact cI_ HI0.out); (case side2 => exact cB1_ (IsS106.ge HI0.out)); (case side3 => exact cC_ ((Kd.R_reads' HO292.out).2.2)); (case side4 => exact (Kd.R_reads' HO292.out).2.1); (case side5 => exact (by exact far_slice (IsS106.own_ne HI0.out HO292.out (by decide)))); rintro e w34 ⟨rfl, hi, hb, hk⟩; refine ⟨_, rfl, ?_⟩; replace HO279 := Aside0.mk (Kd.N_mono (Kd.N_keep (Kd.N_mono (ok := fun k_ => ((((w.heap.size ≤ k_)) ∧ k_ ≠ g) ∧ some k_ ≠ (.slice Ao33 y290.length co33 : Value).ownBlock)) b10_3 (fun k_ hk_ => (⟨hk_, hk_.1.2⟩ : _ ∧ k_ ≠ g))) hk (fun _ h => h.2)) (fun _ h => h.1)); replace HO292 := Aside0.mk (Kd.R_mono (Kd.R_keep (IsS106.apart (show IsS106 w0 _ g s0_0 t284 from by repeat (first | (with_reducible first | exact HI0.out | apply IsS106.alloc | apply IsS106.drewN | apply IsS106.drew | apply IsS106.set_1) | exact HI0.out)) (cR_ HO292.out) (by decide)) hk (fun _ h => h.2)) (fun _ h => h.1)); replace HK := Aside0.mk (KeepBut.trans b10_0 hk (.inl rfl)); replace HB := Aside0.mk (hb); replace HI0 := Aside0.mk (hi); (try clear hb); (try clear hb2); (try clear hk); (try clear hi); have p26 : 0 ≤ (t281 : Int) := of_decide_eq_true ca_; have q26 : (t281 : Int) < ((t277.length : Int) : Int) := of_decide_eq_true ca_; obtain ⟨go26, co26, eo26, gb26, gl26, cl26, HG26⟩ := Kd.N_form HO279.out (by omega); (first | cases eo26 | (injection eo26 with ea_ en_ ec_; (first | subst ea_ | (injection ea_ with ea_; subst ea_)); subst ec_; clear en_)); have GB26 := Aside0.mk gb26; have GG26 := Aside0.mk HG26; clear gb26 gl26 HG26; obtain ⟨ce26, hcl26, hM26, hcc26, hfr26⟩ := Kd.N_elem HO279.out z42 (t281 : Int) p26 q26; obtain ⟨ua26_0, uc26_0, rfl, ul26_0, ge26_0⟩ := k42_openF hM26; have hx26_0 : w34.cell? ⟨go26, (t281 : Int).toNat * 2, none⟩ = some (.slice ua26_0 ((rd_T42 t277 t281).f0).length uc26_0) := hcc26 0 _ rfl; have hx26_1 : w34.cell? ⟨go26, (t281 : Int).toNat * 2 + 1, none⟩ = some (.int .i64 ((rd_T42 t277 t281).f1)) := hcc26 1 _ rfl; have hf26_0 : w34.frozen? ⟨go26, (t281 : Int).toNat * 2, none⟩ = false := hfr26 0; have hf26_1 : w34.frozen? ⟨go26, (t281 : Int).toNat * 2 + 1, none⟩ = false := hfr26 1; (try clear hM26); clear hcl26 hcc26 hfr26; replace p26 := eq_true p26; replace q26 := eq_true q26; have n_ := Aside0.mk (Kd.N_mono (ok' := (fun k_ => (w.heap.size ≤ k_) ∧ some k_ ≠ (.slice Ao33 y290.length co33 : Value).ownBlock)) HO279.out (fun k_ hk => ⟨hk.1.1, hk.2⟩)); clear HO279; have HO279 := n_; clear n_; have HX35 := Aside0.mk (show Kd.N k42 42 w34 w.heap.size (fun k_ => (w.heap.size ≤ k_) ∧ some k_ ≠ (.slice Ao33 y290.length co33 : Value).ownBlock) (.slice (some ⟨go26, 0, none⟩) t277.length co28) t277 from b10_3); obtain ⟨ce35, hcl35, hM35, hcc35, hfr35⟩ := Kd.N_elem HX35.out z42 (t281 : Int) (of_decide_eq_true ca_) (by have h_ : (t281 : Int) < ((t277.length : Int) : Int) := of_decide_eq_true ca_; first | exact h_ | (have e_ := (Kd.N_reads' HO279.out).1; omega) | simpa using h_); obtain ⟨ua35_0, uc35_0, rfl, ul35_0, ge35_0⟩ := k42_openF hM35; have HP35 := Kd.N_seg HX35.out (t281 : Int) (of_decide_eq_true ca_) (by have h_ : (t281 : Int) < ((t277.length : Int) : Int) := of_decide_eq_true ca_; first | exact h_ | (have e_ := (Kd.N_reads' HO279.out).1; omega) | simpa using h_) (seg := [.int .i64 t293]) (j := 1) hcl35 hcc35 (show 2 ≤ 2 from by decide) (x' := (⟨(rd_T42 t277 t281).f0, t293⟩ : S42)) (k42_mkF _ _ (⟨(rd_T42 t277 t281).f0, t293⟩ : S42) ul35_0 ge35_0) (fun _ hk => hk); have hx35_1 := hcc35 1 _ rfl; (try simp only [show (k42).sz = 2 from rfl, Nat.mul_one, Nat.add_zero] at hx35_1); have hf35_1 := hfr35 1; (try simp only [show (k42).sz = 2 from rfl, Nat.mul_one, Nat.add_zero] at hf35_1); (try clear hM35); clear hcl35 hcc35 hfr35) | ((with_reducible refine gate_store (t := 2) (p := 36) rfl ?_); refine store_event (t := 2) (p := 36) (v := ?vo_w36) (w1 := (w34.setCell ⟨go26, (t281 : Int).toNat * 2 + 1, none⟩ (.int .i64 t293))) ?hg ?ho ?hn ?hr ?_; (case ho => rfl); (case hg => rfl); (case hn => rfl); (case hr => first | (go_simp; done) | (go_simp; rfl)); intro w36 hw; have hg : w34.grownBy w36 (some go26) := (by rw [hw]; exact HP35.2); have hp_ : Kd.N k42 42 w36 w.heap.size (fun k_ => (w.heap.size ≤ k_) ∧ some k_ ≠ (.slice Ao33 y290.length co33 : Value).ownBlock) (.slice (some ⟨go26, 0, none⟩) t277.length co28) y295 := (by rw [hw, Ny295.out]; exact HP35.1); clear HP35; replace HI0 := Aside0.mk (IsS106.grown b10_2 hg (IsS106.own_neN HI0.out HO279.out (by decide))); replace HO292 := Aside0.mk (Kd.R_over' (v := (.slice (some ⟨go26, 0, none⟩) t277.length co28)) (cR_ HO292.out) (Kd.N_typed HO279.out) (by decide) hg); replace HB := Aside0.mk ((by rw [hw]; exact below_set (HB.out) (Nat.le_trans HL.out GB26.out) : Below w0.heap.size w0 w36)); replace HK := Aside0.mk (KeepBut.trans b10_0 (KeepBut.of_grown hg g) (Kd.N_base2 HO279.out)); replace HO279 := Aside0.mk (hp_); clear hg hw hp_))
      go_ret
      exact ⟨_, ce_, by refine cN_ ?_; exact Kd.N_mono HO279.out (fun _ hk => hk.1), cI_ HI0.out, cB1_ (IsS106.ge HI0.out), cK_ HK.out⟩
     ·rw [if_neg c25] at H
      exact absurd H (by simp)
    ·rw [if_neg c24] at H
     exact absurd H (by simp)
   ·rw [if_neg c22] at H
    have c22b0 : (t283 == 1) = false := beq_eq_false_iff_ne.mpr c22
    have c22b1 : (t283 != 1) = true := bne_iff_ne.mpr c22
    by_cases c37 : t283 = 2
    ·rw [if_pos c37] at H
     have c37b0 : (t283 == 2) = true := beq_iff_eq.mpr c37
     have c37b1 : (t283 != 2) = false := bne_eq_false_iff_eq.mpr c37
     clear c37
     by_cases c38 : 0 ≤ t281
     ·rw [if_pos c38] at H
      have c38b0 : decide (0 ≤ t281) = true := decide_eq_true c38
      clear c38
      by_cases c39 : t281 < (t277.length : Int)
      ·rw [if_pos c39] at H
       have c39b0 : decide (t281 < (t277.length : Int)) = true := decide_eq_true c39
       clear c39
       by_cases c40 : t277.length < 4398046511104
       ·rw [if_pos c40] at H
        have LMc40 := Aside0.mk c40
        clear c40
        obtain ⟨y297, hy_⟩ : ∃ y_ : List (S42), y_ = (t277 ++ [(⟨(rd_T42 t277 t281).f0, (rd_T42 t277 t281).f1⟩ : S42)]) := ⟨_, rfl⟩
        replace H : (some (y297, t284)) = some (r1, r2) := yb_
        have Ny297 := Aside0.mk hy_
        clear hy_
        simp only [Option.some.injEq, Prod.mk.injEq] at H
        obtain ⟨rfl, rfl⟩ := H
        go_enter Try.func65, Try.ntmps65
        go_wp2_with (first | (refine gl_ 103 (some 9) Try.func103 #[.pointer (some ⟨g, 0, none⟩), .int .i64 a1] ?_; (with_reducible refine (spec_l2Draw.calls k g s0_0 s0_1 a1 t277 t280 w0 _ ?side1 ?side2 A3.out).mono ?_); (case side1 => exact cI_ HI0.out); (case side2 => exact cB1_ (IsS106.ge HI0.out)); rintro e w41 ⟨v278, rfl, ho0, hi, hb, hk⟩; refine ⟨_, rfl, ?_⟩; have HO279 := Aside0.mk (Kd.N_lower (Kd.N_mono (ok' := fun k_ => (w.heap.size ≤ k_) ∧ k_ ≠ g) ho0 (fun k_ hk_ => ⟨(Nat.le_trans (keep_size (w := w) (g := g) (row := none) b10_0) hk_), (IsS106.fresh b10_2 k_ hk_)⟩)) (keep_size (w := w) (g := g) (row := none) b10_0)); replace HK := Aside0.mk (KeepBut.trans b10_0 hk (.inl rfl)); replace HB := Aside0.mk (hb); replace HI0 := Aside0.mk (hi); (try clear hb); (try clear hb2); (try clear hk); (try clear hi); (try clear ho0); obtain ⟨Ao42, co42, eo42⟩ := Kd.N_slice HO279.out; subst eo42) | (refine gl_ 66 (some 17) Try.func66 #[.pointer (some ⟨g, 0, none⟩), .int .i64 (t277.length : Int)] ?_; (with_reducible refine (spec_l1Next.calls g s0_0 t280 (t277.length : Int) t281 t282 w0 _ ?side1 ?side2 A7.out).mono ?_); (case side1 => exact cI_ HI0.out); (case side2 => exact cB1_ (IsS106.ge HI0.out)); rintro e w43 ⟨rfl, hi, hb, hk⟩; refine ⟨_, rfl, ?_⟩; replace HO279 := Aside0.mk (Kd.N_mono (Kd.N_keep (Kd.N_mono (ok := fun k_ => (((w.heap.size ≤ k_)) ∧ k_ ≠ g)) b10_3 (fun k_ hk_ => (⟨hk_, hk_.2⟩ : _ ∧ k_ ≠ g))) hk (fun _ h => h.2)) (fun _ h => h.1)); replace HK := Aside0.mk (KeepBut.trans b10_0 hk (.inl rfl)); replace HB := Aside0.mk (hb); replace HI0 := Aside0.mk (hi); (try clear hb); (try clear hb2); (try clear hk); (try clear hi)) | (refine gl_ 66 (some 19) Try.func66 #[.pointer (some ⟨g, 0, none⟩), .int .i64 20] ?_; (with_reducible refine (spec_l1Next.calls g s0_0 t282 20 t283 t284 w0 _ ?side1 ?side2 A8.out).mono ?_); (case side1 => exact cI_ HI0.out); (case side2 => exact cB1_ (IsS106.ge HI0.out)); rintro e w44 ⟨rfl, hi, hb, hk⟩; refine ⟨_, rfl, ?_⟩; replace HO279 := Aside0.mk (Kd.N_mono (Kd.N_keep (Kd.N_mono (ok := fun k_ => (((w.heap.size ≤ k_)) ∧ k_ ≠ g)) b10_3 (fun k_ hk_ => (⟨hk_, hk_.2⟩ : _ ∧ k_ ≠ g))) hk (fun _ h => h.2)) (fun _ h => h.1)); replace HK := Aside0.mk (KeepBut.trans b10_0 hk (.inl rfl)); replace HB := Aside0.mk (hb); replace HI0 := Aside0.mk (hi); (try clear hb); (try clear hb2); (try clear hk); (try clear hi); have p296 : 0 ≤ (t281 : Int) := of_decide_eq_true ca_; have q296 : t281 < (t277.length : Int) := of_decide_eq_true ca_; obtain ⟨ad296, A296_0, c296_0, e296, hx296_0, hx296_1, hl296_0, hi296_0⟩ := at_T42 (Kd.N_reads' HO279.out).2.2 t281 p296 q296; cases e296; obtain ⟨ce296, hce296, hMe296, hcc296⟩ := Kd.N_get HO279.out z42 t281 p296 (by first | exact q296 | exact of_decide_eq_true ca_ | (have e_ := (Kd.N_reads' HO279.out).1; omega)); obtain ⟨ua296_0, uc296_0, rfl, ul296_0, ge296_0⟩ := k42_openF hMe296; have hv296_0 := hcc296 0 _ rfl; rw [Nat.add_zero] at hv296_0; replace hv296_0 := Option.some.inj (hv296_0.symm.trans hx296_0); injection hv296_0 with hva_ hvn_ hvc_; rw [hva_] at ge296_0; rw [hvc_] at ul296_0; have HL296_0 := Aside0.mk (show Kd.V (Kd.int .i64) 2 _ w.heap.size _ _ ((rd_T42 t277 t281).f0) from Kd.V_mk ul296_0 ge296_0); clear hva_ hvn_ hvc_ ge296_0 ul296_0; clear hcc296 hce296; have HR296_0 := Aside0.mk hi296_0; have HC296_0 := Aside0.mk hl296_0; clear hi296_0 hl296_0; replace p296 := eq_true p296; replace q296 := eq_true q296) | ((with_reducible refine gate_builtin (b := .append) (xs := #[.tmp 39, .tmp 44]) rfl ?_); at_builtin; refine Kd.N_append k42 w.heap.size rfl (.tmp 39) (.tmp 44) 24 42 (.agg #[(.slice none 0 0), (.int .i64 0)]) 32 rfl Try.underlying24 info42 rfl (by decide) (by omega) (.slice (some ad296) t277.length co42) t277 (⟨(rd_T42 t277 t281).f0, (rd_T42 t277 t281).f1⟩ : S42) [.slice A296_0 ((rd_T42 t277 t281).f0).length c296_0, .int .i64 ((rd_T42 t277 t281).f1)] (fun k_ => (w.heap.size ≤ k_) ∧ k_ ≠ g) (fun k_ => ((fun k_ => (w.heap.size ≤ k_) ∧ k_ ≠ g)) k_ ∧ some k_ ≠ (.slice (some ad296) t277.length co42 : Value).ownBlock) rfl rfl ?aP (fun _ hk => hk) ?aF ?aO (Below.refl _ _) ?aS ?aL ?_; (case aP => exact (by exact (k42_mkF _ _ (⟨(rd_T42 t277 t281).f0, (rd_T42 t277 t281).f1⟩ : S42) (Kd.V_reads' (Kd.V_mono (ok' := (fun k_ => ((fun k_ => (w.heap.size ≤ k_) ∧ k_ ≠ g)) k_ ∧ some k_ ≠ (.slice (some ad296) t277.length co42 : Value).ownBlock)) (HL296_0.out) (fun k_ hk => ⟨⟨hk.1.1, hk.1.2⟩, hk.2⟩))).2.1 (Kd.V_F (by refine cV_ ?_; exact Kd.V_mono (ok' := (fun k_ => ((fun k_ => (w.heap.size ≤ k_) ∧ k_ ≠ g)) k_ ∧ some k_ ≠ (.slice (some ad296) t277.length co42 : Value).ownBlock)) (HL296_0.out) (fun k_ hk => ⟨⟨hk.1.1, hk.1.2⟩, hk.2⟩)))))); (case aF => exact (by exact (fun k_ hk => ⟨(Nat.le_trans (keep_size (w := w) (g := g) (row := none) b10_0) hk), IsS106.fresh b10_2 k_ hk⟩))); (case aO => exact b10_3); (case aS => exact (by exact (keep_size (w := w) (g := g) (row := none) b10_0))); (case aL => exact co_ LMc40.out); intro v298 w45 ho hb hg hat; rw [← Ny297.out] at ho; replace HL296_0 := Aside0.mk (Kd.V_afterv (ok := (fun k_ => (w.heap.size ≤ k_) ∧ k_ ≠ g)) (cV_ HL296_0.out) hg hat); replace HB := Aside0.mk (below_weaken b10_9 HL.out hb); replace HI0 := Aside0.mk (IsS106.grown b10_2 hg (IsS106.own_neN HI0.out HO279.out (by decide))); replace HK := Aside0.mk (KeepBut.trans b10_0 (KeepBut.of_grown hg g) (Kd.N_base2 HO279.out)); have HO299 := Aside0.mk (ho); clear HO279; clear ho hb hg hat))
        go_ret
        exact ⟨_, ce_, by refine cN_ ?_; exact Kd.N_mono HO299.out (fun _ hk => hk.1), cI_ HI0.out, cB1_ (IsS106.ge HI0.out), cK_ HK.out⟩
       ·rw [if_neg c40] at H
        exact absurd H (by simp)
      ·rw [if_neg c39] at H
       exact absurd H (by simp)
     ·rw [if_neg c38] at H
      exact absurd H (by simp)
    ·rw [if_neg c37] at H
     have c37b0 : (t283 == 2) = false := beq_eq_false_iff_ne.mpr c37
     have c37b1 : (t283 != 2) = true := bne_iff_ne.mpr c37
     by_cases c46 : t283 = 3
     ·rw [if_pos c46] at H
      have c46b0 : (t283 == 3) = true := beq_iff_eq.mpr c46
      have c46b1 : (t283 != 3) = false := bne_eq_false_iff_eq.mpr c46
      clear c46
      by_cases c47 : 201 ≤ 8796093022208
      ·rw [if_pos c47] at H
       have c47b0 := eq_true c47
       have c47b1 : decide (201 ≤ 8796093022208) = true := decide_eq_true c47
       clear c47
       obtain ⟨y300, hy_⟩ : ∃ y_ : List (S42), y_ = (List.replicate 201 z42) := ⟨_, rfl⟩
       replace H : (some (y300, t284)) = some (r1, r2) := yb_
       have Ny300 := Aside0.mk hy_
       clear hy_
       simp only [Option.some.injEq, Prod.mk.injEq] at H
       obtain ⟨rfl, rfl⟩ := H
       go_enter Try.func65, Try.ntmps65
       go_wp2_with (first | (refine gl_ 103 (some 9) Try.func103 #[.pointer (some ⟨g, 0, none⟩), .int .i64 a1] ?_; (with_reducible refine (spec_l2Draw.calls k g s0_0 s0_1 a1 t277 t280 w0 _ ?side1 ?side2 A3.out).mono ?_); (case side1 => exact cI_ HI0.out); (case side2 => exact cB1_ (IsS106.ge HI0.out)); rintro e w48 ⟨v278, rfl, ho0, hi, hb, hk⟩; refine ⟨_, rfl, ?_⟩; have HO279 := Aside0.mk (Kd.N_lower (Kd.N_mono (ok' := fun k_ => (w.heap.size ≤ k_) ∧ k_ ≠ g) ho0 (fun k_ hk_ => ⟨(Nat.le_trans (keep_size (w := w) (g := g) (row := none) b10_0) hk_), (IsS106.fresh b10_2 k_ hk_)⟩)) (keep_size (w := w) (g := g) (row := none) b10_0)); replace HK := Aside0.mk (KeepBut.trans b10_0 hk (.inl rfl)); replace HB := Aside0.mk (hb); replace HI0 := Aside0.mk (hi); (try clear hb); (try clear hb2); (try clear hk); (try clear hi); (try clear ho0); obtain ⟨Ao49, co49, eo49⟩ := Kd.N_slice HO279.out; subst eo49) | (refine gl_ 66 (some 17) Try.func66 #[.pointer (some ⟨g, 0, none⟩), .int .i64 (t277.length : Int)] ?_; (with_reducible refine (spec_l1Next.calls g s0_0 t280 (t277.length : Int) t281 t282 w0 _ ?side1 ?side2 A7.out).mono ?_); (case side1 => exact cI_ HI0.out); (case side2 => exact cB1_ (IsS106.ge HI0.out)); rintro e w50 ⟨rfl, hi, hb, hk⟩; refine ⟨_, rfl, ?_⟩; replace HO279 := Aside0.mk (Kd.N_mono (Kd.N_keep (Kd.N_mono (ok := fun k_ => (((w.heap.size ≤ k_)) ∧ k_ ≠ g)) b10_3 (fun k_ hk_ => (⟨hk_, hk_.2⟩ : _ ∧ k_ ≠ g))) hk (fun _ h => h.2)) (fun _ h => h.1)); replace HK := Aside0.mk (KeepBut.trans b10_0 hk (.inl rfl)); replace HB := Aside0.mk (hb); replace HI0 := Aside0.mk (hi); (try clear hb); (try clear hb2); (try clear hk); (try clear hi)) | (refine gl_ 66 (some 19) Try.func66 #[.pointer (some ⟨g, 0, none⟩), .int .i64 20] ?_; (with_reducible refine (spec_l1Next.calls g s0_0 t282 20 t283 t284 w0 _ ?side1 ?side2 A8.out).mono ?_); (case side1 => exact cI_ HI0.out); (case side2 => exact cB1_ (IsS106.ge HI0.out)); rintro e w51 ⟨rfl, hi, hb, hk⟩; refine ⟨_, rfl, ?_⟩; replace HO279 := Aside0.mk (Kd.N_mono (Kd.N_keep (Kd.N_mono (ok := fun k_ => (((w.heap.size ≤ k_)) ∧ k_ ≠ g)) b10_3 (fun k_ hk_ => (⟨hk_, hk_.2⟩ : _ ∧ k_ ≠ g))) hk (fun _ h => h.2)) (fun _ h => h.1)); replace HK := Aside0.mk (KeepBut.trans b10_0 hk (.inl rfl)); replace HB := Aside0.mk (hb); replace HI0 := Aside0.mk (hi); (try clear hb); (try clear hb2); (try clear hk); (try clear hi)) | ((with_reducible refine gate_dst (N := 48) rfl ?_); refine Kd.N_make k42 _ 42 rfl (N' := 48) rfl 24 _ _ rfl 201 rfl rfl Try.underlying24 (.agg #[(.slice none 0 0), (.int .i64 0)]) 32 info42 rfl (by decide) (by omega) z42 (ok := fun k_ => w51.heap.size ≤ k_) (okp := fun _ => False) (k42_mkF _ _ z42 (Nat.le_refl _) (Kd.F_nil _ _ _)) (fun _ hk => hk.elim) (Nat.le_refl _) (by omega) (by omega) (Below.refl _ _) (Nat.le_refl _) ?_; intro v301 w52 ho53 hb hg_ hnew_; clear hg_ hnew_; (first | rw [← Ny300.out] at ho53 | (simp only [Int.reduceToNat] at ho53; rw [← Ny300.out] at ho53)); have HO302 := Aside0.mk (Kd.N_lower (Kd.N_mono (ok' := fun k_ => (w.heap.size ≤ k_) ∧ some k_ ≠ (.slice Ao49 t277.length co49 : Value).ownBlock ∧ k_ ≠ g) ho53 (fun k_ hk_ => ⟨(Nat.le_trans (keep_size (w := w) (g := g) (row := none) b10_0) hk_), (Kd.fresh' (Kd.N_lt b10_3) k_ hk_), (IsS106.fresh b10_2 k_ hk_)⟩)) (keep_size (w := w) (g := g) (row := none) b10_0)); replace HO279 := Aside0.mk (Kd.N_elder' b10_3 (Kd.N_base ho53) hb); replace HK := Aside0.mk (KeepBut.trans b10_0 (KeepBut.of_below hb g none) (.inl rfl)); replace HB := Aside0.mk (below_step b10_9 hb); replace HI0 := Aside0.mk (IsS106.below b10_2 hb); clear hb ho53))
       go_ret
       exact ⟨_, ce_, by refine cN_ ?_; exact Kd.N_mono HO302.out (fun _ hk => hk.1), cI_ HI0.out, cB1_ (IsS106.ge HI0.out), cK_ HK.out⟩
      ·rw [if_neg c47] at H
       exact absurd H (by simp)
     ·rw [if_neg c46] at H
      have c46b0 : (t283 == 3) = false := beq_eq_false_iff_ne.mpr c46
      have c46b1 : (t283 != 3) = true := bne_iff_ne.mpr c46
      simp only [Option.some.injEq, Prod.mk.injEq] at H
      obtain ⟨rfl, rfl⟩ := H
      go_enter Try.func65, Try.ntmps65
      go_wp2_with (first | (refine gl_ 103 (some 9) Try.func103 #[.pointer (some ⟨g, 0, none⟩), .int .i64 a1] ?_; (with_reducible refine (spec_l2Draw.calls k g s0_0 s0_1 a1 t277 t280 w0 _ ?side1 ?side2 A3.out).mono ?_); (case side1 => exact cI_ HI0.out); (case side2 => exact cB1_ (IsS106.ge HI0.out)); rintro e w54 ⟨v278, rfl, ho0, hi, hb, hk⟩; refine ⟨_, rfl, ?_⟩; have HO279 := Aside0.mk (Kd.N_lower (Kd.N_mono (ok' := fun k_ => (w.heap.size ≤ k_) ∧ k_ ≠ g) ho0 (fun k_ hk_ => ⟨(Nat.le_trans (keep_size (w := w) (g := g) (row := none) b10_0) hk_), (IsS106.fresh b10_2 k_ hk_)⟩)) (keep_size (w := w) (g := g) (row := none) b10_0)); replace HK := Aside0.mk (KeepBut.trans b10_0 hk (.inl rfl)); replace HB := Aside0.mk (hb); replace HI0 := Aside0.mk (hi); (try clear hb); (try clear hb2); (try clear hk); (try clear hi); (try clear ho0); obtain ⟨Ao55, co55, eo55⟩ := Kd.N_slice HO279.out; subst eo55) | (refine gl_ 66 (some 17) Try.func66 #[.pointer (some ⟨g, 0, none⟩), .int .i64 (t277.length : Int)] ?_; (with_reducible refine (spec_l1Next.calls g s0_0 t280 (t277.length : Int) t281 t282 w0 _ ?side1 ?side2 A7.out).mono ?_); (case side1 => exact cI_ HI0.out); (case side2 => exact cB1_ (IsS106.ge HI0.out)); rintro e w56 ⟨rfl, hi, hb, hk⟩; refine ⟨_, rfl, ?_⟩; replace HO279 := Aside0.mk (Kd.N_mono (Kd.N_keep (Kd.N_mono (ok := fun k_ => (((w.heap.size ≤ k_)) ∧ k_ ≠ g)) b10_3 (fun k_ hk_ => (⟨hk_, hk_.2⟩ : _ ∧ k_ ≠ g))) hk (fun _ h => h.2)) (fun _ h => h.1)); replace HK := Aside0.mk (KeepBut.trans b10_0 hk (.inl rfl)); replace HB := Aside0.mk (hb); replace HI0 := Aside0.mk (hi); (try clear hb); (try clear hb2); (try clear hk); (try clear hi)) | (refine gl_ 66 (some 19) Try.func66 #[.pointer (some ⟨g, 0, none⟩), .int .i64 20] ?_; (with_reducible refine (spec_l1Next.calls g s0_0 t282 20 t283 t284 w0 _ ?side1 ?side2 A8.out).mono ?_); (case side1 => exact cI_ HI0.out); (case side2 => exact cB1_ (IsS106.ge HI0.out)); rintro e w57 ⟨rfl, hi, hb, hk⟩; refine ⟨_, rfl, ?_⟩; replace HO279 := Aside0.mk (Kd.N_mono (Kd.N_keep (Kd.N_mono (ok := fun k_ => (((w.heap.size ≤ k_)) ∧ k_ ≠ g)) b10_3 (fun k_ hk_ => (⟨hk_, hk_.2⟩ : _ ∧ k_ ≠ g))) hk (fun _ h => h.2)) (fun _ h => h.1)); replace HK := Aside0.mk (KeepBut.trans b10_0 hk (.inl rfl)); replace HB := Aside0.mk (hb); replace HI0 := Aside0.mk (hi); (try clear hb); (try clear hb2); (try clear hk); (try clear hi)))
      go_ret
      exact ⟨_, ce_, by refine cN_ ?_; exact Kd.N_mono HO279.out (fun _ hk => hk.1), cI_ HI0.out, cB1_ (IsS106.ge HI0.out), cK_ HK.out⟩

/-! ### spec_l2Negate: function 113 -/
def spec_l2Negate.l0 : Nat → List (S42) → Int → Option ((List (S42)))
 | 0, _, _ => none
 | k + 1, x3, x4 => if x4 < (x3.length : Int) then (if 0 ≤ x4 then (spec_l2Negate.l0 k (x3.set (x4 : Int).toNat (⟨(rd_T42 x3 x4).f0, wrap64 (-((rd_T42 x3 x4).f1))⟩ : S42)) (wrap64 (x4 + 1))) else (none)) else (some x3)
def spec_l2Negate.f (k : Nat) (l0 : List (S42)) : Option ((List (S42))) := (spec_l2Copy.f k l0).bind fun t303 => (spec_l2Negate.l0 k t303 0)
theorem spec_l2Negate.mono_l : ∀ k, (∀ y0 y1, LeO (spec_l2Negate.l0 k y0 y1) (spec_l2Negate.l0 (k + 1) y0 y1))
 | 0 => fun _ _ r h => by simp [spec_l2Negate.l0] at h
 | k + 1 => by
  have ih0 := spec_l2Negate.mono_l k
  ·intro y0 y1
   unfold spec_l2Negate.l0
   repeat' first
   | (with_reducible exact ih0 _ _)
   | (with_reducible exact spec_l2Copy.mono _ _)
   | (with_reducible exact LeO.refl _)
   | (with_reducible exact LeO.none _)
   | (with_reducible refine LeO.ite ?_ ?_)
   | (with_reducible refine LeO.bind ?_ (fun _ => ?_))
   | exact ih0 _ _
   | exact spec_l2Copy.mono _ _
   | exact LeO.none _
   | refine LeO.ite ?_ ?_
   | refine LeO.bind ?_ (fun _ => ?_)
theorem spec_l2Negate.mono : ∀ a0 k, LeO (spec_l2Negate.f k a0) (spec_l2Negate.f (k + 1) a0) := by
 intro a0 k
 have ih0 := spec_l2Negate.mono_l k
 unfold spec_l2Negate.f
 repeat' first
   | (with_reducible exact ih0 _ _)
   | (with_reducible exact spec_l2Copy.mono _ _)
   | (with_reducible exact LeO.refl _)
   | (with_reducible exact LeO.none _)
   | (with_reducible refine LeO.ite ?_ ?_)
   | (with_reducible refine LeO.bind ?_ (fun _ => ?_))
   | exact ih0 _ _
   | exact spec_l2Copy.mono _ _
   | exact LeO.none _
   | refine LeO.ite ?_ ?_
   | refine LeO.bind ?_ (fun _ => ?_)
set_option maxHeartbeats 8000000 in
set_option maxRecDepth 100000 in
theorem spec_l2Negate.calls (k : Nat) (A0 : Option Addr) (c0 : Nat) (l0 : List (S42)) (r : List (S42)) (w : World) (hr0 : Kd.C k42 w A0 l0.length l0) (hc0 : l0.length ≤ c0) (h : spec_l2Negate.f k l0 = some r) :
  Calls Try.prog 113 #[.slice A0 l0.length c0] w fun e w' => ∃ v0_ : Value, e = .returned (v0_) ∧ Kd.S k42 42 w' w.heap.size (fun _ => True) v0_ r ∧ Below w.heap.size w w' := by
 have HR0 := Aside0.mk hr0
 have HC0 := Aside0.mk hc0
 clear hr0 hc0
 have HB := Aside0.mk (Below.refl w.heap.size w)
 have H : ((spec_l2Copy.f k l0).bind fun t303 => (spec_l2Negate.l0 k t303 0)) = some r := h
 clear h
 obtain ⟨t303, A2, H⟩ := bnd_ H
 try dsimp only at H
 have H' := Aside0.mk H
 clear H
 go_enter Try.func113, Try.ntmps113
 go_wp2_with (first | (refine gl_ 111 (some 6) Try.func111 #[.slice A0 l0.length c0] ?_; (with_reducible refine (spec_l2Copy.calls k _ _ l0 t303 _ ?side1 ?side2 A2.out).mono ?_); (case side1 => exact cC_ HR0.out); (case side2 => exact HC0.out); rintro e w3 ⟨v304, rfl, ho0, hb⟩; refine ⟨_, rfl, ?_⟩; have HO305 := Aside0.mk (Kd.S_lower ho0 (below_size cB0_)); replace HB := Aside0.mk (below_step cB0_ hb); (try clear hb); (try clear hb2); (try clear hk); (try clear hi); (try clear ho0)))
 go_loopg [4] k (fun kq v4 w' => ∃ (x3_1 : List (S42)) (x4_1 : Int), v4 = .int .i64 x4_1 ∧ Aside0 (spec_l2Negate.l0 kq x3_1 x4_1 = some r) ∧ Aside0 (kq ≤ k) ∧ Aside0 (Kd.S k42 42 w' w.heap.size (fun _ => True) v304 x3_1) ∧ Aside0 (Below w.heap.size w w'))
 case atStart => exact ⟨(t303), (0), cs_, H', ⟨Nat.le_refl _⟩, ⟨cS_ HO305.out⟩, ⟨cB0_⟩⟩
 case round =>
  clear H'
  try clear c1
  try clear p2
  obtain ⟨x3_1, x4_1, rfl, HA, HK1, HO_3, HB⟩ := hrel
  cases gk with
  | zero => exact absurd HA.out (by simp [spec_l2Negate.l0])
  | succ k1 =>
   have H := HA.out
   clear HA
   simp only [spec_l2Negate.l0] at H
   by_cases c4 : x4_1 < (x3_1.length : Int)
   ·rw [if_pos c4] at H
    have c4b0 : decide (x4_1 < (x3_1.length : Int)) = true := decide_eq_true c4
    clear c4
    by_cases c5 : 0 ≤ x4_1
    ·rw [if_pos c5] at H
     have c5b0 : decide (0 ≤ x4_1) = true := decide_eq_true c5
     clear c5
     obtain ⟨y307, hy_⟩ : ∃ y_ : List (S42), y_ = (x3_1.set (x4_1 : Int).toNat (⟨(rd_T42 x3_1 x4_1).f0, wrap64 (-((rd_T42 x3_1 x4_1).f1))⟩ : S42)) := ⟨_, rfl⟩
     replace H : (spec_l2Negate.l0 k1 y307 (wrap64 (x4_1 + 1))) = some r := yb_
     have Ny307 := Aside0.mk hy_
     clear hy_
     have H' := Aside0.mk H
     clear H
     obtain ⟨Ao7, co7, eo7⟩ := Kd.S_slice HO_3.out
     subst eo7
     have p306 : 0 ≤ (x4_1 : Int) := of_decide_eq_true ca_
     have q306 : x4_1 < (x3_1.length : Int) := of_decide_eq_true ca_
     obtain ⟨ad306, A306_0, c306_0, e306, hx306_0, hx306_1, hl306_0, hi306_0⟩ := at_T42 (Kd.S_reads' HO_3.out).2.2 x4_1 p306 q306
     cases e306
     obtain ⟨ce306, hce306, hMe306, hcc306⟩ := Kd.S_get HO_3.out z42 x4_1 p306 (by first | exact q306 | exact of_decide_eq_true ca_ | (have e_ := (Kd.S_reads' HO_3.out).1; omega))
     obtain ⟨ve306_0, rfl, ge306_0⟩ := k42_openM hMe306
     have hv306_0 := hcc306 0 _ rfl
     rw [Nat.add_zero] at hv306_0
     replace hv306_0 := Option.some.inj (hv306_0.symm.trans hx306_0)
     rw [hv306_0] at ge306_0
     have HL306_0 := Aside0.mk (show Kd.R (Kd.int .i64) 2 _ _ _ _ ((rd_T42 x3_1 x4_1).f0) from ge306_0)
     clear hv306_0 ge306_0
     clear hcc306 hce306
     have HR306_0 := Aside0.mk hi306_0
     have HC306_0 := Aside0.mk hl306_0
     clear hi306_0 hl306_0
     replace p306 := eq_true p306
     replace q306 := eq_true q306
     have p6 : 0 ≤ (x4_1 : Int) := of_decide_eq_true ca_
     have q6 : (x4_1 : Int) < ((x3_1.length : Int) : Int) := of_decide_eq_true ca_
     obtain ⟨go6, co6, eo6, gb6, gl6, cl6, HG6⟩ := Kd.S_form HO_3.out (by omega)
     (first | cases eo6 | (injection eo6 with ea_ en_ ec_; (first | subst ea_ | (injection ea_ with ea_; subst ea_)); subst ec_; clear en_))
     have GB6 := Aside0.mk gb6
     have GG6 := Aside0.mk HG6
     clear gb6 gl6 HG6
     (first | simp only [add_plain] at hx306_0 | skip)
     (first | simp only [add_plain] at hx306_1 | skip)
     obtain ⟨_, ce6, hcl6, hM6, hcc6, hfr6, _, _⟩ := Kd.S_elem HO_3.out z42 (x4_1 : Int) p6 q6
     obtain ⟨ve6_0, rfl, ge6_0⟩ := k42_openM hM6
     have hx6_0 : wr.cell? ⟨go6, (x4_1 : Int).toNat * 2, none⟩ = some (ve6_0) := hcc6 0 _ rfl
     have hx6_1 : wr.cell? ⟨go6, (x4_1 : Int).toNat * 2 + 1, none⟩ = some (.int .i64 ((rd_T42 x3_1 x4_1).f1)) := hcc6 1 _ rfl
     have hf6_0 : wr.frozen? ⟨go6, (x4_1 : Int).toNat * 2, none⟩ = false := hfr6 0
     have hf6_1 : wr.frozen? ⟨go6, (x4_1 : Int).toNat * 2 + 1, none⟩ = false := hfr6 1
     (try clear hM6); clear hcl6 hcc6 hfr6
     replace p6 := eq_true p6
     replace q6 := eq_true q6
     have HX8 := Aside0.mk (show Kd.S k42 42 wr w.heap.size (fun k_ => ((fun _ => True)) k_ ∧ ¬ ((fun _ => False)) k_) (.slice (some ⟨go6, 0, none⟩) x3_1.length co7) x3_1 from (by refine cS_ ?_; exact Kd.S_mono HO_3.out (fun k_ hk => ⟨trivial, fun e_ => e_⟩)))
     obtain ⟨oki8, ce8, hcl8, hM8, hcc8, hfr8, hoki8, hH8⟩ := Kd.S_elem HX8.out z42 (x4_1 : Int) (of_decide_eq_true ca_) (by have h_ : (x4_1 : Int) < ((x3_1.length : Int) : Int) := of_decide_eq_true ca_; first | exact h_ | (have e_ := (Kd.S_reads' HO_3.out).1; omega) | simpa using h_)
     obtain ⟨ve8_0, rfl, ge8_0⟩ := k42_openM hM8
     have HP8 := Kd.S_seg hH8 (of_decide_eq_true ca_) (by have h_ : (x4_1 : Int) < ((x3_1.length : Int) : Int) := of_decide_eq_true ca_; first | exact h_ | (have e_ := (Kd.S_reads' HO_3.out).1; omega) | simpa using h_) (seg := [.int .i64 (wrap64 (-((rd_T42 x3_1 x4_1).f1)))]) (j := 1) (show 2 ≤ 2 from by decide) (x' := (⟨(rd_T42 x3_1 x4_1).f0, wrap64 (-((rd_T42 x3_1 x4_1).f1))⟩ : S42)) (k42_mkM _ _ _ (⟨(rd_T42 x3_1 x4_1).f0, wrap64 (-((rd_T42 x3_1 x4_1).f1))⟩ : S42) (Kd.R_mono ge8_0 (fun _ h_ => Or.inl h_))) (fun _ hk => hk) (fun k_ hk_ => hk_.elim)
     have hx8_1 := hcc8 1 _ rfl
     (try simp only [show (k42).sz = 2 from rfl, Nat.mul_one, Nat.add_zero] at hx8_1)
     have hf8_1 := hfr8 1
     (try simp only [show (k42).sz = 2 from rfl, Nat.mul_one, Nat.add_zero] at hf8_1)
     (try clear hM8); clear hcl8 hcc8 hfr8 hoki8 hH8
     go_wp2_with (first | ((with_reducible refine gate_store (t := 2) (p := 22) rfl ?_); refine store_event (t := 2) (p := 22) (v := ?vo_w9) (w1 := (wr.setCell ⟨go6, (x4_1 : Int).toNat * 2 + 1, none⟩ (.int .i64 (wrap64 (-((rd_T42 x3_1 x4_1).f1)))))) ?hg ?ho ?hn ?hr ?_; (case ho => rfl); (case hg => rfl); (case hn => rfl); (case hr => first | (go_simp; done) | (go_simp; rfl)); intro w9 hw; have hg : wr.grownBy w9 (some go6) := (by rw [hw]; exact HP8.2); have hp_ : Kd.S k42 42 w9 w.heap.size (fun _ => True) (.slice (some ⟨go6, 0, none⟩) x3_1.length co7) y307 := (by rw [hw, Ny307.out]; exact HP8.1); clear HP8; replace HO_3 := Aside0.mk (hp_); replace HL306_0 := Aside0.mk (Kd.R_after (v := (.slice (some ⟨go6, 0, none⟩) x3_1.length co7)) (v1 := (.slice (some ⟨go6, 0, none⟩) x3_1.length co7)) (ok := (fun _ => True)) (cR_ HL306_0.out) hg (.inl rfl)); replace HB := Aside0.mk ((by rw [hw]; exact below_set (HB.out) GB6.out : Below w.heap.size w w9)); clear hg hw hp_))
     go_roundg k1
     case measure => have := HK1.out; omega
     case rel => exact ⟨(y307), (wrap64 (x4_1 + 1)), cs_, H', ⟨co_ HK1.out⟩, ⟨cS_ HO_3.out⟩, ⟨cB0_⟩⟩
    ·rw [if_neg c5] at H
     exact absurd H (by simp)
   ·rw [if_neg c4] at H
    have c4b0 : decide (x4_1 < (x3_1.length : Int)) = false := decide_eq_false c4
    clear c4
    obtain rfl := Option.some.inj H
    obtain ⟨Ao10, co10, eo10⟩ := Kd.S_slice HO_3.out
    subst eo10
    go_wp2
    go_ret
    exact ⟨_, ce_, cS_ HO_3.out, cB0_⟩

/-! ### spec_l2Two: function 81 -/
def spec_l2Two.j0 : Nat → List (S42) → List (S42) → List Int → Int → Option ((List (S42)) × (List (S42)))
 | 0, _, _, _, _ => none
 | k + 1, x6, x7, x311000, x311001 => (spec_l1Chance.f x311000 x311001 8).bind fun bt326 => (if bt326.1 = true then ((spec_SetFault.f k x6).bind fun t328 => (if t328 = 0 then ((spec_l2Negate.f k x6).bind fun t329 => (some (x6, t329))) else (some (x6, x7)))) else (some (x6, x7)))
def spec_l2Two.f (k : Nat) (l0 : List Int) : Option ((List (S42)) × (List (S42))) := (spec_l1Source.f l0).bind fun bt308 => ((spec_l1Next.f bt308.1 bt308.2 3).bind fun bt311 => ((spec_l2Bent.f k bt308.1 bt311.2 bt311.1).bind fun bt313 => ((spec_l2Bent.f k bt308.1 bt313.2 bt311.1).bind fun bt317 => ((spec_l1Chance.f bt308.1 bt317.2 4).bind fun bt321 => (if bt321.1 = true then ((spec_l2Copy.f k bt313.1).bind fun t323 => (spec_l2Two.j0 k bt313.1 t323 bt308.1 bt321.2)) else (spec_l2Two.j0 k bt313.1 bt317.1 bt308.1 bt321.2))))))
theorem spec_l2Two.mono_l : ∀ k, (∀ y0 y1 y2 y3, LeO (spec_l2Two.j0 k y0 y1 y2 y3) (spec_l2Two.j0 (k + 1) y0 y1 y2 y3))
 | 0 => fun _ _ _ _ r h => by simp [spec_l2Two.j0] at h
 | k + 1 => by
  have ih0 := spec_l2Two.mono_l k
  ·intro y0 y1 y2 y3
   unfold spec_l2Two.j0
   repeat' first
   | (with_reducible exact ih0 _ _ _ _)
   | (with_reducible exact spec_SetFault.mono _ _)
   | (with_reducible exact spec_l2Bent.mono _ _ _ _)
   | (with_reducible exact spec_l2Copy.mono _ _)
   | (with_reducible exact spec_l2Negate.mono _ _)
   | (with_reducible exact LeO.refl _)
   | (with_reducible exact LeO.none _)
   | (with_reducible refine LeO.ite ?_ ?_)
   | (with_reducible refine LeO.bind ?_ (fun _ => ?_))
   | exact ih0 _ _ _ _
   | exact spec_SetFault.mono _ _
   | exact spec_l2Bent.mono _ _ _ _
   | exact spec_l2Copy.mono _ _
   | exact spec_l2Negate.mono _ _
   | exact LeO.none _
   | refine LeO.ite ?_ ?_
   | refine LeO.bind ?_ (fun _ => ?_)
theorem spec_l2Two.mono : ∀ a0 k, LeO (spec_l2Two.f k a0) (spec_l2Two.f (k + 1) a0) := by
 intro a0 k
 have ih0 := spec_l2Two.mono_l k
 unfold spec_l2Two.f
 repeat' first
   | (with_reducible exact ih0 _ _ _ _)
   | (with_reducible exact spec_SetFault.mono _ _)
   | (with_reducible exact spec_l2Bent.mono _ _ _ _)
   | (with_reducible exact spec_l2Copy.mono _ _)
   | (with_reducible exact spec_l2Negate.mono _ _)
   | (with_reducible exact LeO.refl _)
   | (with_reducible exact LeO.none _)
   | (with_reducible refine LeO.ite ?_ ?_)
   | (with_reducible refine LeO.bind ?_ (fun _ => ?_))
   | exact ih0 _ _ _ _
   | exact spec_SetFault.mono _ _
   | exact spec_l2Bent.mono _ _ _ _
   | exact spec_l2Copy.mono _ _
   | exact spec_l2Negate.mono _ _
   | exact LeO.none _
   | refine LeO.ite ?_ ?_
   | refine LeO.bind ?_ (fun _ => ?_)
set_option maxHeartbeats 8000000 in
set_option maxRecDepth 100000 in
theorem spec_l2Two.calls (k : Nat) (A0 : Option Addr) (c0 : Nat) (l0 : List Int) (r1 : List (S42)) (r2 : List (S42)) (w : World) (hr0 : Kd.C (Kd.int .u8) w A0 l0.length l0) (hc0 : l0.length ≤ c0) (h : spec_l2Two.f k l0 = some (r1, r2)) :
  Calls Try.prog 81 #[.slice A0 l0.length c0] w fun e w' => ∃ v0_ v1_ : Value, e = .returned (.tuple #[v0_, v1_]) ∧ Kd.N k42 42 w' w.heap.size (fun k_ => (w.heap.size ≤ k_) ∧ some k_ ≠ (v1_ : Value).ownBlock) v0_ r1 ∧ Kd.N k42 42 w' w.heap.size (fun k_ => (w.heap.size ≤ k_) ∧ some k_ ≠ (v0_ : Value).ownBlock) v1_ r2 ∧ Below w.heap.size w w' := by
 have HR0 := Aside0.mk hr0
 have HC0 := Aside0.mk hc0
 clear hr0 hc0
 have HB := Aside0.mk (Below.refl w.heap.size w)
 have H : ((spec_l1Source.f l0).bind fun bt308 => ((spec_l1Next.f bt308.1 bt308.2 3).bind fun bt311 => ((spec_l2Bent.f k bt308.1 bt311.2 bt311.1).bind fun bt313 => ((spec_l2Bent.f k bt308.1 bt313.2 bt311.1).bind fun bt317 => ((spec_l1Chance.f bt308.1 bt317.2 4).bind fun bt321 => (if bt321.1 = true then ((spec_l2Copy.f k bt313.1).bind fun t323 => (spec_l2Two.j0 k bt313.1 t323 bt308.1 bt321.2)) else (spec_l2Two.j0 k bt313.1 bt317.1 bt308.1 bt321.2))))))) = some (r1, r2) := h
 clear h
 obtain ⟨⟨t308, t309⟩, A2, H⟩ := bnd_ H
 try dsimp only at H
 obtain ⟨⟨t311, t312⟩, A3, H⟩ := bnd_ H
 try dsimp only at H
 obtain ⟨⟨t313, t316⟩, A4, H⟩ := bnd_ H
 try dsimp only at H
 obtain ⟨⟨t317, t320⟩, A5, H⟩ := bnd_ H
 try dsimp only at H
 obtain ⟨⟨t321, t322⟩, A6, H⟩ := bnd_ H
 try dsimp only at H
 have HC7 := Aside0.mk H
 clear H
 go_enter Try.func81, Try.ntmps81
 go_upto_if 19 with (first | (refine gl_ 64 (some 9) Try.func64 #[.slice A0 l0.length c0] ?_; (with_reducible refine (spec_l1Source.calls _ _ l0 t308 t309 w _ ?side1 ?side2 ?side3 A2.out).mono ?_); (case side1 => exact cB0_); (case side2 => exact HR0.out); (case side3 => exact HC0.out); rintro e w8 ⟨g310, rfl, hi, hb, hb2⟩; refine ⟨_, rfl, ?_⟩; replace HB := Aside0.mk (hb); have HI310 := Aside0.mk (hi); (try clear hb); (try clear hb2); (try clear hk); (try clear hi)) | (refine gl_ 66 (some 11) Try.func66 #[.pointer (some ⟨g310, 0, none⟩), .int .i64 3] ?_; (with_reducible refine (spec_l1Next.calls g310 t308 t309 3 t311 t312 w _ ?side1 ?side2 A3.out).mono ?_); (case side1 => exact cI_ HI310.out); (case side2 => exact cB1_ (IsS106.ge HI310.out)); rintro e w9 ⟨rfl, hi, hb, hk⟩; refine ⟨_, rfl, ?_⟩; replace HB := Aside0.mk (hb); replace HI310 := Aside0.mk (hi); (try clear hb); (try clear hb2); (try clear hk); (try clear hi)) | (refine gl_ 65 (some 14) Try.func65 #[.pointer (some ⟨g310, 0, none⟩), .int .i64 t311] ?_; (with_reducible refine (spec_l2Bent.calls k g310 t308 t312 t311 t313 t316 w _ ?side1 ?side2 A4.out).mono ?_); (case side1 => exact cI_ HI310.out); (case side2 => exact cB1_ (IsS106.ge HI310.out)); rintro e w10 ⟨v314, rfl, ho0, hi, hb, hk⟩; refine ⟨_, rfl, ?_⟩; have HO315 := Aside0.mk (Kd.N_lower (Kd.N_mono (ok' := fun k_ => (w.heap.size ≤ k_) ∧ k_ ≠ g310) ho0 (fun k_ hk_ => ⟨(Nat.le_trans (below_size b10_4) hk_), (IsS106.fresh (cI_ HI310.out) k_ hk_)⟩)) (below_size b10_4)); replace HB := Aside0.mk (hb); replace HI310 := Aside0.mk (hi); (try clear hb); (try clear hb2); (try clear hk); (try clear hi); (try clear ho0)) | (refine gl_ 65 (some 17) Try.func65 #[.pointer (some ⟨g310, 0, none⟩), .int .i64 t311] ?_; (with_reducible refine (spec_l2Bent.calls k g310 t308 t316 t311 t317 t320 w _ ?side1 ?side2 A5.out).mono ?_); (case side1 => exact cI_ HI310.out); (case side2 => exact cB1_ (IsS106.ge HI310.out)); rintro e w11 ⟨v318, rfl, ho0, hi, hb, hk⟩; refine ⟨_, rfl, ?_⟩; have HO319 := Aside0.mk (Kd.N_lower (Kd.N_mono (ok' := fun k_ => (w.heap.size ≤ k_) ∧ some k_ ≠ (v314 : Value).ownBlock ∧ k_ ≠ g310) ho0 (fun k_ hk_ => ⟨(Nat.le_trans (below_size b10_4) hk_), (Kd.fresh' (Kd.N_lt (cN_ HO315.out)) k_ hk_), (IsS106.fresh (cI_ HI310.out) k_ hk_)⟩)) (below_size b10_4)); replace HO315 := Aside0.mk (Kd.N_mono (Kd.N_told (Kd.N_oldK (Kd.N_mono (ok := fun k_ => (((w.heap.size ≤ k_)) ∧ k_ ≠ g310)) (cN_ HO315.out) (fun k_ hk_ => (⟨hk_, hk_.2⟩ : _ ∧ k_ ≠ g310))) hk) (Kd.N_base ho0)) (fun _ h_ => h_.1)); replace HB := Aside0.mk (hb); replace HI310 := Aside0.mk (hi); (try clear hb); (try clear hb2); (try clear hk); (try clear hi); (try clear ho0)) | (refine gl_ 67 (some 19) Try.func67 #[.pointer (some ⟨g310, 0, none⟩), .int .i64 4] ?_; (with_reducible refine (spec_l1Chance.calls g310 t308 t320 4 t321 t322 w _ ?side1 ?side2 A6.out).mono ?_); (case side1 => exact cI_ HI310.out); (case side2 => exact cB1_ (IsS106.ge HI310.out)); rintro e w12 ⟨rfl, hi, hb, hk⟩; refine ⟨_, rfl, ?_⟩; replace HO315 := Aside0.mk (Kd.N_mono (Kd.N_keep (Kd.N_mono (ok := fun k_ => ((((w.heap.size ≤ k_)) ∧ k_ ≠ g310) ∧ some k_ ≠ (v318 : Value).ownBlock)) (cN_ HO315.out) (fun k_ hk_ => (⟨hk_, hk_.1.2⟩ : _ ∧ k_ ≠ g310))) hk (fun _ h => h.2)) (fun _ h => h.1)); replace HO319 := Aside0.mk (Kd.N_mono (Kd.N_keep (Kd.N_mono (ok := fun k_ => (((w.heap.size ≤ k_)) ∧ (some k_ ≠ (v314 : Value).ownBlock ∧ k_ ≠ g310))) (cN_ HO319.out) (fun k_ hk_ => (⟨hk_, hk_.2.2⟩ : _ ∧ k_ ≠ g310))) hk (fun _ h => h.2)) (fun _ h => h.1)); replace HB := Aside0.mk (hb); replace HI310 := Aside0.mk (hi); (try clear hb); (try clear hb2); (try clear hk); (try clear hi)))
 (try simp only [Act.put, List.setIfInBounds_toArray, List.set_cons_zero, List.set_cons_succ])
 go_cut [7] (fun v7 wc => ∃ (kq : Nat) (x7_6 : List (S42)), Aside0 (spec_l2Two.j0 kq t313 x7_6 t308 t322 = some (r1, r2)) ∧ Aside0 (kq ≤ k) ∧ Aside0 (Kd.N k42 42 wc w.heap.size (fun k_ => (w.heap.size ≤ k_) ∧ some k_ ≠ (v7 : Value).ownBlock ∧ k_ ≠ g310) v314 t313) ∧ Aside0 (Kd.N k42 42 wc w.heap.size (fun k_ => (w.heap.size ≤ k_) ∧ some k_ ≠ (v314 : Value).ownBlock ∧ k_ ≠ g310) v7 x7_6) ∧ Aside0 (IsS106 w wc g310 t308 t322) ∧ Aside0 (Below w.heap.size w wc))
 case first =>
  have H := HC7.out
  clear HC7
  by_cases c13 : t321 = true
  ·subst c13
   rw [if_pos rfl] at H
   obtain ⟨t323, A14, H⟩ := bnd_ H
   try dsimp only at H
   have H' := Aside0.mk H
   clear H
   obtain ⟨Ao15, co15, eo15⟩ := Kd.N_slice HO315.out
   subst eo15
   go_wp2_with (first | (refine gl_ 111 (some 21) Try.func111 #[.slice Ao15 t313.length co15] ?_; (with_reducible refine (spec_l2Copy.calls k _ _ t313 t323 _ ?side1 ?side2 A14.out).mono ?_); (case side1 => exact cC_ ((Kd.N_reads' HO315.out).2.2)); (case side2 => exact (Kd.N_reads' HO315.out).2.1); rintro e w16 ⟨v324, rfl, ho0, hb⟩; refine ⟨_, rfl, ?_⟩; have HO325 := Aside0.mk (Kd.N_lower (Kd.N_mono (ok' := fun k_ => (w.heap.size ≤ k_) ∧ some k_ ≠ (.slice Ao15 t313.length co15 : Value).ownBlock ∧ some k_ ≠ (v318 : Value).ownBlock ∧ k_ ≠ g310) (Kd.S_N (Kd.S_bound ho0)) (fun k_ hk_ => ⟨(Nat.le_trans (below_size b10_4) hk_.2.1), (Kd.fresh' (Kd.N_lt (cN_ HO315.out)) k_ hk_.2.1), (Kd.fresh' (Kd.N_lt (cN_ HO319.out)) k_ hk_.2.1), (IsS106.fresh (cI_ HI310.out) k_ hk_.2.1)⟩)) (below_size b10_4)); replace HO315 := Aside0.mk (Kd.N_elder' (cN_ HO315.out) (Kd.S_base ho0) hb); replace HO319 := Aside0.mk (Kd.N_elder' (cN_ HO319.out) (Kd.S_base ho0) hb); replace HB := Aside0.mk (below_step b10_4 hb); replace HI310 := Aside0.mk (IsS106.below (cI_ HI310.out) hb); (try clear hb); (try clear hb2); (try clear hk); (try clear hi); (try clear ho0)))
   go_meet
   case rel => exact ⟨_, (t323), H', ⟨cm_⟩, ⟨by refine cN_ ?_; exact Kd.N_mono HO315.out (fun _ hk => ⟨hk.1.1.1, ⟨hk.2, hk.1.1.2⟩⟩)⟩, ⟨by refine cN_ ?_; exact Kd.N_mono HO325.out (fun _ hk => ⟨hk.1, ⟨hk.2.1, hk.2.2.2⟩⟩)⟩, ⟨cI_ HI310.out⟩, ⟨cB1_ (IsS106.ge HI310.out)⟩⟩
  ·replace c13 := Bool.eq_false_iff.mpr c13
   subst c13
   rw [if_neg (show ¬ (false = true) by decide)] at H
   have H' := Aside0.mk H
   clear H
   go_wp2
   go_meet
   case rel => exact ⟨_, (t317), H', ⟨cm_⟩, ⟨by refine cN_ ?_; exact Kd.N_mono HO315.out (fun _ hk => ⟨hk.1.1, ⟨hk.2, hk.1.2⟩⟩)⟩, ⟨cN_ HO319.out⟩, ⟨cI_ HI310.out⟩, ⟨cB1_ (IsS106.ge HI310.out)⟩⟩
 case rest =>
  clear HC7
  try clear c1
  try clear p2
  try clear c6
  try clear c8
  try clear c11
  try clear c13
  obtain ⟨kq, x7_6, HA, HJ6, HO_6, HO_7, HI310, HB⟩ := hcut
  cases kq with
  | zero => exact absurd HA.out (by simp [spec_l2Two.j0])
  | succ kj6 =>
   have H := HA.out
   clear HA
   simp only [spec_l2Two.j0] at H
   obtain ⟨⟨t326, t327⟩, A17, H⟩ := bnd_ H
   try dsimp only at H
   by_cases c18 : t326 = true
   ·subst c18
    rw [if_pos rfl] at H
    obtain ⟨t328, A19, H⟩ := bnd_ H
    try dsimp only at H
    by_cases c20 : t328 = 0
    ·rw [if_pos c20] at H
     have c20b0 : (t328 == 0) = true := beq_iff_eq.mpr c20
     have c20b1 : (t328 != 0) = false := bne_eq_false_iff_eq.mpr c20
     clear c20
     obtain ⟨t329, A21, H⟩ := bnd_ H
     try dsimp only at H
     simp only [Option.some.injEq, Prod.mk.injEq] at H
     obtain ⟨rfl, rfl⟩ := H
     go_wp2_with (first | (refine gl_ 67 (some 23) Try.func67 #[.pointer (some ⟨g310, 0, none⟩), .int .i64 8] ?_; (with_reducible refine (spec_l1Chance.calls g310 t308 t322 8 true t327 w _ ?side1 ?side2 A17.out).mono ?_); (case side1 => exact cI_ HI310.out); (case side2 => exact cB1_ (IsS106.ge HI310.out)); rintro e w22 ⟨rfl, hi, hb, hk⟩; refine ⟨_, rfl, ?_⟩; replace HO_6 := Aside0.mk (Kd.N_mono (Kd.N_keep (Kd.N_mono (ok := fun k_ => (((w.heap.size ≤ k_)) ∧ (some k_ ≠ (u7 : Value).ownBlock ∧ k_ ≠ g310))) (cN_ HO_6.out) (fun k_ hk_ => (⟨hk_, hk_.2.2⟩ : _ ∧ k_ ≠ g310))) hk (fun _ h => h.2)) (fun _ h => h.1)); replace HO_7 := Aside0.mk (Kd.N_mono (Kd.N_keep (Kd.N_mono (ok := fun k_ => (((w.heap.size ≤ k_)) ∧ (some k_ ≠ (v314 : Value).ownBlock ∧ k_ ≠ g310))) (cN_ HO_7.out) (fun k_ hk_ => (⟨hk_, hk_.2.2⟩ : _ ∧ k_ ≠ g310))) hk (fun _ h => h.2)) (fun _ h => h.1)); replace HB := Aside0.mk (hb); replace HI310 := Aside0.mk (hi); (try clear hb); (try clear hb2); (try clear hk); (try clear hi); obtain ⟨Ao23, co23, eo23⟩ := Kd.N_slice HO_6.out; subst eo23) | (go_at_call 55; (with_reducible refine (spec_SetFault.calls kj6 _ _ t313 t328 _ ?side1 ?side2 A19.out).mono ?_); (case side1 => exact cC_ ((Kd.N_reads' HO_6.out).2.2)); (case side2 => exact (Kd.N_reads' HO_6.out).2.1); rintro e w' ⟨rfl, ⟨nd, rfl⟩⟩) | (refine gl_ 113 (some 30) Try.func113 #[.slice Ao23 t313.length co23] ?_; (with_reducible refine (spec_l2Negate.calls kj6 _ _ t313 t329 _ ?side1 ?side2 A21.out).mono ?_); (case side1 => exact cC_ ((Kd.N_reads' HO_6.out).2.2)); (case side2 => exact (Kd.N_reads' HO_6.out).2.1); rintro e w24 ⟨v330, rfl, ho0, hb⟩; refine ⟨_, rfl, ?_⟩; have HO331 := Aside0.mk (Kd.N_lower (Kd.N_mono (ok' := fun k_ => (w.heap.size ≤ k_) ∧ some k_ ≠ (.slice Ao23 t313.length co23 : Value).ownBlock ∧ some k_ ≠ (u7 : Value).ownBlock ∧ k_ ≠ g310) (Kd.S_N (Kd.S_bound ho0)) (fun k_ hk_ => ⟨(Nat.le_trans (below_size b10_4) hk_.2.1), (Kd.fresh' (Kd.N_lt (cN_ HO_6.out)) k_ hk_.2.1), (Kd.fresh' (Kd.N_lt (cN_ HO_7.out)) k_ hk_.2.1), (IsS106.fresh (cI_ HI310.out) k_ hk_.2.1)⟩)) (below_size b10_4)); replace HO_6 := Aside0.mk (Kd.N_elder' (cN_ HO_6.out) (Kd.S_base ho0) hb); replace HO_7 := Aside0.mk (Kd.N_elder' (cN_ HO_7.out) (Kd.S_base ho0) hb); replace HB := Aside0.mk (below_step b10_4 hb); replace HI310 := Aside0.mk (IsS106.below (cI_ HI310.out) hb); (try clear hb); (try clear hb2); (try clear hk); (try clear hi); (try clear ho0)))
     go_ret2
     exact ⟨_, _, ce_, by refine cN_ ?_; exact Kd.N_mono HO_6.out (fun _ hk => ⟨hk.1.1, hk.2⟩), by refine cN_ ?_; exact Kd.N_mono HO331.out (fun _ hk => ⟨hk.1, hk.2.1⟩), cB1_ (IsS106.ge HI310.out)⟩
    ·rw [if_neg c20] at H
     have c20b0 : (t328 == 0) = false := beq_eq_false_iff_ne.mpr c20
     have c20b1 : (t328 != 0) = true := bne_iff_ne.mpr c20
     simp only [Option.some.injEq, Prod.mk.injEq] at H
     obtain ⟨rfl, rfl⟩ := H
     go_wp2_with (first | (refine gl_ 67 (some 23) Try.func67 #[.pointer (some ⟨g310, 0, none⟩), .int .i64 8] ?_; (with_reducible refine (spec_l1Chance.calls g310 t308 t322 8 true t327 w _ ?side1 ?side2 A17.out).mono ?_); (case side1 => exact cI_ HI310.out); (case side2 => exact cB1_ (IsS106.ge HI310.out)); rintro e w25 ⟨rfl, hi, hb, hk⟩; refine ⟨_, rfl, ?_⟩; replace HO_6 := Aside0.mk (Kd.N_mono (Kd.N_keep (Kd.N_mono (ok := fun k_ => (((w.heap.size ≤ k_)) ∧ (some k_ ≠ (u7 : Value).ownBlock ∧ k_ ≠ g310))) (cN_ HO_6.out) (fun k_ hk_ => (⟨hk_, hk_.2.2⟩ : _ ∧ k_ ≠ g310))) hk (fun _ h => h.2)) (fun _ h => h.1)); replace HO_7 := Aside0.mk (Kd.N_mono (Kd.N_keep (Kd.N_mono (ok := fun k_ => (((w.heap.size ≤ k_)) ∧ (some k_ ≠ (v314 : Value).ownBlock ∧ k_ ≠ g310))) (cN_ HO_7.out) (fun k_ hk_ => (⟨hk_, hk_.2.2⟩ : _ ∧ k_ ≠ g310))) hk (fun _ h => h.2)) (fun _ h => h.1)); replace HB := Aside0.mk (hb); replace HI310 := Aside0.mk (hi); (try clear hb); (try clear hb2); (try clear hk); (try clear hi); obtain ⟨Ao26, co26, eo26⟩ := Kd.N_slice HO_6.out; subst eo26) | (go_at_call 55; (with_reducible refine (spec_SetFault.calls kj6 _ _ t313 t328 _ ?side1 ?side2 A19.out).mono ?_); (case side1 => exact cC_ ((Kd.N_reads' HO_6.out).2.2)); (case side2 => exact (Kd.N_reads' HO_6.out).2.1); rintro e w' ⟨rfl, ⟨nd, rfl⟩⟩))
     go_ret2
     exact ⟨_, _, ce_, by refine cN_ ?_; exact Kd.N_mono HO_6.out (fun _ hk => ⟨hk.1, hk.2.1⟩), by refine cN_ ?_; exact Kd.N_mono HO_7.out (fun _ hk => ⟨hk.1, hk.2.1⟩), cB1_ (IsS106.ge HI310.out)⟩
   ·replace c18 := Bool.eq_false_iff.mpr c18
    subst c18
    rw [if_neg (show ¬ (false = true) by decide)] at H
    simp only [Option.some.injEq, Prod.mk.injEq] at H
    obtain ⟨rfl, rfl⟩ := H
    go_wp2_with (first | (refine gl_ 67 (some 23) Try.func67 #[.pointer (some ⟨g310, 0, none⟩), .int .i64 8] ?_; (with_reducible refine (spec_l1Chance.calls g310 t308 t322 8 false t327 w _ ?side1 ?side2 A17.out).mono ?_); (case side1 => exact cI_ HI310.out); (case side2 => exact cB1_ (IsS106.ge HI310.out)); rintro e w27 ⟨rfl, hi, hb, hk⟩; refine ⟨_, rfl, ?_⟩; replace HO_6 := Aside0.mk (Kd.N_mono (Kd.N_keep (Kd.N_mono (ok := fun k_ => (((w.heap.size ≤ k_)) ∧ (some k_ ≠ (u7 : Value).ownBlock ∧ k_ ≠ g310))) (cN_ HO_6.out) (fun k_ hk_ => (⟨hk_, hk_.2.2⟩ : _ ∧ k_ ≠ g310))) hk (fun _ h => h.2)) (fun _ h => h.1)); replace HO_7 := Aside0.mk (Kd.N_mono (Kd.N_keep (Kd.N_mono (ok := fun k_ => (((w.heap.size ≤ k_)) ∧ (some k_ ≠ (v314 : Value).ownBlock ∧ k_ ≠ g310))) (cN_ HO_7.out) (fun k_ hk_ => (⟨hk_, hk_.2.2⟩ : _ ∧ k_ ≠ g310))) hk (fun _ h => h.2)) (fun _ h => h.1)); replace HB := Aside0.mk (hb); replace HI310 := Aside0.mk (hi); (try clear hb); (try clear hb2); (try clear hk); (try clear hi)))
    go_ret2
    exact ⟨_, _, ce_, by refine cN_ ?_; exact Kd.N_mono HO_6.out (fun _ hk => ⟨hk.1, hk.2.1⟩), by refine cN_ ?_; exact Kd.N_mono HO_7.out (fun _ hk => ⟨hk.1, hk.2.1⟩), cB1_ (IsS106.ge HI310.out)⟩

/-! ### spec_DrawAddSets: function 35 -/
def spec_DrawAddSets.f (k : Nat) (l0 : List Int) : Option ((List (S42)) × (List (S42))) := (spec_l2Two.f k l0).bind fun bt332 => (some (bt332.1, bt332.2))
theorem spec_DrawAddSets.mono : ∀ a0 k, LeO (spec_DrawAddSets.f k a0) (spec_DrawAddSets.f (k + 1) a0) := by
 intro a0 k
 unfold spec_DrawAddSets.f
 repeat' first
   | (with_reducible exact spec_l2Two.mono _ _)
   | (with_reducible exact LeO.refl _)
   | (with_reducible exact LeO.none _)
   | (with_reducible refine LeO.ite ?_ ?_)
   | (with_reducible refine LeO.bind ?_ (fun _ => ?_))
   | exact spec_l2Two.mono _ _
   | exact LeO.none _
   | refine LeO.ite ?_ ?_
   | refine LeO.bind ?_ (fun _ => ?_)
set_option maxHeartbeats 8000000 in
set_option maxRecDepth 100000 in
theorem spec_DrawAddSets.calls (k : Nat) (A0 : Option Addr) (c0 : Nat) (l0 : List Int) (r1 : List (S42)) (r2 : List (S42)) (w : World) (hr0 : Kd.C (Kd.int .u8) w A0 l0.length l0) (hc0 : l0.length ≤ c0) (h : spec_DrawAddSets.f k l0 = some (r1, r2)) :
  Calls Try.prog 35 #[.slice A0 l0.length c0] w fun e w' => ∃ v0_ v1_ : Value, e = .returned (.tuple #[v0_, v1_]) ∧ Kd.N k42 42 w' w.heap.size (fun k_ => (w.heap.size ≤ k_) ∧ some k_ ≠ (v1_ : Value).ownBlock) v0_ r1 ∧ Kd.N k42 42 w' w.heap.size (fun k_ => (w.heap.size ≤ k_) ∧ some k_ ≠ (v0_ : Value).ownBlock) v1_ r2 ∧ Below w.heap.size w w' := by
 have HR0 := Aside0.mk hr0
 have HC0 := Aside0.mk hc0
 clear hr0 hc0
 have HB := Aside0.mk (Below.refl w.heap.size w)
 have H : ((spec_l2Two.f k l0).bind fun bt332 => (some (bt332.1, bt332.2))) = some (r1, r2) := h
 clear h
 obtain ⟨⟨t332, t335⟩, A2, H⟩ := bnd_ H
 try dsimp only at H
 simp only [Option.some.injEq, Prod.mk.injEq] at H
 obtain ⟨rfl, rfl⟩ := H
 go_enter Try.func35, Try.ntmps35
 go_wp2_with (first | (refine gl_ 81 (some 5) Try.func81 #[.slice A0 l0.length c0] ?_; (with_reducible refine (spec_l2Two.calls k _ _ l0 t332 t335 _ ?side1 ?side2 A2.out).mono ?_); (case side1 => exact cC_ HR0.out); (case side2 => exact HC0.out); rintro e w3 ⟨v333, v336, rfl, ho0, ho1, hb⟩; refine ⟨_, rfl, ?_⟩; have HO334 := Aside0.mk (Kd.N_lower (Kd.N_mono (ok' := fun k_ => (w.heap.size ≤ k_) ∧ some k_ ≠ (v336 : Value).ownBlock) ho0 (fun k_ hk_ => ⟨(Nat.le_trans (below_size cB0_) hk_.1), hk_.2⟩)) (below_size cB0_)); have HO337 := Aside0.mk (Kd.N_lower (Kd.N_mono (ok' := fun k_ => (w.heap.size ≤ k_) ∧ some k_ ≠ (v333 : Value).ownBlock) ho1 (fun k_ hk_ => ⟨(Nat.le_trans (below_size cB0_) hk_.1), hk_.2⟩)) (below_size cB0_)); replace HB := Aside0.mk (below_step cB0_ hb); (try clear hb); (try clear hb2); (try clear hk); (try clear hi); (try clear ho0); (try clear ho1)))
 go_ret2
 exact ⟨_, _, ce_, cN_ HO334.out, cN_ HO337.out, cB0_⟩

end Go.Proofs.Ythgmicingbjemaa.PFnGroups
