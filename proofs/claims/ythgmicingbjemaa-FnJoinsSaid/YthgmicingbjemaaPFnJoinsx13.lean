-- Written by fprint, a program of this session, out of Lean's own print of the translation. Lean checks it.
import Derived.Test.YthgmicingbjemaaDense
import Derived.Test.YthgmicingbjemaaPFnJoinsx0
import Derived.Test.YthgmicingbjemaaPFnJoinsx12
namespace Go.Proofs.Ythgmicingbjemaa.PFnJoins
open Go.RowKit Go.Proofs.YthgmicingbjemaaW.PrintWords Go.Proofs.YthgmicingbjemaaW.PrintLast Go.Proofs.YthgmicingbjemaaW.PrintMore
attribute [local go_sem] max2_int min2_int max_two min_two max_three min_three max_four min_four
set_option linter.unusedVariables false
set_option maxHeartbeats 8000000
set_option maxRecDepth 100000
set_option linter.unusedSimpArgs false

theorem b13_0 {p : Prop} (h : p := by exact cK_ HK.out) : p := h
theorem b13_2 {p : Prop} (h : p := by exact cB1_ (IsS106.ge HI352.out)) : p := h
theorem b13_3 {p : Prop} (h : p := by exact cI_ HI0.out) : p := h
theorem b13_4 {p : Prop} (h : p := by exact cN_ HO357.out) : p := h
theorem b13_5 {p : Prop} (h : p := by exact cN_ HO326.out) : p := h
theorem b13_6 {p : Prop} (h : p := by exact cI_ HI352.out) : p := h
theorem b13_8 {p : Prop} (h : p := by exact cN_ HO363.out) : p := h
theorem b13_10 {p : Prop} (h : p := by exact cB1_ (IsS106.ge HI0.out)) : p := h
/-! ### spec_l1Bent: function 104 -/
mutual
def spec_l1Bent.j0 : Nat → List Int → Bool → List Int → Int → Option (List Int × Int)
 | 0, _, _, _, _ => none
 | k + 1, x3, x14, x1000, x1001 => if x14 = true then ((spec_l1Pick.f x1000 x1001 (([1000000000, (-1000000000), 1000000001, (-1000000001), 4611686018427387904, (-9223372036854775808)] : List Int))).bind fun bt315 => (if 0 < (x3.length : Int) then (spec_l1Bent.j1 k (x3.set (0 : Int).toNat bt315.1) x1000 bt315.2) else (none))) else (spec_l1Bent.j1 k x3 x1000 x1001)
def spec_l1Bent.j1 : Nat → List Int → List Int → Int → Option (List Int × Int)
 | 0, _, _, _ => none
 | k + 1, x3, x1000, x1001 => (spec_l1Chance.f x1000 x1001 24).bind fun bt318 => (if bt318.1 = true then ((spec_l1Row.f k x1000 bt318.2 5).bind fun bt320 => (some (bt320.1, bt320.2))) else (some (x3, bt318.2)))
end
def spec_l1Bent.f (k : Nat) (s0_0 : List Int) (s0_1 : Int) : Option (List Int × Int) := (spec_l1Next.f s0_0 s0_1 5).bind fun bt304 => ((spec_l1Row.f k s0_0 bt304.2 bt304.1).bind fun bt306 => (if (bt306.1.length : Int) > 0 then ((spec_l1Chance.f s0_0 bt306.2 12).bind fun bt310 => (spec_l1Bent.j0 k bt306.1 bt310.1 s0_0 bt310.2)) else (spec_l1Bent.j0 k bt306.1 false s0_0 bt306.2)))
theorem spec_l1Bent.mono_l : ∀ k, (∀ y0 y1 y2 y3, LeO (spec_l1Bent.j0 k y0 y1 y2 y3) (spec_l1Bent.j0 (k + 1) y0 y1 y2 y3)) ∧ (∀ y0 y1 y2, LeO (spec_l1Bent.j1 k y0 y1 y2) (spec_l1Bent.j1 (k + 1) y0 y1 y2))
 | 0 => ⟨fun _ _ _ _ r h => by simp [spec_l1Bent.j0] at h, fun _ _ _ r h => by simp [spec_l1Bent.j1] at h⟩
 | k + 1 => by
  obtain ⟨ih0, ih1⟩ := spec_l1Bent.mono_l k
  refine ⟨?_, ?_⟩
  ·intro y0 y1 y2 y3
   unfold spec_l1Bent.j0
   repeat' first
   | (with_reducible exact ih0 _ _ _ _)
   | (with_reducible exact ih1 _ _ _)
   | (with_reducible exact spec_l1Row.mono _ _ _ _)
   | (with_reducible exact LeO.refl _)
   | (with_reducible exact LeO.none _)
   | (with_reducible refine LeO.ite ?_ ?_)
   | (with_reducible refine LeO.bind ?_ (fun _ => ?_))
   | refine LeO.ite ?_ ?_
   | refine LeO.bind ?_ (fun _ => ?_)
  ·intro y0 y1 y2
   unfold spec_l1Bent.j1
   repeat' first
   | (with_reducible exact ih0 _ _ _ _)
   | (with_reducible exact ih1 _ _ _)
   | (with_reducible exact spec_l1Row.mono _ _ _ _)
   | (with_reducible exact LeO.refl _)
   | (with_reducible exact LeO.none _)
   | (with_reducible refine LeO.ite ?_ ?_)
   | (with_reducible refine LeO.bind ?_ (fun _ => ?_))
   | refine LeO.ite ?_ ?_
   | refine LeO.bind ?_ (fun _ => ?_)
theorem spec_l1Bent.mono : ∀ a0 a1 k, LeO (spec_l1Bent.f k a0 a1) (spec_l1Bent.f (k + 1) a0 a1) := by
 intro a0 a1 k
 obtain ⟨ih0, ih1⟩ := spec_l1Bent.mono_l k
 unfold spec_l1Bent.f
 repeat' first
   | (with_reducible exact ih0 _ _ _ _)
   | (with_reducible exact ih1 _ _ _)
   | (with_reducible exact spec_l1Row.mono _ _ _ _)
   | (with_reducible exact LeO.refl _)
   | (with_reducible exact LeO.none _)
   | (with_reducible refine LeO.ite ?_ ?_)
   | (with_reducible refine LeO.bind ?_ (fun _ => ?_))
   | refine LeO.ite ?_ ?_
   | refine LeO.bind ?_ (fun _ => ?_)
theorem spec_l1Bent.calls (k : Nat) (g : Nat) (s0_0 : List Int) (s0_1 : Int) (r1 : List Int) (r2 : Int) (w0 w : World) (hI : IsS106 w0 w g s0_0 s0_1) (hB : Below w0.heap.size w0 w) (h : spec_l1Bent.f k s0_0 s0_1 = some (r1, r2)) :
  Calls Try.prog 104 #[.pointer (some ⟨g, 0, none⟩)] w fun e w' => ∃ v0_ : Value, e = .returned (v0_) ∧ Kd.R (Kd.int .i64) 2 w' w.heap.size (fun _ => True) v0_ r1 ∧ IsS106 w0 w' g s0_0 r2 ∧ Below w0.heap.size w0 w' ∧ KeepBut w w' g none := by
 have HI0 := Aside0.mk hI
 have HK := Aside0.mk (KeepBut.refl w g none)
 have HL := Aside0.mk hB.size
 clear hI
 have HW0 := Aside0.mk hB.size
 have HB := Aside0.mk hB
 clear hB
 have H : ((spec_l1Next.f s0_0 s0_1 5).bind fun bt304 => ((spec_l1Row.f k s0_0 bt304.2 bt304.1).bind fun bt306 => (if (bt306.1.length : Int) > 0 then ((spec_l1Chance.f s0_0 bt306.2 12).bind fun bt310 => (spec_l1Bent.j0 k bt306.1 bt310.1 s0_0 bt310.2)) else (spec_l1Bent.j0 k bt306.1 false s0_0 bt306.2)))) = some (r1, r2) := h
 clear h
 obtain ⟨⟨t304, t305⟩, A2, H⟩ := bnd_ H
 try dsimp only at H
 obtain ⟨⟨t306, t309⟩, A3, H⟩ := bnd_ H
 try dsimp only at H
 have HC4 := Aside0.mk H
 clear H
 go_enter Try.func104, Try.ntmps104
 go_upto_region 2 with (first | (refine gl_ 66 (some 6) Try.func66 #[.pointer (some ⟨g, 0, none⟩), .int .i64 5] ?_; (with_reducible refine (spec_l1Next.calls g s0_0 s0_1 5 t304 t305 w0 _ ?side1 ?side2 A2.out).mono ?_); (case side1 => exact cI_ HI0.out); (case side2 => exact cB1_ (IsS106.ge HI0.out)); rintro e w5 ⟨rfl, hi, hb, hk⟩; refine ⟨_, rfl, ?_⟩; replace HK := Aside0.mk (KeepBut.trans b13_0 hk (.inl rfl)); replace HB := Aside0.mk (hb); replace HI0 := Aside0.mk (hi); (try clear hb); (try clear hb2); (try clear hk); (try clear hi)) | (refine gl_ 120 (some 7) Try.func120 #[.pointer (some ⟨g, 0, none⟩), .int .i64 t304] ?_; (with_reducible refine (spec_l1Row.calls k g s0_0 t305 t304 t306 t309 w0 _ ?side1 ?side2 A3.out).mono ?_); (case side1 => exact cI_ HI0.out); (case side2 => exact cB1_ (IsS106.ge HI0.out)); rintro e w6 ⟨v307, rfl, ho0, hi, hb, hk⟩; refine ⟨_, rfl, ?_⟩; have HO308 := Aside0.mk (Kd.R_lower ho0 (keep_size (w := w) (g := g) (row := none) b13_0)); replace HK := Aside0.mk (KeepBut.trans b13_0 hk (.inl rfl)); replace HB := Aside0.mk (hb); replace HI0 := Aside0.mk (hi); (try clear hb); (try clear hb2); (try clear hk); (try clear hi); (try clear ho0)))
 (try simp only [Act.put, List.setIfInBounds_toArray, List.set_cons_zero, List.set_cons_succ])
 go_cut [14] (fun v14 wc => ∃ (kq : Nat) (x14_3 : Bool) (x1001_3 : Int), v14 = .bool x14_3 ∧ Aside0 (spec_l1Bent.j0 kq t306 x14_3 s0_0 x1001_3 = some (r1, r2)) ∧ Aside0 (kq ≤ k) ∧ Aside0 (Kd.R (Kd.int .i64) 2 wc w.heap.size (fun _ => True) v307 t306) ∧ Aside0 (IsS106 w0 wc g s0_0 x1001_3) ∧ Aside0 (KeepBut w wc g none) ∧ Aside0 (Below w0.heap.size w0 wc))
 case first =>
  have H := HC4.out
  clear HC4
  by_cases c7 : (t306.length : Int) > 0
  ·rw [if_pos c7] at H
   have c7b0 : decide (0 < (t306.length : Int)) = true := decide_eq_true c7
   have c7b1 : decide (0 < t306.length) = true := decide_eq_true (by omega)
   clear c7
   (first | rw [c7b0] | (simp only [i64_w, i32_w]; rw [c7b0]) | skip)
   obtain ⟨⟨t310, t311⟩, A8, H⟩ := bnd_ H
   try dsimp only at H
   have H' := Aside0.mk H
   clear H
   obtain ⟨Ao9, co9, eo9⟩ := Kd.R_slice HO308.out
   subst eo9
   go_wp2_with (first | (go_at_call 67; (with_reducible refine (spec_l1Chance.calls g s0_0 t309 12 t310 t311 w0 _ ?side1 ?side2 A8.out).mono ?_); (case side1 => exact cI_ HI0.out); (case side2 => exact cB1_ (IsS106.ge HI0.out)); rintro e w10 ⟨rfl, hi, hb, hk⟩; replace HO308 := Aside0.mk (Kd.R_mono (Kd.R_keep (IsS106.apart (show IsS106 w0 _ g s0_0 t309 from by repeat (first | (with_reducible first | exact HI0.out | apply IsS106.alloc | apply IsS106.drewN | apply IsS106.drew | apply IsS106.set_1) | exact HI0.out)) (cR_ HO308.out) (by decide)) hk (fun _ h => h.2)) (fun _ h => h.1)); replace HK := Aside0.mk (KeepBut.trans b13_0 hk (.inl rfl)); replace HB := Aside0.mk (hb); replace HI0 := Aside0.mk (hi); (try clear hb); (try clear hb2); (try clear hk); (try clear hi)))
   go_meet
   case rel => exact ⟨_, (t310), (t311), cs_, H', ⟨cm_⟩, ⟨cR_ HO308.out⟩, ⟨cI_ HI0.out⟩, ⟨cK_ HK.out⟩, ⟨cB1_ (IsS106.ge HI0.out)⟩⟩
  rw [if_neg c7] at H
  have c7b0 : decide (0 < (t306.length : Int)) = false := decide_eq_false c7
  have c7b1 : decide (0 < t306.length) = false := decide_eq_false (by omega)
  clear c7
  (first | rw [c7b0] | (simp only [i64_w, i32_w]; rw [c7b0]) | skip)
  have H' := Aside0.mk H
  clear H
  obtain ⟨Ao11, co11, eo11⟩ := Kd.R_slice HO308.out
  subst eo11
  go_wp2
  go_meet
  case rel => exact ⟨_, (false), (t309), cs_, H', ⟨cm_⟩, ⟨cR_ HO308.out⟩, ⟨cI_ HI0.out⟩, ⟨cK_ HK.out⟩, ⟨cB1_ (IsS106.ge HI0.out)⟩⟩
 case rest =>
  clear HC4
  try clear c1
  try clear p2
  try clear c6
  try clear c7
  try clear c7b0
  try clear c7b1
  try clear c10
  obtain ⟨kq, x14_3, x1001_3, rfl, HA, HJ3, HO_3, HI0, HK, HB⟩ := hcut
  cases kq with
  | zero => exact absurd HA.out (by simp [spec_l1Bent.j0])
  | succ kj3 =>
   have H := HA.out
   clear HA
   simp only [spec_l1Bent.j0] at H
   have HC12 := Aside0.mk H
   clear H
   go_upto_if 14 with (fail)
   go_cut [] (fun wc => ∃ (kq : Nat) (x3_11 : List Int) (x1001_11 : Int), Aside0 (spec_l1Bent.j1 kq x3_11 s0_0 x1001_11 = some (r1, r2)) ∧ Aside0 (kq ≤ kj3) ∧ Aside0 (Kd.R (Kd.int .i64) 2 wc w.heap.size (fun _ => True) v307 x3_11) ∧ Aside0 (IsS106 w0 wc g s0_0 x1001_11) ∧ Aside0 (KeepBut w wc g none) ∧ Aside0 (Below w0.heap.size w0 wc))
   case first =>
    have H := HC12.out
    clear HC12
    by_cases c13 : x14_3 = true
    rotate_left
    ·replace c13 := Bool.eq_false_iff.mpr c13
     subst c13
     rw [if_neg (show ¬ (false = true) by decide)] at H
     have H' := Aside0.mk H
     clear H
     go_wp2
     go_meet
     case rel => exact ⟨_, (t306), (x1001_3), H', ⟨by have := HJ3.out; first | omega | exact Nat.le_refl _⟩, ⟨cR_ HO_3.out⟩, ⟨cI_ HI0.out⟩, ⟨cK_ HK.out⟩, ⟨cB1_ (IsS106.ge HI0.out)⟩⟩
    subst c13
    rw [if_pos rfl] at H
    obtain ⟨y312, hy_⟩ : ∃ y_ : List Int, y_ = (([1000000000, (-1000000000), 1000000001, (-1000000001), 4611686018427387904, (-9223372036854775808)] : List Int)) := ⟨_, rfl⟩
    replace H : ((spec_l1Pick.f s0_0 x1001_3 y312).bind fun bt315 => (if 0 < (t306.length : Int) then (spec_l1Bent.j1 kj3 (t306.set (0 : Int).toNat bt315.1) s0_0 bt315.2) else (none))) = some (r1, r2) := yb_
    have Ny312 := Aside0.mk hy_
    clear hy_
    obtain ⟨⟨t315, t316⟩, A14, H⟩ := bnd_ H
    try dsimp only at H
    by_cases c15 : 0 < (t306.length : Int)
    ·rw [if_pos c15] at H
     have c15b0 := decide_eq_true c15
     have c15b1 : decide (0 < t306.length) = true := decide_eq_true (by omega)
     clear c15
     (first | rw [c15b0] | (simp only [i64_w, i32_w]; rw [c15b0]) | skip)
     obtain ⟨y317, hy_⟩ : ∃ y_ : List Int, y_ = (t306.set (0 : Int).toNat t315) := ⟨_, rfl⟩
     replace H : (spec_l1Bent.j1 kj3 y317 s0_0 t316) = some (r1, r2) := yb_
     have Ny317 := Aside0.mk hy_
     clear hy_
     have H' := Aside0.mk H
     clear H
     go_wp2_with (first | ((with_reducible refine gate_dst (N := 17) rfl ?_); refine Kd.R_lit (Kd.int .i64) _ 2 ?hg (N := 17) ?hd (xs := ([1000000000, (-1000000000), 1000000001, (-1000000001), 4611686018427387904, (-9223372036854775808)] : List Int)) (inner := [.int .i64 1000000000, .int .i64 (-1000000000), .int .i64 1000000001, .int .i64 (-1000000001), .int .i64 4611686018427387904, .int .i64 (-9223372036854775808)]) (ok := fun _ => True) (okp := fun _ => True) ?hr ?hp (fun _ hk => hk) trivial (Below.refl _ _) (Nat.le_refl _) (by simp) ?_; (case hd => rfl); (case hg => rfl); (case hr => first | (go_simp; done) | (go_simp; rfl)); (case hp => exact (Reps.one (show Kd.M (Kd.int .i64) _ _ _ 1000000000 [.int .i64 1000000000] from rfl) (Reps.one (show Kd.M (Kd.int .i64) _ _ _ (-1000000000) [.int .i64 (-1000000000)] from rfl) (Reps.one (show Kd.M (Kd.int .i64) _ _ _ 1000000001 [.int .i64 1000000001] from rfl) (Reps.one (show Kd.M (Kd.int .i64) _ _ _ (-1000000001) [.int .i64 (-1000000001)] from rfl) (Reps.one (show Kd.M (Kd.int .i64) _ _ _ 4611686018427387904 [.int .i64 4611686018427387904] from rfl) (Reps.one (show Kd.M (Kd.int .i64) _ _ _ (-9223372036854775808) [.int .i64 (-9223372036854775808)] from rfl) (Reps.none _ _)))))))); intro v313 w17 ho18 hb hg_ hnew_; clear hg_ hnew_; (first | rw [← Ny312.out] at ho18 | (simp only [Int.reduceToNat] at ho18; rw [← Ny312.out] at ho18)); have HO314 := Aside0.mk (Kd.R_lower (Kd.R_new' ho18 (Kd.R_lt (cR_ HO_3.out))) (keep_size (w := w) (g := g) (row := none) b13_0)); replace HO_3 := Aside0.mk (Kd.R_elder' (cR_ HO_3.out) (Kd.R_base ho18) hb); replace HK := Aside0.mk (KeepBut.trans b13_0 (KeepBut.of_below hb g none) (.inl rfl)); replace HB := Aside0.mk (below_step b13_10 hb); replace HI0 := Aside0.mk (IsS106.below b13_3 hb); clear hb ho18; obtain ⟨Ao19, co19, eo19⟩ := Kd.R_slice HO314.out; subst eo19) | (refine gl_ 68 (some 18) Try.func68 #[.pointer (some ⟨g, 0, none⟩), .slice Ao19 y312.length co19] ?_; (with_reducible refine (spec_l1Pick.calls g s0_0 x1001_3 _ _ y312 t315 t316 w0 _ ?side1 ?side2 ?side3 ?side4 ?side5 A14.out).mono ?_); (case side1 => exact cI_ HI0.out); (case side2 => exact cB1_ (IsS106.ge HI0.out)); (case side3 => exact cC_ ((Kd.R_reads' HO314.out).2.2)); (case side4 => exact (Kd.R_reads' HO314.out).2.1); (case side5 => exact (by exact far_slice (IsS106.own_ne HI0.out HO314.out (by decide)))); rintro e w20 ⟨rfl, hi, hb, hk⟩; refine ⟨_, rfl, ?_⟩; replace HO_3 := Aside0.mk (Kd.R_mono (Kd.R_keep (IsS106.apart (show IsS106 w0 _ g s0_0 x1001_3 from by repeat (first | (with_reducible first | exact HI0.out | apply IsS106.alloc | apply IsS106.drewN | apply IsS106.drew | apply IsS106.set_1) | exact HI0.out)) (cR_ HO_3.out) (by decide)) hk (fun _ h => h.2)) (fun _ h => h.1)); replace HO314 := Aside0.mk (Kd.R_mono (Kd.R_keep (IsS106.apart (show IsS106 w0 _ g s0_0 x1001_3 from by repeat (first | (with_reducible first | exact HI0.out | apply IsS106.alloc | apply IsS106.drewN | apply IsS106.drew | apply IsS106.set_1) | exact HI0.out)) (cR_ HO314.out) (by decide)) hk (fun _ h => h.2)) (fun _ h => h.1)); replace HK := Aside0.mk (KeepBut.trans b13_0 hk (.inl rfl)); replace HB := Aside0.mk (hb); replace HI0 := Aside0.mk (hi); (try clear hb); (try clear hb2); (try clear hk); (try clear hi); have p16 : 0 ≤ (0 : Int) := (by omega); have q16 : (0 : Int) < ((t306.length : Int) : Int) := cd_; have qi16 : (0 < t306.length) = True := eq_true (by omega); obtain ⟨go16, co16, eo16, gb16, gl16, cl16, HG16⟩ := Kd.R_form HO_3.out (by omega); (first | cases eo16 | (injection eo16 with ea_ en_ ec_; (first | subst ea_ | (injection ea_ with ea_; subst ea_)); subst ec_; clear en_)); have GB16 := Aside0.mk gb16; have GG16 := Aside0.mk HG16; clear gb16 gl16 HG16; obtain ⟨hx16_0, hf16_0⟩ := Kd.R_celln 0 HO_3.out (0 : Int) p16 q16; (try rw [show ((0 : Int)).toNat = 0 from rfl] at hx16_0); (try simp only [Nat.reduceMul, Nat.zero_mul, Nat.zero_add, Nat.reduceAdd] at hx16_0); (try rw [show ((0 : Int)).toNat = 0 from rfl] at hf16_0); (try simp only [Nat.reduceMul, Nat.zero_mul, Nat.zero_add, Nat.reduceAdd] at hf16_0); replace p16 := eq_true p16; replace q16 := eq_true q16; have n_ := Aside0.mk (Kd.R_mono (ok' := (fun k_ => some k_ ≠ (.slice Ao19 y312.length co19 : Value).ownBlock)) HO_3.out (fun k_ hk => hk.2)); clear HO_3; have HO_3 := n_; clear n_; obtain ⟨hy21_, hz21_⟩ := Kd.R_celln 0 HO_3.out (0 : Int) (by omega) (of_decide_eq_true ca_); (try simp only [Int.reduceToNat, Int.toNat_zero, Int.toNat_ofNat, Nat.reduceMul, Nat.zero_mul, Nat.zero_add] at hy21_ hz21_); (try rw [show ((0 : Int)).toNat = 0 from rfl] at hy21_); (try rw [show ((0 : Int)).toNat = 0 from rfl] at hz21_); have HP21 := Kd.R_putg HO_3.out (0 : Int) t315) | ((with_reducible refine gate_store (t := 2) (p := 19) rfl ?_); refine store_event (t := 2) (p := 19) (v := ?vo_w22) (w1 := (w20.setCell ⟨go16, (0 : Int).toNat, none⟩ (.int .i64 t315))) ?hg ?ho ?hn ?hr ?_; (case ho => rfl); (case hg => rfl); (case hn => rfl); (case hr => first | (go_simp; done) | (go_simp; rfl)); intro w22 hw; have hg : w20.grownBy w22 (some go16) := (by rw [hw]; exact HP21.2); have hp_ : Kd.R (Kd.int .i64) 2 w22 w.heap.size (fun k_ => some k_ ≠ (.slice Ao19 y312.length co19 : Value).ownBlock) (.slice (some ⟨go16, 0, none⟩) t306.length co16) y317 := (by rw [hw, Ny317.out]; exact HP21.1); clear HP21; replace HI0 := Aside0.mk (IsS106.grown b13_3 hg (IsS106.own_ne HI0.out HO_3.out (by decide))); replace HO314 := Aside0.mk (Kd.R_after (v := (.slice (some ⟨go16, 0, none⟩) t306.length co16)) (v1 := (.slice (some ⟨go16, 0, none⟩) t306.length co16)) (ok := (fun _ => True)) (cR_ HO314.out) hg (.inl rfl)); replace HB := Aside0.mk ((by rw [hw]; exact below_set (HB.out) (Nat.le_trans HL.out GB16.out) : Below w0.heap.size w0 w22)); replace HK := Aside0.mk (KeepBut.trans b13_0 (KeepBut.of_grown hg g) (Kd.R_base2 HO_3.out)); replace HO_3 := Aside0.mk (hp_); clear hg hw hp_))
     go_meet
     case rel => exact ⟨_, (y317), (t316), H', ⟨by have := HJ3.out; first | omega | exact Nat.le_refl _⟩, ⟨by refine cR_ ?_; exact Kd.R_mono HO_3.out (fun _ hk => trivial)⟩, ⟨cI_ HI0.out⟩, ⟨cK_ HK.out⟩, ⟨cB1_ (IsS106.ge HI0.out)⟩⟩
    rw [if_neg c15] at H
    exact absurd H (by simp)
   case rest =>
    clear HC12
    try clear c1
    try clear p1
    try clear q1
    try clear hx1
    try clear qi1
    try clear hf1
    try clear p2
    try clear c6
    try clear c7
    try clear c7b0
    try clear c7b1
    try clear c10
    try clear c12
    try clear c13
    try clear c15
    try clear c15b0
    try clear c15b1
    try clear p16
    try clear q16
    try clear hx16
    try clear qi16
    try clear hf16
    try clear hx16_0
    try clear p16
    try clear p2
    try clear q16
    obtain ⟨kq, x3_11, x1001_11, HA, HJ11, HO_3, HI0, HK, HB⟩ := hcut
    cases kq with
    | zero => exact absurd HA.out (by simp [spec_l1Bent.j1])
    | succ kj11 =>
     have H := HA.out
     clear HA
     simp only [spec_l1Bent.j1] at H
     obtain ⟨⟨t318, t319⟩, A23, H⟩ := bnd_ H
     try dsimp only at H
     by_cases c24 : t318 = true
     ·subst c24
      rw [if_pos rfl] at H
      obtain ⟨⟨t320, t323⟩, A25, H⟩ := bnd_ H
      try dsimp only at H
      simp only [Option.some.injEq, Prod.mk.injEq] at H
      obtain ⟨rfl, rfl⟩ := H
      go_wp2_with (first | (refine gl_ 67 (some 21) Try.func67 #[.pointer (some ⟨g, 0, none⟩), .int .i64 24] ?_; (with_reducible refine (spec_l1Chance.calls g s0_0 x1001_11 24 true t319 w0 _ ?side1 ?side2 A23.out).mono ?_); (case side1 => exact cI_ HI0.out); (case side2 => exact cB1_ (IsS106.ge HI0.out)); rintro e w26 ⟨rfl, hi, hb, hk⟩; refine ⟨_, rfl, ?_⟩; replace HO_3 := Aside0.mk (Kd.R_mono (Kd.R_keep (IsS106.apart (show IsS106 w0 _ g s0_0 x1001_11 from by repeat (first | (with_reducible first | exact HI0.out | apply IsS106.alloc | apply IsS106.drewN | apply IsS106.drew | apply IsS106.set_1) | exact HI0.out)) (cR_ HO_3.out) (by decide)) hk (fun _ h => h.2)) (fun _ h => h.1)); replace HK := Aside0.mk (KeepBut.trans b13_0 hk (.inl rfl)); replace HB := Aside0.mk (hb); replace HI0 := Aside0.mk (hi); (try clear hb); (try clear hb2); (try clear hk); (try clear hi)) | (refine gl_ 120 (some 23) Try.func120 #[.pointer (some ⟨g, 0, none⟩), .int .i64 5] ?_; (with_reducible refine (spec_l1Row.calls kj11 g s0_0 t319 5 t320 t323 w0 _ ?side1 ?side2 A25.out).mono ?_); (case side1 => exact cI_ HI0.out); (case side2 => exact cB1_ (IsS106.ge HI0.out)); rintro e w27 ⟨v321, rfl, ho0, hi, hb, hk⟩; refine ⟨_, rfl, ?_⟩; have HO322 := Aside0.mk (Kd.R_lower (Kd.R_new' ho0 (Kd.R_lt (cR_ HO_3.out))) (keep_size (w := w) (g := g) (row := none) b13_0)); replace HO_3 := Aside0.mk (Kd.R_mono (Kd.R_told (Kd.R_oldK (IsS106.apart (show IsS106 w0 _ g s0_0 t319 from by repeat (first | (with_reducible first | exact HI0.out | apply IsS106.alloc | apply IsS106.drewN | apply IsS106.drew | apply IsS106.set_1) | exact HI0.out)) (cR_ HO_3.out) (by decide)) hk) (Kd.R_base ho0)) (fun _ h_ => h_.1)); replace HK := Aside0.mk (KeepBut.trans b13_0 hk (.inl rfl)); replace HB := Aside0.mk (hb); replace HI0 := Aside0.mk (hi); (try clear hb); (try clear hb2); (try clear hk); (try clear hi); (try clear ho0)))
      go_ret
      exact ⟨_, ce_, by refine cR_ ?_; exact Kd.R_mono HO322.out (fun _ hk => trivial), cI_ HI0.out, cB1_ (IsS106.ge HI0.out), cK_ HK.out⟩
     replace c24 := Bool.eq_false_iff.mpr c24
     subst c24
     rw [if_neg (show ¬ (false = true) by decide)] at H
     simp only [Option.some.injEq, Prod.mk.injEq] at H
     obtain ⟨rfl, rfl⟩ := H
     go_wp2_with (first | (refine gl_ 67 (some 21) Try.func67 #[.pointer (some ⟨g, 0, none⟩), .int .i64 24] ?_; (with_reducible refine (spec_l1Chance.calls g s0_0 x1001_11 24 false t319 w0 _ ?side1 ?side2 A23.out).mono ?_); (case side1 => exact cI_ HI0.out); (case side2 => exact cB1_ (IsS106.ge HI0.out)); rintro e w28 ⟨rfl, hi, hb, hk⟩; refine ⟨_, rfl, ?_⟩; replace HO_3 := Aside0.mk (Kd.R_mono (Kd.R_keep (IsS106.apart (show IsS106 w0 _ g s0_0 x1001_11 from by repeat (first | (with_reducible first | exact HI0.out | apply IsS106.alloc | apply IsS106.drewN | apply IsS106.drew | apply IsS106.set_1) | exact HI0.out)) (cR_ HO_3.out) (by decide)) hk (fun _ h => h.2)) (fun _ h => h.1)); replace HK := Aside0.mk (KeepBut.trans b13_0 hk (.inl rfl)); replace HB := Aside0.mk (hb); replace HI0 := Aside0.mk (hi); (try clear hb); (try clear hb2); (try clear hk); (try clear hi)))
     go_ret
     exact ⟨_, ce_, cR_ HO_3.out, cI_ HI0.out, cB1_ (IsS106.ge HI0.out), cK_ HK.out⟩

/-! ### spec_l2Bent: function 65 -/
def spec_l2Bent.f (k : Nat) (s0_0 : List Int) (s0_1 : Int) (a1 : Int) : Option ((List (S42)) × Int) := (spec_l2Draw.f k s0_0 s0_1 a1).bind fun bt324 => (if (bt324.1.length : Int) = 0 then (some (bt324.1, bt324.2)) else ((spec_l1Next.f s0_0 bt324.2 (bt324.1.length : Int)).bind fun bt328 => ((spec_l1Next.f s0_0 bt328.2 20).bind fun bt330 => (if bt330.1 = 0 then ((spec_l1Bent.f k s0_0 bt330.2).bind fun bt332 => (if 0 ≤ bt328.1 then (if bt328.1 < (bt324.1.length : Int) then (some ((bt324.1.set (bt328.1 : Int).toNat (⟨bt332.1, (rd_T42 bt324.1 bt328.1).f1⟩ : S42)), bt332.2)) else (none)) else (none))) else (if bt330.1 = 1 then ((spec_l1Pick.f s0_0 bt330.2 (([0, 1000000000000, 1000000000001, (-1000000000000), (-1000000000001), (-9223372036854775808)] : List Int))).bind fun bt340 => (if 0 ≤ bt328.1 then (if bt328.1 < (bt324.1.length : Int) then (some ((bt324.1.set (bt328.1 : Int).toNat (⟨(rd_T42 bt324.1 bt328.1).f0, bt340.1⟩ : S42)), bt340.2)) else (none)) else (none))) else (if bt330.1 = 2 then (if 0 ≤ bt328.1 then (if bt328.1 < (bt324.1.length : Int) then (if bt324.1.length < 4398046511104 then (some ((bt324.1 ++ [(⟨(rd_T42 bt324.1 bt328.1).f0, (rd_T42 bt324.1 bt328.1).f1⟩ : S42)]), bt330.2)) else (none)) else (none)) else (none)) else (if bt330.1 = 3 then (if 201 ≤ 8796093022208 then (some ((List.replicate 201 z42), bt330.2)) else (none)) else (some (bt324.1, bt330.2)))))))))
theorem spec_l2Bent.mono : ∀ a0 a1 a2 k, LeO (spec_l2Bent.f k a0 a1 a2) (spec_l2Bent.f (k + 1) a0 a1 a2) := by
 intro a0 a1 a2 k
 unfold spec_l2Bent.f
 repeat' first
   | (with_reducible exact spec_l1Bent.mono _ _ _)
   | (with_reducible exact spec_l2Draw.mono _ _ _ _)
   | (with_reducible exact LeO.refl _)
   | (with_reducible exact LeO.none _)
   | (with_reducible refine LeO.ite ?_ ?_)
   | (with_reducible refine LeO.bind ?_ (fun _ => ?_))
   | refine LeO.ite ?_ ?_
   | refine LeO.bind ?_ (fun _ => ?_)
theorem spec_l2Bent.calls (k : Nat) (g : Nat) (s0_0 : List Int) (s0_1 : Int) (a1 : Int) (r1 : List (S42)) (r2 : Int) (w0 w : World) (hI : IsS106 w0 w g s0_0 s0_1) (hB : Below w0.heap.size w0 w) (h : spec_l2Bent.f k s0_0 s0_1 a1 = some (r1, r2)) :
  Calls Try.prog 65 #[.pointer (some ⟨g, 0, none⟩), .int .i64 a1] w fun e w' => ∃ v0_ : Value, e = .returned (v0_) ∧ Kd.N k42 42 w' w.heap.size (fun k_ => (w.heap.size ≤ k_)) v0_ r1 ∧ IsS106 w0 w' g s0_0 r2 ∧ Below w0.heap.size w0 w' ∧ KeepBut w w' g none := by
 have hu42 := Try.underlying42
 have HI0 := Aside0.mk hI
 have HK := Aside0.mk (KeepBut.refl w g none)
 have HL := Aside0.mk hB.size
 clear hI
 have HW0 := Aside0.mk hB.size
 have HB := Aside0.mk hB
 clear hB
 have H : ((spec_l2Draw.f k s0_0 s0_1 a1).bind fun bt324 => (if (bt324.1.length : Int) = 0 then (some (bt324.1, bt324.2)) else ((spec_l1Next.f s0_0 bt324.2 (bt324.1.length : Int)).bind fun bt328 => ((spec_l1Next.f s0_0 bt328.2 20).bind fun bt330 => (if bt330.1 = 0 then ((spec_l1Bent.f k s0_0 bt330.2).bind fun bt332 => (if 0 ≤ bt328.1 then (if bt328.1 < (bt324.1.length : Int) then (some ((bt324.1.set (bt328.1 : Int).toNat (⟨bt332.1, (rd_T42 bt324.1 bt328.1).f1⟩ : S42)), bt332.2)) else (none)) else (none))) else (if bt330.1 = 1 then ((spec_l1Pick.f s0_0 bt330.2 (([0, 1000000000000, 1000000000001, (-1000000000000), (-1000000000001), (-9223372036854775808)] : List Int))).bind fun bt340 => (if 0 ≤ bt328.1 then (if bt328.1 < (bt324.1.length : Int) then (some ((bt324.1.set (bt328.1 : Int).toNat (⟨(rd_T42 bt324.1 bt328.1).f0, bt340.1⟩ : S42)), bt340.2)) else (none)) else (none))) else (if bt330.1 = 2 then (if 0 ≤ bt328.1 then (if bt328.1 < (bt324.1.length : Int) then (if bt324.1.length < 4398046511104 then (some ((bt324.1 ++ [(⟨(rd_T42 bt324.1 bt328.1).f0, (rd_T42 bt324.1 bt328.1).f1⟩ : S42)]), bt330.2)) else (none)) else (none)) else (none)) else (if bt330.1 = 3 then (if 201 ≤ 8796093022208 then (some ((List.replicate 201 z42), bt330.2)) else (none)) else (some (bt324.1, bt330.2)))))))))) = some (r1, r2) := h
 clear h
 obtain ⟨⟨t324, t327⟩, A3, H⟩ := bnd_ H
 try dsimp only at H
 by_cases c4 : (t324.length : Int) = 0
 ·rw [if_pos c4] at H
  have c4b0 : ((t324.length : Int) == 0) = true := beq_iff_eq.mpr c4
  have c4b1 : ((t324.length : Int) != 0) = false := bne_eq_false_iff_eq.mpr c4
  clear c4
  simp only [Option.some.injEq, Prod.mk.injEq] at H
  obtain ⟨rfl, rfl⟩ := H
  go_enter Try.func65, Try.ntmps65
  go_wp2_with (first | (refine gl_ 103 (some 9) Try.func103 #[.pointer (some ⟨g, 0, none⟩), .int .i64 a1] ?_; (with_reducible refine (spec_l2Draw.calls k g s0_0 s0_1 a1 t324 t327 w0 _ ?side1 ?side2 A3.out).mono ?_); (case side1 => exact cI_ HI0.out); (case side2 => exact cB1_ (IsS106.ge HI0.out)); rintro e w5 ⟨v325, rfl, ho0, hi, hb, hk⟩; refine ⟨_, rfl, ?_⟩; have HO326 := Aside0.mk (Kd.N_lower (Kd.N_mono (ok' := fun k_ => (w.heap.size ≤ k_) ∧ k_ ≠ g) ho0 (fun k_ hk_ => ⟨(Nat.le_trans (keep_size (w := w) (g := g) (row := none) b13_0) hk_), (IsS106.fresh b13_3 k_ hk_)⟩)) (keep_size (w := w) (g := g) (row := none) b13_0)); replace HK := Aside0.mk (KeepBut.trans b13_0 hk (.inl rfl)); replace HB := Aside0.mk (hb); replace HI0 := Aside0.mk (hi); (try clear hb); (try clear hb2); (try clear hk); (try clear hi); (try clear ho0); obtain ⟨Ao6, co6, eo6⟩ := Kd.N_slice HO326.out; subst eo6))
  go_ret
  exact ⟨_, ce_, by refine cN_ ?_; exact Kd.N_mono HO326.out (fun _ hk => hk.1), cI_ HI0.out, cB1_ (IsS106.ge HI0.out), cK_ HK.out⟩
 rw [if_neg c4] at H
 have c4b0 : ((t324.length : Int) == 0) = false := beq_eq_false_iff_ne.mpr c4
 have c4b1 : ((t324.length : Int) != 0) = true := bne_iff_ne.mpr c4
 have c4b2 : ¬ (t324 = []) := fun h_ => c4 (by rw [h_]; rfl)
 obtain ⟨⟨t328, t329⟩, A7, H⟩ := bnd_ H
 try dsimp only at H
 obtain ⟨⟨t330, t331⟩, A8, H⟩ := bnd_ H
 try dsimp only at H
 by_cases c9 : t330 = 0
 ·rw [if_pos c9] at H
  have c9b0 : (t330 == 0) = true := beq_iff_eq.mpr c9
  have c9b1 : (t330 != 0) = false := bne_eq_false_iff_eq.mpr c9
  clear c9
  obtain ⟨⟨t332, t335⟩, A10, H⟩ := bnd_ H
  try dsimp only at H
  by_cases c11 : 0 ≤ t328
  rotate_left
  ·rw [if_neg c11] at H
   exact absurd H (by simp)
  rw [if_pos c11] at H
  have c11b0 := decide_eq_true c11
  clear c11
  by_cases c12 : t328 < (t324.length : Int)
  ·rw [if_pos c12] at H
   have c12b0 := decide_eq_true c12
   clear c12
   obtain ⟨y336, hy_⟩ : ∃ y_ : List (S42), y_ = (t324.set (t328 : Int).toNat (⟨t332, (rd_T42 t324 t328).f1⟩ : S42)) := ⟨_, rfl⟩
   replace H : (some (y336, t335)) = some (r1, r2) := yb_
   have Ny336 := Aside0.mk hy_
   clear hy_
   simp only [Option.some.injEq, Prod.mk.injEq] at H
   obtain ⟨rfl, rfl⟩ := H
   go_enter Try.func65, Try.ntmps65
   go_wp2_with (first | (refine gl_ 103 (some 9) Try.func103 #[.pointer (some ⟨g, 0, none⟩), .int .i64 a1] ?_; (with_reducible refine (spec_l2Draw.calls k g s0_0 s0_1 a1 t324 t327 w0 _ ?side1 ?side2 A3.out).mono ?_); (case side1 => exact cI_ HI0.out); (case side2 => exact cB1_ (IsS106.ge HI0.out)); rintro e w14 ⟨v325, rfl, ho0, hi, hb, hk⟩; refine ⟨_, rfl, ?_⟩; have HO326 := Aside0.mk (Kd.N_lower (Kd.N_mono (ok' := fun k_ => (w.heap.size ≤ k_) ∧ k_ ≠ g) ho0 (fun k_ hk_ => ⟨(Nat.le_trans (keep_size (w := w) (g := g) (row := none) b13_0) hk_), (IsS106.fresh b13_3 k_ hk_)⟩)) (keep_size (w := w) (g := g) (row := none) b13_0)); replace HK := Aside0.mk (KeepBut.trans b13_0 hk (.inl rfl)); replace HB := Aside0.mk (hb); replace HI0 := Aside0.mk (hi); (try clear hb); (try clear hb2); (try clear hk); (try clear hi); (try clear ho0); obtain ⟨Ao15, co15, eo15⟩ := Kd.N_slice HO326.out; subst eo15) | (refine gl_ 66 (some 17) Try.func66 #[.pointer (some ⟨g, 0, none⟩), .int .i64 (t324.length : Int)] ?_; (with_reducible refine (spec_l1Next.calls g s0_0 t327 (t324.length : Int) t328 t329 w0 _ ?side1 ?side2 A7.out).mono ?_); (case side1 => exact cI_ HI0.out); (case side2 => exact cB1_ (IsS106.ge HI0.out)); rintro e w16 ⟨rfl, hi, hb, hk⟩; refine ⟨_, rfl, ?_⟩; replace HO326 := Aside0.mk (Kd.N_mono (Kd.N_keep (Kd.N_mono (ok := fun k_ => (((w.heap.size ≤ k_)) ∧ k_ ≠ g)) b13_5 (fun k_ hk_ => (⟨hk_, hk_.2⟩ : _ ∧ k_ ≠ g))) hk (fun _ h => h.2)) (fun _ h => h.1)); replace HK := Aside0.mk (KeepBut.trans b13_0 hk (.inl rfl)); replace HB := Aside0.mk (hb); replace HI0 := Aside0.mk (hi); (try clear hb); (try clear hb2); (try clear hk); (try clear hi)) | (refine gl_ 66 (some 19) Try.func66 #[.pointer (some ⟨g, 0, none⟩), .int .i64 20] ?_; (with_reducible refine (spec_l1Next.calls g s0_0 t329 20 t330 t331 w0 _ ?side1 ?side2 A8.out).mono ?_); (case side1 => exact cI_ HI0.out); (case side2 => exact cB1_ (IsS106.ge HI0.out)); rintro e w17 ⟨rfl, hi, hb, hk⟩; refine ⟨_, rfl, ?_⟩; replace HO326 := Aside0.mk (Kd.N_mono (Kd.N_keep (Kd.N_mono (ok := fun k_ => (((w.heap.size ≤ k_)) ∧ k_ ≠ g)) b13_5 (fun k_ hk_ => (⟨hk_, hk_.2⟩ : _ ∧ k_ ≠ g))) hk (fun _ h => h.2)) (fun _ h => h.1)); replace HK := Aside0.mk (KeepBut.trans b13_0 hk (.inl rfl)); replace HB := Aside0.mk (hb); replace HI0 := Aside0.mk (hi); (try clear hb); (try clear hb2); (try clear hk); (try clear hi)) | (refine gl_ 104 (some 25) Try.func104 #[.pointer (some ⟨g, 0, none⟩)] ?_; (with_reducible refine (spec_l1Bent.calls k g s0_0 t331 t332 t335 w0 _ ?side1 ?side2 A10.out).mono ?_); (case side1 => exact cI_ HI0.out); (case side2 => exact cB1_ (IsS106.ge HI0.out)); rintro e w18 ⟨v333, rfl, ho0, hi, hb, hk⟩; refine ⟨_, rfl, ?_⟩; replace HO326 := Aside0.mk (Kd.N_mono (Kd.N_told (Kd.N_oldK (Kd.N_mono (ok := fun k_ => (((w.heap.size ≤ k_)) ∧ k_ ≠ g)) b13_5 (fun k_ hk_ => (⟨hk_, hk_.2⟩ : _ ∧ k_ ≠ g))) hk) (Kd.R_base ho0)) (fun _ h_ => h_.1)); have HO334 := Aside0.mk (Kd.R_lower (Kd.R_newM (M := fun k_ => (w.heap.size ≤ k_)) ho0 (keep_size (w := w) (g := g) (row := none) b13_0) (fun k_ h_ => h_)) (keep_size (w := w) (g := g) (row := none) b13_0)); replace HK := Aside0.mk (KeepBut.trans b13_0 hk (.inl rfl)); replace HB := Aside0.mk (hb); replace HI0 := Aside0.mk (hi); (try clear hb); (try clear hb2); (try clear hk); (try clear hi); (try clear ho0); have p13 : 0 ≤ (t328 : Int) := cd_; have q13 : (t328 : Int) < ((t324.length : Int) : Int) := cd_; obtain ⟨go13, co13, eo13, gb13, gl13, cl13, HG13⟩ := Kd.N_form HO326.out (by omega); (first | cases eo13 | (injection eo13 with ea_ en_ ec_; (first | subst ea_ | (injection ea_ with ea_; subst ea_)); subst ec_; clear en_)); have GB13 := Aside0.mk gb13; have GG13 := Aside0.mk HG13; clear gb13 gl13 HG13; obtain ⟨ce13, hcl13, hM13, hcc13, hfr13⟩ := Kd.N_elem HO326.out z42 (t328 : Int) p13 q13; obtain ⟨ua13_0, uc13_0, rfl, ul13_0, ge13_0⟩ := k42_openF hM13; have hx13_0 : w18.cell? ⟨go13, (t328 : Int).toNat * 2, none⟩ = some (.slice ua13_0 ((rd_T42 t324 t328).f0).length uc13_0) := hcc13 0 _ rfl; have hx13_1 : w18.cell? ⟨go13, (t328 : Int).toNat * 2 + 1, none⟩ = some (.int .i64 ((rd_T42 t324 t328).f1)) := hcc13 1 _ rfl; have hf13_0 : w18.frozen? ⟨go13, (t328 : Int).toNat * 2, none⟩ = false := hfr13 0; have hf13_1 : w18.frozen? ⟨go13, (t328 : Int).toNat * 2 + 1, none⟩ = false := hfr13 1; (try clear hM13); clear hcl13 hcc13 hfr13; replace p13 := eq_true p13; replace q13 := eq_true q13; obtain ⟨Ao19, co19, eo19⟩ := Kd.R_slice HO334.out; subst eo19; have n_ := Aside0.mk (Kd.N_mono (ok' := (fun k_ => (w.heap.size ≤ k_) ∧ some k_ ≠ (.slice Ao19 t332.length co19 : Value).ownBlock ∧ k_ ≠ g)) HO326.out (fun k_ hk => ⟨hk.1.1, ⟨hk.2, hk.1.2⟩⟩)); clear HO326; have HO326 := n_; clear n_; have HX20 := Aside0.mk (show Kd.N k42 42 w18 w.heap.size (fun k_ => (w.heap.size ≤ k_) ∧ k_ ≠ g) (.slice (some ⟨go13, 0, none⟩) t324.length co15) t324 from (by refine cN_ ?_; exact Kd.N_mono HO326.out (fun _ hk => ⟨hk.1, hk.2.2⟩))); obtain ⟨ce20, hcl20, hM20, hcc20, hfr20⟩ := Kd.N_elem HX20.out z42 (t328 : Int) (of_decide_eq_true ca_) (by have h_ : (t328 : Int) < ((t324.length : Int) : Int) := cd_; first | exact h_ | (have e_ := (Kd.N_reads' HO326.out).1; omega) | simpa using h_); obtain ⟨ua20_0, uc20_0, rfl, ul20_0, ge20_0⟩ := k42_openF hM20; have HP20 := Kd.N_seg HX20.out (t328 : Int) (of_decide_eq_true ca_) (by have h_ : (t328 : Int) < ((t324.length : Int) : Int) := cd_; first | exact h_ | (have e_ := (Kd.N_reads' HO326.out).1; omega) | simpa using h_) (seg := [.slice Ao19 t332.length co19]) (j := 0) hcl20 hcc20 (show 1 ≤ 2 from by decide) (x' := (⟨t332, (rd_T42 t324 t328).f1⟩ : S42)) (k42_mkF _ _ (⟨t332, (rd_T42 t324 t328).f1⟩ : S42) (Kd.R_reads' (Kd.R_mono (ok' := (fun k_ => ((fun k_ => (w.heap.size ≤ k_) ∧ k_ ≠ g)) k_ ∧ k_ ≠ go13)) (IsS106.apart HI0.out (Kd.R_apart' (HO334.out) (Kd.N_typed HO326.out) (by decide)) (by decide)) (fun k_ hk => ⟨⟨hk.1.1.1, hk.2⟩, fun e_ => (hk.1.2) (by rw [e_]; rfl)⟩))).2.1 (Kd.R_F (Kd.R_mono (ok' := (fun k_ => ((fun k_ => (w.heap.size ≤ k_) ∧ k_ ≠ g)) k_ ∧ k_ ≠ go13)) (IsS106.apart HI0.out (Kd.R_apart' (HO334.out) (Kd.N_typed HO326.out) (by decide)) (by decide)) (fun k_ hk => ⟨⟨hk.1.1.1, hk.2⟩, fun e_ => (hk.1.2) (by rw [e_]; rfl)⟩)))) (fun _ hk => hk); have hx20_0 := hcc20 0 _ rfl; (try simp only [show (k42).sz = 2 from rfl, Nat.mul_one, Nat.add_zero] at hx20_0); have hf20_0 := hfr20 0; (try simp only [show (k42).sz = 2 from rfl, Nat.mul_one, Nat.add_zero] at hf20_0); (try clear hM20); clear hcl20 hcc20 hfr20) | ((with_reducible refine gate_store (t := 40) (p := 27) rfl ?_); refine store_event (t := 40) (p := 27) (v := ?vo_w21) (w1 := (w18.setCell ⟨go13, (t328 : Int).toNat * 2, none⟩ (.slice Ao19 t332.length co19))) ?hg ?ho ?hn ?hr ?_; (case ho => rfl); (case hg => rfl); (case hn => rfl); (case hr => first | (go_simp; done) | (go_simp; rfl)); intro w21 hw; have hg : w18.grownBy w21 (some go13) := (by rw [hw]; exact HP20.2); have hp_ : Kd.N k42 42 w21 w.heap.size (fun k_ => (w.heap.size ≤ k_) ∧ k_ ≠ g) (.slice (some ⟨go13, 0, none⟩) t324.length co15) y336 := (by rw [hw, Ny336.out]; exact HP20.1); clear HP20; replace HI0 := Aside0.mk (IsS106.grown b13_3 hg (IsS106.own_neN HI0.out HO326.out (by decide))); replace HB := Aside0.mk ((by rw [hw]; exact below_set (HB.out) (Nat.le_trans HL.out GB13.out) : Below w0.heap.size w0 w21)); replace HK := Aside0.mk (KeepBut.trans b13_0 (KeepBut.of_grown hg g) (Kd.N_base2 HO326.out)); replace HO326 := Aside0.mk (hp_); clear HO334; clear hg hw hp_))
   go_ret
   exact ⟨_, ce_, by refine cN_ ?_; exact Kd.N_mono HO326.out (fun _ hk => hk.1), cI_ HI0.out, cB1_ (IsS106.ge HI0.out), cK_ HK.out⟩
  rw [if_neg c12] at H
  exact absurd H (by simp)
 rw [if_neg c9] at H
 have c9b0 : (t330 == 0) = false := beq_eq_false_iff_ne.mpr c9
 have c9b1 : (t330 != 0) = true := bne_iff_ne.mpr c9
 by_cases c22 : t330 = 1
 ·rw [if_pos c22] at H
  have c22b0 : (t330 == 1) = true := beq_iff_eq.mpr c22
  have c22b1 : (t330 != 1) = false := bne_eq_false_iff_eq.mpr c22
  clear c22
  obtain ⟨y337, hy_⟩ : ∃ y_ : List Int, y_ = (([0, 1000000000000, 1000000000001, (-1000000000000), (-1000000000001), (-9223372036854775808)] : List Int)) := ⟨_, rfl⟩
  replace H : ((spec_l1Pick.f s0_0 t331 y337).bind fun bt340 => (if 0 ≤ t328 then (if t328 < (t324.length : Int) then (some ((t324.set (t328 : Int).toNat (⟨(rd_T42 t324 t328).f0, bt340.1⟩ : S42)), bt340.2)) else (none)) else (none))) = some (r1, r2) := yb_
  have Ny337 := Aside0.mk hy_
  clear hy_
  obtain ⟨⟨t340, t341⟩, A23, H⟩ := bnd_ H
  try dsimp only at H
  by_cases c24 : 0 ≤ t328
  rotate_left
  ·rw [if_neg c24] at H
   exact absurd H (by simp)
  rw [if_pos c24] at H
  have c24b0 := decide_eq_true c24
  clear c24
  by_cases c25 : t328 < (t324.length : Int)
  ·rw [if_pos c25] at H
   have c25b0 := decide_eq_true c25
   clear c25
   obtain ⟨y342, hy_⟩ : ∃ y_ : List (S42), y_ = (t324.set (t328 : Int).toNat (⟨(rd_T42 t324 t328).f0, t340⟩ : S42)) := ⟨_, rfl⟩
   replace H : (some (y342, t341)) = some (r1, r2) := yb_
   have Ny342 := Aside0.mk hy_
   clear hy_
   simp only [Option.some.injEq, Prod.mk.injEq] at H
   obtain ⟨rfl, rfl⟩ := H
   go_enter Try.func65, Try.ntmps65
   go_wp2_with (first | (refine gl_ 103 (some 9) Try.func103 #[.pointer (some ⟨g, 0, none⟩), .int .i64 a1] ?_; (with_reducible refine (spec_l2Draw.calls k g s0_0 s0_1 a1 t324 t327 w0 _ ?side1 ?side2 A3.out).mono ?_); (case side1 => exact cI_ HI0.out); (case side2 => exact cB1_ (IsS106.ge HI0.out)); rintro e w27 ⟨v325, rfl, ho0, hi, hb, hk⟩; refine ⟨_, rfl, ?_⟩; have HO326 := Aside0.mk (Kd.N_lower (Kd.N_mono (ok' := fun k_ => (w.heap.size ≤ k_) ∧ k_ ≠ g) ho0 (fun k_ hk_ => ⟨(Nat.le_trans (keep_size (w := w) (g := g) (row := none) b13_0) hk_), (IsS106.fresh b13_3 k_ hk_)⟩)) (keep_size (w := w) (g := g) (row := none) b13_0)); replace HK := Aside0.mk (KeepBut.trans b13_0 hk (.inl rfl)); replace HB := Aside0.mk (hb); replace HI0 := Aside0.mk (hi); (try clear hb); (try clear hb2); (try clear hk); (try clear hi); (try clear ho0); obtain ⟨Ao28, co28, eo28⟩ := Kd.N_slice HO326.out; subst eo28) | (refine gl_ 66 (some 17) Try.func66 #[.pointer (some ⟨g, 0, none⟩), .int .i64 (t324.length : Int)] ?_; (with_reducible refine (spec_l1Next.calls g s0_0 t327 (t324.length : Int) t328 t329 w0 _ ?side1 ?side2 A7.out).mono ?_); (case side1 => exact cI_ HI0.out); (case side2 => exact cB1_ (IsS106.ge HI0.out)); rintro e w29 ⟨rfl, hi, hb, hk⟩; refine ⟨_, rfl, ?_⟩; replace HO326 := Aside0.mk (Kd.N_mono (Kd.N_keep (Kd.N_mono (ok := fun k_ => (((w.heap.size ≤ k_)) ∧ k_ ≠ g)) b13_5 (fun k_ hk_ => (⟨hk_, hk_.2⟩ : _ ∧ k_ ≠ g))) hk (fun _ h => h.2)) (fun _ h => h.1)); replace HK := Aside0.mk (KeepBut.trans b13_0 hk (.inl rfl)); replace HB := Aside0.mk (hb); replace HI0 := Aside0.mk (hi); (try clear hb); (try clear hb2); (try clear hk); (try clear hi)) | (refine gl_ 66 (some 19) Try.func66 #[.pointer (some ⟨g, 0, none⟩), .int .i64 20] ?_; (with_reducible refine (spec_l1Next.calls g s0_0 t329 20 t330 t331 w0 _ ?side1 ?side2 A8.out).mono ?_); (case side1 => exact cI_ HI0.out); (case side2 => exact cB1_ (IsS106.ge HI0.out)); rintro e w30 ⟨rfl, hi, hb, hk⟩; refine ⟨_, rfl, ?_⟩; replace HO326 := Aside0.mk (Kd.N_mono (Kd.N_keep (Kd.N_mono (ok := fun k_ => (((w.heap.size ≤ k_)) ∧ k_ ≠ g)) b13_5 (fun k_ hk_ => (⟨hk_, hk_.2⟩ : _ ∧ k_ ≠ g))) hk (fun _ h => h.2)) (fun _ h => h.1)); replace HK := Aside0.mk (KeepBut.trans b13_0 hk (.inl rfl)); replace HB := Aside0.mk (hb); replace HI0 := Aside0.mk (hi); (try clear hb); (try clear hb2); (try clear hk); (try clear hi)) | ((with_reducible refine gate_dst (N := 33) rfl ?_); refine Kd.R_lit (Kd.int .i64) _ 2 ?hg (N := 33) ?hd (xs := ([0, 1000000000000, 1000000000001, (-1000000000000), (-1000000000001), (-9223372036854775808)] : List Int)) (inner := [.int .i64 0, .int .i64 1000000000000, .int .i64 1000000000001, .int .i64 (-1000000000000), .int .i64 (-1000000000001), .int .i64 (-9223372036854775808)]) (ok := fun _ => True) (okp := fun _ => True) ?hr ?hp (fun _ hk => hk) trivial (Below.refl _ _) (Nat.le_refl _) (by simp) ?_; (case hd => rfl); (case hg => rfl); (case hr => first | (go_simp; done) | (go_simp; rfl)); (case hp => exact (Reps.one (show Kd.M (Kd.int .i64) _ _ _ 0 [.int .i64 0] from rfl) (Reps.one (show Kd.M (Kd.int .i64) _ _ _ 1000000000000 [.int .i64 1000000000000] from rfl) (Reps.one (show Kd.M (Kd.int .i64) _ _ _ 1000000000001 [.int .i64 1000000000001] from rfl) (Reps.one (show Kd.M (Kd.int .i64) _ _ _ (-1000000000000) [.int .i64 (-1000000000000)] from rfl) (Reps.one (show Kd.M (Kd.int .i64) _ _ _ (-1000000000001) [.int .i64 (-1000000000001)] from rfl) (Reps.one (show Kd.M (Kd.int .i64) _ _ _ (-9223372036854775808) [.int .i64 (-9223372036854775808)] from rfl) (Reps.none _ _)))))))); intro v338 w31 ho32 hb hg_ hnew_; clear hg_ hnew_; (first | rw [← Ny337.out] at ho32 | (simp only [Int.reduceToNat] at ho32; rw [← Ny337.out] at ho32)); replace HO326 := Aside0.mk (Kd.N_elder' b13_5 (Kd.R_base ho32) hb); have HO339 := Aside0.mk (Kd.R_lower (Kd.R_newM (M := fun k_ => (w.heap.size ≤ k_)) ho32 (keep_size (w := w) (g := g) (row := none) b13_0) (fun k_ h_ => h_)) (keep_size (w := w) (g := g) (row := none) b13_0)); replace HK := Aside0.mk (KeepBut.trans b13_0 (KeepBut.of_below hb g none) (.inl rfl)); replace HB := Aside0.mk (below_step b13_10 hb); replace HI0 := Aside0.mk (IsS106.below b13_3 hb); clear hb ho32; obtain ⟨Ao33, co33, eo33⟩ := Kd.R_slice HO339.out; subst eo33) | (refine gl_ 68 (some 34) Try.func68 #[.pointer (some ⟨g, 0, none⟩), .slice Ao33 y337.length co33] ?_; (with_reducible refine (spec_l1Pick.calls g s0_0 t331 _ _ y337 t340 t341 w0 _ ?side1 ?side2 ?side3 ?side4 ?side5 A23.out).mono ?_); (case side1 => exact cI_ HI0.out); (case side2 => exact cB1_ (IsS106.ge HI0.out)); (case side3 => exact cC_ ((Kd.R_reads' HO339.out).2.2)); (case side4 => exact (Kd.R_reads' HO339.out).2.1); (case side5 => exact (by exact far_slice (IsS106.own_ne HI0.out HO339.out (by decide)))); rintro e w34 ⟨rfl, hi, hb, hk⟩; refine ⟨_, rfl, ?_⟩; replace HO326 := Aside0.mk (Kd.N_mono (Kd.N_keep (Kd.N_mono (ok := fun k_ => ((((w.heap.size ≤ k_)) ∧ k_ ≠ g) ∧ some k_ ≠ (.slice Ao33 y337.length co33 : Value).ownBlock)) b13_5 (fun k_ hk_ => (⟨hk_, hk_.1.2⟩ : _ ∧ k_ ≠ g))) hk (fun _ h => h.2)) (fun _ h => h.1)); replace HO339 := Aside0.mk (Kd.R_mono (Kd.R_keep (IsS106.apart (show IsS106 w0 _ g s0_0 t331 from by repeat (first | (with_reducible first | exact HI0.out | apply IsS106.alloc | apply IsS106.drewN | apply IsS106.drew | apply IsS106.set_1) | exact HI0.out)) (cR_ HO339.out) (by decide)) hk (fun _ h => h.2)) (fun _ h => h.1)); replace HK := Aside0.mk (KeepBut.trans b13_0 hk (.inl rfl)); replace HB := Aside0.mk (hb); replace HI0 := Aside0.mk (hi); (try clear hb); (try clear hb2); (try clear hk); (try clear hi); have p26 : 0 ≤ (t328 : Int) := cd_; have q26 : (t328 : Int) < ((t324.length : Int) : Int) := cd_; obtain ⟨go26, co26, eo26, gb26, gl26, cl26, HG26⟩ := Kd.N_form HO326.out (by omega); (first | cases eo26 | (injection eo26 with ea_ en_ ec_; (first | subst ea_ | (injection ea_ with ea_; subst ea_)); subst ec_; clear en_)); have GB26 := Aside0.mk gb26; have GG26 := Aside0.mk HG26; clear gb26 gl26 HG26; obtain ⟨ce26, hcl26, hM26, hcc26, hfr26⟩ := Kd.N_elem HO326.out z42 (t328 : Int) p26 q26; obtain ⟨ua26_0, uc26_0, rfl, ul26_0, ge26_0⟩ := k42_openF hM26; have hx26_0 : w34.cell? ⟨go26, (t328 : Int).toNat * 2, none⟩ = some (.slice ua26_0 ((rd_T42 t324 t328).f0).length uc26_0) := hcc26 0 _ rfl; have hx26_1 : w34.cell? ⟨go26, (t328 : Int).toNat * 2 + 1, none⟩ = some (.int .i64 ((rd_T42 t324 t328).f1)) := hcc26 1 _ rfl; have hf26_0 : w34.frozen? ⟨go26, (t328 : Int).toNat * 2, none⟩ = false := hfr26 0; have hf26_1 : w34.frozen? ⟨go26, (t328 : Int).toNat * 2 + 1, none⟩ = false := hfr26 1; (try clear hM26); clear hcl26 hcc26 hfr26; replace p26 := eq_true p26; replace q26 := eq_true q26; have n_ := Aside0.mk (Kd.N_mono (ok' := (fun k_ => (w.heap.size ≤ k_) ∧ some k_ ≠ (.slice Ao33 y337.length co33 : Value).ownBlock ∧ k_ ≠ g)) HO326.out (fun k_ hk => ⟨hk.1.1, ⟨hk.2, hk.1.2⟩⟩)); clear HO326; have HO326 := n_; clear n_; have HX35 := Aside0.mk (show Kd.N k42 42 w34 w.heap.size (fun k_ => (w.heap.size ≤ k_) ∧ some k_ ≠ (.slice Ao33 y337.length co33 : Value).ownBlock ∧ k_ ≠ g) (.slice (some ⟨go26, 0, none⟩) t324.length co28) t324 from b13_5); obtain ⟨ce35, hcl35, hM35, hcc35, hfr35⟩ := Kd.N_elem HX35.out z42 (t328 : Int) (of_decide_eq_true ca_) (by have h_ : (t328 : Int) < ((t324.length : Int) : Int) := cd_; first | exact h_ | (have e_ := (Kd.N_reads' HO326.out).1; omega) | simpa using h_); obtain ⟨ua35_0, uc35_0, rfl, ul35_0, ge35_0⟩ := k42_openF hM35; have HP35 := Kd.N_seg HX35.out (t328 : Int) (of_decide_eq_true ca_) (by have h_ : (t328 : Int) < ((t324.length : Int) : Int) := cd_; first | exact h_ | (have e_ := (Kd.N_reads' HO326.out).1; omega) | simpa using h_) (seg := [.int .i64 t340]) (j := 1) hcl35 hcc35 (show 2 ≤ 2 from by decide) (x' := (⟨(rd_T42 t324 t328).f0, t340⟩ : S42)) (k42_mkF _ _ (⟨(rd_T42 t324 t328).f0, t340⟩ : S42) ul35_0 ge35_0) (fun _ hk => hk); have hx35_1 := hcc35 1 _ rfl; (try simp only [show (k42).sz = 2 from rfl, Nat.mul_one, Nat.add_zero] at hx35_1); have hf35_1 := hfr35 1; (try simp only [show (k42).sz = 2 from rfl, Nat.mul_one, Nat.add_zero] at hf35_1); (try clear hM35); clear hcl35 hcc35 hfr35) | ((with_reducible refine gate_store (t := 2) (p := 36) rfl ?_); refine store_event (t := 2) (p := 36) (v := ?vo_w36) (w1 := (w34.setCell ⟨go26, (t328 : Int).toNat * 2 + 1, none⟩ (.int .i64 t340))) ?hg ?ho ?hn ?hr ?_; (case ho => rfl); (case hg => rfl); (case hn => rfl); (case hr => first | (go_simp; done) | (go_simp; rfl)); intro w36 hw; have hg : w34.grownBy w36 (some go26) := (by rw [hw]; exact HP35.2); have hp_ : Kd.N k42 42 w36 w.heap.size (fun k_ => (w.heap.size ≤ k_) ∧ some k_ ≠ (.slice Ao33 y337.length co33 : Value).ownBlock ∧ k_ ≠ g) (.slice (some ⟨go26, 0, none⟩) t324.length co28) y342 := (by rw [hw, Ny342.out]; exact HP35.1); clear HP35; replace HI0 := Aside0.mk (IsS106.grown b13_3 hg (IsS106.own_neN HI0.out HO326.out (by decide))); replace HO339 := Aside0.mk (Kd.R_over' (v := (.slice (some ⟨go26, 0, none⟩) t324.length co28)) (cR_ HO339.out) (Kd.N_typed HO326.out) (by decide) hg); replace HB := Aside0.mk ((by rw [hw]; exact below_set (HB.out) (Nat.le_trans HL.out GB26.out) : Below w0.heap.size w0 w36)); replace HK := Aside0.mk (KeepBut.trans b13_0 (KeepBut.of_grown hg g) (Kd.N_base2 HO326.out)); replace HO326 := Aside0.mk (hp_); clear hg hw hp_))
   go_ret
   exact ⟨_, ce_, by refine cN_ ?_; exact Kd.N_mono HO326.out (fun _ hk => hk.1), cI_ HI0.out, cB1_ (IsS106.ge HI0.out), cK_ HK.out⟩
  rw [if_neg c25] at H
  exact absurd H (by simp)
 rw [if_neg c22] at H
 have c22b0 : (t330 == 1) = false := beq_eq_false_iff_ne.mpr c22
 have c22b1 : (t330 != 1) = true := bne_iff_ne.mpr c22
 by_cases c37 : t330 = 2
 ·rw [if_pos c37] at H
  have c37b0 : (t330 == 2) = true := beq_iff_eq.mpr c37
  have c37b1 : (t330 != 2) = false := bne_eq_false_iff_eq.mpr c37
  clear c37
  by_cases c38 : 0 ≤ t328
  rotate_left
  ·rw [if_neg c38] at H
   exact absurd H (by simp)
  rw [if_pos c38] at H
  have c38b0 := decide_eq_true c38
  clear c38
  by_cases c39 : t328 < (t324.length : Int)
  rotate_left
  ·rw [if_neg c39] at H
   exact absurd H (by simp)
  rw [if_pos c39] at H
  have c39b0 := decide_eq_true c39
  clear c39
  by_cases c40 : t324.length < 4398046511104
  ·rw [if_pos c40] at H
   have LMc40 := Aside0.mk c40
   clear c40
   obtain ⟨y344, hy_⟩ : ∃ y_ : List (S42), y_ = (t324 ++ [(⟨(rd_T42 t324 t328).f0, (rd_T42 t324 t328).f1⟩ : S42)]) := ⟨_, rfl⟩
   replace H : (some (y344, t331)) = some (r1, r2) := yb_
   have Ny344 := Aside0.mk hy_
   clear hy_
   simp only [Option.some.injEq, Prod.mk.injEq] at H
   obtain ⟨rfl, rfl⟩ := H
   go_enter Try.func65, Try.ntmps65
   go_wp2_with (first | (refine gl_ 103 (some 9) Try.func103 #[.pointer (some ⟨g, 0, none⟩), .int .i64 a1] ?_; (with_reducible refine (spec_l2Draw.calls k g s0_0 s0_1 a1 t324 t327 w0 _ ?side1 ?side2 A3.out).mono ?_); (case side1 => exact cI_ HI0.out); (case side2 => exact cB1_ (IsS106.ge HI0.out)); rintro e w41 ⟨v325, rfl, ho0, hi, hb, hk⟩; refine ⟨_, rfl, ?_⟩; have HO326 := Aside0.mk (Kd.N_lower (Kd.N_mono (ok' := fun k_ => (w.heap.size ≤ k_) ∧ k_ ≠ g) ho0 (fun k_ hk_ => ⟨(Nat.le_trans (keep_size (w := w) (g := g) (row := none) b13_0) hk_), (IsS106.fresh b13_3 k_ hk_)⟩)) (keep_size (w := w) (g := g) (row := none) b13_0)); replace HK := Aside0.mk (KeepBut.trans b13_0 hk (.inl rfl)); replace HB := Aside0.mk (hb); replace HI0 := Aside0.mk (hi); (try clear hb); (try clear hb2); (try clear hk); (try clear hi); (try clear ho0); obtain ⟨Ao42, co42, eo42⟩ := Kd.N_slice HO326.out; subst eo42) | (refine gl_ 66 (some 17) Try.func66 #[.pointer (some ⟨g, 0, none⟩), .int .i64 (t324.length : Int)] ?_; (with_reducible refine (spec_l1Next.calls g s0_0 t327 (t324.length : Int) t328 t329 w0 _ ?side1 ?side2 A7.out).mono ?_); (case side1 => exact cI_ HI0.out); (case side2 => exact cB1_ (IsS106.ge HI0.out)); rintro e w43 ⟨rfl, hi, hb, hk⟩; refine ⟨_, rfl, ?_⟩; replace HO326 := Aside0.mk (Kd.N_mono (Kd.N_keep (Kd.N_mono (ok := fun k_ => (((w.heap.size ≤ k_)) ∧ k_ ≠ g)) b13_5 (fun k_ hk_ => (⟨hk_, hk_.2⟩ : _ ∧ k_ ≠ g))) hk (fun _ h => h.2)) (fun _ h => h.1)); replace HK := Aside0.mk (KeepBut.trans b13_0 hk (.inl rfl)); replace HB := Aside0.mk (hb); replace HI0 := Aside0.mk (hi); (try clear hb); (try clear hb2); (try clear hk); (try clear hi)) | (refine gl_ 66 (some 19) Try.func66 #[.pointer (some ⟨g, 0, none⟩), .int .i64 20] ?_; (with_reducible refine (spec_l1Next.calls g s0_0 t329 20 t330 t331 w0 _ ?side1 ?side2 A8.out).mono ?_); (case side1 => exact cI_ HI0.out); (case side2 => exact cB1_ (IsS106.ge HI0.out)); rintro e w44 ⟨rfl, hi, hb, hk⟩; refine ⟨_, rfl, ?_⟩; replace HO326 := Aside0.mk (Kd.N_mono (Kd.N_keep (Kd.N_mono (ok := fun k_ => (((w.heap.size ≤ k_)) ∧ k_ ≠ g)) b13_5 (fun k_ hk_ => (⟨hk_, hk_.2⟩ : _ ∧ k_ ≠ g))) hk (fun _ h => h.2)) (fun _ h => h.1)); replace HK := Aside0.mk (KeepBut.trans b13_0 hk (.inl rfl)); replace HB := Aside0.mk (hb); replace HI0 := Aside0.mk (hi); (try clear hb); (try clear hb2); (try clear hk); (try clear hi); have p343 : 0 ≤ (t328 : Int) := cd_; have q343 : t328 < (t324.length : Int) := cd_; obtain ⟨ad343, A343_0, c343_0, e343, hx343_0, hx343_1, hl343_0, hi343_0⟩ := at_T42 (Kd.N_reads' HO326.out).2.2 t328 p343 q343; cases e343; obtain ⟨ce343, hce343, hMe343, hcc343⟩ := Kd.N_get HO326.out z42 t328 p343 (by first | exact q343 | exact of_decide_eq_true ca_ | (have e_ := (Kd.N_reads' HO326.out).1; omega)); obtain ⟨ua343_0, uc343_0, rfl, ul343_0, ge343_0⟩ := k42_openF hMe343; have hv343_0 := hcc343 0 _ rfl; rw [Nat.add_zero] at hv343_0; replace hv343_0 := Option.some.inj (hv343_0.symm.trans hx343_0); injection hv343_0 with hva_ hvn_ hvc_; rw [hva_] at ge343_0; rw [hvc_] at ul343_0; have HL343_0 := Aside0.mk (show Kd.V (Kd.int .i64) 2 _ w.heap.size _ _ ((rd_T42 t324 t328).f0) from Kd.V_mk ul343_0 ge343_0); clear hva_ hvn_ hvc_ ge343_0 ul343_0; clear hcc343 hce343; have HR343_0 := Aside0.mk hi343_0; have HC343_0 := Aside0.mk hl343_0; clear hi343_0 hl343_0; replace p343 := eq_true p343; replace q343 := eq_true q343) | ((with_reducible refine gate_builtin (b := .append) (xs := #[.tmp 39, .tmp 44]) rfl ?_); at_builtin; refine Kd.N_append k42 w.heap.size rfl (.tmp 39) (.tmp 44) 24 42 (.agg #[(.slice none 0 0), (.int .i64 0)]) 32 rfl Try.underlying24 info42 rfl (by decide) (by omega) (.slice (some ad343) t324.length co42) t324 (⟨(rd_T42 t324 t328).f0, (rd_T42 t324 t328).f1⟩ : S42) [.slice A343_0 ((rd_T42 t324 t328).f0).length c343_0, .int .i64 ((rd_T42 t324 t328).f1)] (fun k_ => (w.heap.size ≤ k_) ∧ k_ ≠ g) (fun k_ => ((fun k_ => (w.heap.size ≤ k_) ∧ k_ ≠ g)) k_ ∧ some k_ ≠ (.slice (some ad343) t324.length co42 : Value).ownBlock) rfl rfl ?aP (fun _ hk => hk) ?aF ?aO (Below.refl _ _) ?aS ?aL ?_; (case aP => exact (by exact (k42_mkF _ _ (⟨(rd_T42 t324 t328).f0, (rd_T42 t324 t328).f1⟩ : S42) (Kd.V_reads' (Kd.V_mono (ok' := (fun k_ => ((fun k_ => (w.heap.size ≤ k_) ∧ k_ ≠ g)) k_ ∧ some k_ ≠ (.slice (some ad343) t324.length co42 : Value).ownBlock)) (HL343_0.out) (fun k_ hk => ⟨⟨hk.1.1, hk.1.2⟩, hk.2⟩))).2.1 (Kd.V_F (by refine cV_ ?_; exact Kd.V_mono (ok' := (fun k_ => ((fun k_ => (w.heap.size ≤ k_) ∧ k_ ≠ g)) k_ ∧ some k_ ≠ (.slice (some ad343) t324.length co42 : Value).ownBlock)) (HL343_0.out) (fun k_ hk => ⟨⟨hk.1.1, hk.1.2⟩, hk.2⟩)))))); (case aF => exact (by exact (fun k_ hk => ⟨(Nat.le_trans (keep_size (w := w) (g := g) (row := none) b13_0) hk), IsS106.fresh b13_3 k_ hk⟩))); (case aO => exact b13_5); (case aS => exact (by exact (keep_size (w := w) (g := g) (row := none) b13_0))); (case aL => exact co_ LMc40.out); intro v345 w45 ho hb hg hat; rw [← Ny344.out] at ho; replace HL343_0 := Aside0.mk (Kd.V_afterv (ok := (fun k_ => (w.heap.size ≤ k_) ∧ k_ ≠ g)) (cV_ HL343_0.out) hg hat); replace HB := Aside0.mk (below_weaken b13_10 HL.out hb); replace HI0 := Aside0.mk (IsS106.grown b13_3 hg (IsS106.own_neN HI0.out HO326.out (by decide))); replace HK := Aside0.mk (KeepBut.trans b13_0 (KeepBut.of_grown hg g) (Kd.N_base2 HO326.out)); have HO346 := Aside0.mk (ho); clear HO326; clear ho hb hg hat))
   go_ret
   exact ⟨_, ce_, by refine cN_ ?_; exact Kd.N_mono HO346.out (fun _ hk => hk.1), cI_ HI0.out, cB1_ (IsS106.ge HI0.out), cK_ HK.out⟩
  rw [if_neg c40] at H
  exact absurd H (by simp)
 rw [if_neg c37] at H
 have c37b0 : (t330 == 2) = false := beq_eq_false_iff_ne.mpr c37
 have c37b1 : (t330 != 2) = true := bne_iff_ne.mpr c37
 by_cases c46 : t330 = 3
 ·rw [if_pos c46] at H
  have c46b0 : (t330 == 3) = true := beq_iff_eq.mpr c46
  have c46b1 : (t330 != 3) = false := bne_eq_false_iff_eq.mpr c46
  clear c46
  by_cases c47 : 201 ≤ 8796093022208
  ·rw [if_pos c47] at H
   have c47b0 := eq_true c47
   have c47b1 : decide (201 ≤ 8796093022208) = true := decide_eq_true c47
   clear c47
   obtain ⟨y347, hy_⟩ : ∃ y_ : List (S42), y_ = (List.replicate 201 z42) := ⟨_, rfl⟩
   replace H : (some (y347, t331)) = some (r1, r2) := yb_
   have Ny347 := Aside0.mk hy_
   clear hy_
   simp only [Option.some.injEq, Prod.mk.injEq] at H
   obtain ⟨rfl, rfl⟩ := H
   go_enter Try.func65, Try.ntmps65
   go_wp2_with (first | (refine gl_ 103 (some 9) Try.func103 #[.pointer (some ⟨g, 0, none⟩), .int .i64 a1] ?_; (with_reducible refine (spec_l2Draw.calls k g s0_0 s0_1 a1 t324 t327 w0 _ ?side1 ?side2 A3.out).mono ?_); (case side1 => exact cI_ HI0.out); (case side2 => exact cB1_ (IsS106.ge HI0.out)); rintro e w48 ⟨v325, rfl, ho0, hi, hb, hk⟩; refine ⟨_, rfl, ?_⟩; have HO326 := Aside0.mk (Kd.N_lower (Kd.N_mono (ok' := fun k_ => (w.heap.size ≤ k_) ∧ k_ ≠ g) ho0 (fun k_ hk_ => ⟨(Nat.le_trans (keep_size (w := w) (g := g) (row := none) b13_0) hk_), (IsS106.fresh b13_3 k_ hk_)⟩)) (keep_size (w := w) (g := g) (row := none) b13_0)); replace HK := Aside0.mk (KeepBut.trans b13_0 hk (.inl rfl)); replace HB := Aside0.mk (hb); replace HI0 := Aside0.mk (hi); (try clear hb); (try clear hb2); (try clear hk); (try clear hi); (try clear ho0); obtain ⟨Ao49, co49, eo49⟩ := Kd.N_slice HO326.out; subst eo49) | (refine gl_ 66 (some 17) Try.func66 #[.pointer (some ⟨g, 0, none⟩), .int .i64 (t324.length : Int)] ?_; (with_reducible refine (spec_l1Next.calls g s0_0 t327 (t324.length : Int) t328 t329 w0 _ ?side1 ?side2 A7.out).mono ?_); (case side1 => exact cI_ HI0.out); (case side2 => exact cB1_ (IsS106.ge HI0.out)); rintro e w50 ⟨rfl, hi, hb, hk⟩; refine ⟨_, rfl, ?_⟩; replace HO326 := Aside0.mk (Kd.N_mono (Kd.N_keep (Kd.N_mono (ok := fun k_ => (((w.heap.size ≤ k_)) ∧ k_ ≠ g)) b13_5 (fun k_ hk_ => (⟨hk_, hk_.2⟩ : _ ∧ k_ ≠ g))) hk (fun _ h => h.2)) (fun _ h => h.1)); replace HK := Aside0.mk (KeepBut.trans b13_0 hk (.inl rfl)); replace HB := Aside0.mk (hb); replace HI0 := Aside0.mk (hi); (try clear hb); (try clear hb2); (try clear hk); (try clear hi)) | (refine gl_ 66 (some 19) Try.func66 #[.pointer (some ⟨g, 0, none⟩), .int .i64 20] ?_; (with_reducible refine (spec_l1Next.calls g s0_0 t329 20 t330 t331 w0 _ ?side1 ?side2 A8.out).mono ?_); (case side1 => exact cI_ HI0.out); (case side2 => exact cB1_ (IsS106.ge HI0.out)); rintro e w51 ⟨rfl, hi, hb, hk⟩; refine ⟨_, rfl, ?_⟩; replace HO326 := Aside0.mk (Kd.N_mono (Kd.N_keep (Kd.N_mono (ok := fun k_ => (((w.heap.size ≤ k_)) ∧ k_ ≠ g)) b13_5 (fun k_ hk_ => (⟨hk_, hk_.2⟩ : _ ∧ k_ ≠ g))) hk (fun _ h => h.2)) (fun _ h => h.1)); replace HK := Aside0.mk (KeepBut.trans b13_0 hk (.inl rfl)); replace HB := Aside0.mk (hb); replace HI0 := Aside0.mk (hi); (try clear hb); (try clear hb2); (try clear hk); (try clear hi)) | ((with_reducible refine gate_dst (N := 48) rfl ?_); refine Kd.N_make k42 _ 42 rfl (N' := 48) rfl 24 _ _ rfl 201 rfl rfl Try.underlying24 (.agg #[(.slice none 0 0), (.int .i64 0)]) 32 info42 rfl (by decide) (by omega) z42 (ok := fun k_ => w51.heap.size ≤ k_) (okp := fun _ => False) (k42_mkF _ _ z42 (Nat.le_refl _) (Kd.F_nil _ _ _)) (fun _ hk => hk.elim) (Nat.le_refl _) (by omega) (by omega) (Below.refl _ _) (Nat.le_refl _) ?_; intro v348 w52 ho53 hb hg_ hnew_; clear hg_ hnew_; (first | rw [← Ny347.out] at ho53 | (simp only [Int.reduceToNat] at ho53; rw [← Ny347.out] at ho53)); have HO349 := Aside0.mk (Kd.N_lower (Kd.N_mono (ok' := fun k_ => (w.heap.size ≤ k_) ∧ some k_ ≠ (.slice Ao49 t324.length co49 : Value).ownBlock ∧ k_ ≠ g) ho53 (fun k_ hk_ => ⟨(Nat.le_trans (keep_size (w := w) (g := g) (row := none) b13_0) hk_), (Kd.fresh' (Kd.N_lt b13_5) k_ hk_), (IsS106.fresh b13_3 k_ hk_)⟩)) (keep_size (w := w) (g := g) (row := none) b13_0)); replace HO326 := Aside0.mk (Kd.N_elder' b13_5 (Kd.N_base ho53) hb); replace HK := Aside0.mk (KeepBut.trans b13_0 (KeepBut.of_below hb g none) (.inl rfl)); replace HB := Aside0.mk (below_step b13_10 hb); replace HI0 := Aside0.mk (IsS106.below b13_3 hb); clear hb ho53))
   go_ret
   exact ⟨_, ce_, by refine cN_ ?_; exact Kd.N_mono HO349.out (fun _ hk => hk.1), cI_ HI0.out, cB1_ (IsS106.ge HI0.out), cK_ HK.out⟩
  rw [if_neg c47] at H
  exact absurd H (by simp)
 rw [if_neg c46] at H
 have c46b0 : (t330 == 3) = false := beq_eq_false_iff_ne.mpr c46
 have c46b1 : (t330 != 3) = true := bne_iff_ne.mpr c46
 simp only [Option.some.injEq, Prod.mk.injEq] at H
 obtain ⟨rfl, rfl⟩ := H
 go_enter Try.func65, Try.ntmps65
 go_wp2_with (first | (refine gl_ 103 (some 9) Try.func103 #[.pointer (some ⟨g, 0, none⟩), .int .i64 a1] ?_; (with_reducible refine (spec_l2Draw.calls k g s0_0 s0_1 a1 t324 t327 w0 _ ?side1 ?side2 A3.out).mono ?_); (case side1 => exact cI_ HI0.out); (case side2 => exact cB1_ (IsS106.ge HI0.out)); rintro e w54 ⟨v325, rfl, ho0, hi, hb, hk⟩; refine ⟨_, rfl, ?_⟩; have HO326 := Aside0.mk (Kd.N_lower (Kd.N_mono (ok' := fun k_ => (w.heap.size ≤ k_) ∧ k_ ≠ g) ho0 (fun k_ hk_ => ⟨(Nat.le_trans (keep_size (w := w) (g := g) (row := none) b13_0) hk_), (IsS106.fresh b13_3 k_ hk_)⟩)) (keep_size (w := w) (g := g) (row := none) b13_0)); replace HK := Aside0.mk (KeepBut.trans b13_0 hk (.inl rfl)); replace HB := Aside0.mk (hb); replace HI0 := Aside0.mk (hi); (try clear hb); (try clear hb2); (try clear hk); (try clear hi); (try clear ho0); obtain ⟨Ao55, co55, eo55⟩ := Kd.N_slice HO326.out; subst eo55) | (refine gl_ 66 (some 17) Try.func66 #[.pointer (some ⟨g, 0, none⟩), .int .i64 (t324.length : Int)] ?_; (with_reducible refine (spec_l1Next.calls g s0_0 t327 (t324.length : Int) t328 t329 w0 _ ?side1 ?side2 A7.out).mono ?_); (case side1 => exact cI_ HI0.out); (case side2 => exact cB1_ (IsS106.ge HI0.out)); rintro e w56 ⟨rfl, hi, hb, hk⟩; refine ⟨_, rfl, ?_⟩; replace HO326 := Aside0.mk (Kd.N_mono (Kd.N_keep (Kd.N_mono (ok := fun k_ => (((w.heap.size ≤ k_)) ∧ k_ ≠ g)) b13_5 (fun k_ hk_ => (⟨hk_, hk_.2⟩ : _ ∧ k_ ≠ g))) hk (fun _ h => h.2)) (fun _ h => h.1)); replace HK := Aside0.mk (KeepBut.trans b13_0 hk (.inl rfl)); replace HB := Aside0.mk (hb); replace HI0 := Aside0.mk (hi); (try clear hb); (try clear hb2); (try clear hk); (try clear hi)) | (refine gl_ 66 (some 19) Try.func66 #[.pointer (some ⟨g, 0, none⟩), .int .i64 20] ?_; (with_reducible refine (spec_l1Next.calls g s0_0 t329 20 t330 t331 w0 _ ?side1 ?side2 A8.out).mono ?_); (case side1 => exact cI_ HI0.out); (case side2 => exact cB1_ (IsS106.ge HI0.out)); rintro e w57 ⟨rfl, hi, hb, hk⟩; refine ⟨_, rfl, ?_⟩; replace HO326 := Aside0.mk (Kd.N_mono (Kd.N_keep (Kd.N_mono (ok := fun k_ => (((w.heap.size ≤ k_)) ∧ k_ ≠ g)) b13_5 (fun k_ hk_ => (⟨hk_, hk_.2⟩ : _ ∧ k_ ≠ g))) hk (fun _ h => h.2)) (fun _ h => h.1)); replace HK := Aside0.mk (KeepBut.trans b13_0 hk (.inl rfl)); replace HB := Aside0.mk (hb); replace HI0 := Aside0.mk (hi); (try clear hb); (try clear hb2); (try clear hk); (try clear hi)))
 go_ret
 exact ⟨_, ce_, by refine cN_ ?_; exact Kd.N_mono HO326.out (fun _ hk => hk.1), cI_ HI0.out, cB1_ (IsS106.ge HI0.out), cK_ HK.out⟩

/-! ### spec_DrawJoinSets: function 41 -/
def spec_DrawJoinSets.f (k : Nat) (l0 : List Int) : Option ((List (S42)) × (List (S42)) × Int) := (spec_l1Source.f l0).bind fun bt350 => ((spec_l1Next.f bt350.1 bt350.2 2).bind fun bt353 => ((spec_l2Bent.f k bt350.1 bt353.2 (wrap64 (1 + bt353.1))).bind fun bt355 => ((spec_l1Next.f bt350.1 bt355.2 3).bind fun bt359 => ((spec_l2Bent.f k bt350.1 bt359.2 (wrap64 (1 + bt359.1))).bind fun bt361 => (if (bt355.1.length : Int) > 0 then ((spec_l1Chance.f bt350.1 bt361.2 20).bind fun bt365 => (if bt365.1 = true then (if 0 < (bt355.1.length : Int) then ((spec_l1Pick.f bt350.1 bt365.2 (([1, 1, 1, 2, 0, 5] : List Int))).bind fun bt371 => (some ((bt355.1.set (0 : Int).toNat (⟨(rd_T42 bt355.1 0).f0, 1000000000000⟩ : S42)), bt361.1, bt371.1))) else (none)) else ((spec_l1Pick.f bt350.1 bt365.2 (([1, 1, 1, 2, 0, 5] : List Int))).bind fun bt376 => (some (bt355.1, bt361.1, bt376.1))))) else ((spec_l1Pick.f bt350.1 bt361.2 (([1, 1, 1, 2, 0, 5] : List Int))).bind fun bt381 => (some (bt355.1, bt361.1, bt381.1))))))))
theorem spec_DrawJoinSets.mono : ∀ a0 k, LeO (spec_DrawJoinSets.f k a0) (spec_DrawJoinSets.f (k + 1) a0) := by
 intro a0 k
 unfold spec_DrawJoinSets.f
 repeat' first
   | (with_reducible exact spec_l2Bent.mono _ _ _ _)
   | (with_reducible exact LeO.refl _)
   | (with_reducible exact LeO.none _)
   | (with_reducible refine LeO.ite ?_ ?_)
   | (with_reducible refine LeO.bind ?_ (fun _ => ?_))
   | refine LeO.ite ?_ ?_
   | refine LeO.bind ?_ (fun _ => ?_)
theorem spec_DrawJoinSets.calls (k : Nat) (A0 : Option Addr) (c0 : Nat) (l0 : List Int) (r1 : List (S42)) (r2 : List (S42)) (r3 : Int) (w : World) (hr0 : Kd.C (Kd.int .u8) w A0 l0.length l0) (hc0 : l0.length ≤ c0) (h : spec_DrawJoinSets.f k l0 = some (r1, r2, r3)) :
  Calls Try.prog 41 #[.slice A0 l0.length c0] w fun e w' => ∃ v0_ v1_ : Value, e = .returned (.tuple #[v0_, v1_, .int .i64 r3]) ∧ Kd.N k42 42 w' w.heap.size (fun k_ => (w.heap.size ≤ k_) ∧ some k_ ≠ (v1_ : Value).ownBlock) v0_ r1 ∧ Kd.N k42 42 w' w.heap.size (fun k_ => (w.heap.size ≤ k_) ∧ some k_ ≠ (v0_ : Value).ownBlock) v1_ r2 ∧ Below w.heap.size w w' := by
 have HR0 := Aside0.mk hr0
 have HC0 := Aside0.mk hc0
 clear hr0 hc0
 have HB := Aside0.mk (Below.refl w.heap.size w)
 have H : ((spec_l1Source.f l0).bind fun bt350 => ((spec_l1Next.f bt350.1 bt350.2 2).bind fun bt353 => ((spec_l2Bent.f k bt350.1 bt353.2 (wrap64 (1 + bt353.1))).bind fun bt355 => ((spec_l1Next.f bt350.1 bt355.2 3).bind fun bt359 => ((spec_l2Bent.f k bt350.1 bt359.2 (wrap64 (1 + bt359.1))).bind fun bt361 => (if (bt355.1.length : Int) > 0 then ((spec_l1Chance.f bt350.1 bt361.2 20).bind fun bt365 => (if bt365.1 = true then (if 0 < (bt355.1.length : Int) then ((spec_l1Pick.f bt350.1 bt365.2 (([1, 1, 1, 2, 0, 5] : List Int))).bind fun bt371 => (some ((bt355.1.set (0 : Int).toNat (⟨(rd_T42 bt355.1 0).f0, 1000000000000⟩ : S42)), bt361.1, bt371.1))) else (none)) else ((spec_l1Pick.f bt350.1 bt365.2 (([1, 1, 1, 2, 0, 5] : List Int))).bind fun bt376 => (some (bt355.1, bt361.1, bt376.1))))) else ((spec_l1Pick.f bt350.1 bt361.2 (([1, 1, 1, 2, 0, 5] : List Int))).bind fun bt381 => (some (bt355.1, bt361.1, bt381.1))))))))) = some (r1, r2, r3) := h
 clear h
 obtain ⟨⟨t350, t351⟩, A2, H⟩ := bnd_ H
 try dsimp only at H
 obtain ⟨⟨t353, t354⟩, A3, H⟩ := bnd_ H
 try dsimp only at H
 obtain ⟨⟨t355, t358⟩, A4, H⟩ := bnd_ H
 try dsimp only at H
 obtain ⟨⟨t359, t360⟩, A5, H⟩ := bnd_ H
 try dsimp only at H
 obtain ⟨⟨t361, t364⟩, A6, H⟩ := bnd_ H
 try dsimp only at H
 by_cases c7 : (t355.length : Int) > 0
 rotate_left
 ·rw [if_neg c7] at H
  have c7b0 : decide (0 < (t355.length : Int)) = false := decide_eq_false c7
  have c7b1 : decide (0 < t355.length) = false := decide_eq_false (by omega)
  clear c7
  obtain ⟨y378, hy_⟩ : ∃ y_ : List Int, y_ = (([1, 1, 1, 2, 0, 5] : List Int)) := ⟨_, rfl⟩
  replace H : ((spec_l1Pick.f t350 t364 y378).bind fun bt381 => (some (t355, t361, bt381.1))) = some (r1, r2, r3) := yb_
  have Ny378 := Aside0.mk hy_
  clear hy_
  obtain ⟨⟨t381, t382⟩, A38, H⟩ := bnd_ H
  try dsimp only at H
  simp only [Option.some.injEq, Prod.mk.injEq] at H
  obtain ⟨rfl, rfl, rfl⟩ := H
  go_enter Try.func41, Try.ntmps41
  go_wp2_with (first | (refine gl_ 64 (some 9) Try.func64 #[.slice A0 l0.length c0] ?_; (with_reducible refine (spec_l1Source.calls _ _ l0 t350 t351 w _ ?side1 ?side2 ?side3 A2.out).mono ?_); (case side1 => exact cB0_); (case side2 => exact HR0.out); (case side3 => exact HC0.out); rintro e w39 ⟨g352, rfl, hi, hb, hb2⟩; refine ⟨_, rfl, ?_⟩; replace HB := Aside0.mk (hb); have HI352 := Aside0.mk (hi); (try clear hb); (try clear hb2); (try clear hk); (try clear hi)) | (refine gl_ 66 (some 12) Try.func66 #[.pointer (some ⟨g352, 0, none⟩), .int .i64 2] ?_; (with_reducible refine (spec_l1Next.calls g352 t350 t351 2 t353 t354 w _ ?side1 ?side2 A3.out).mono ?_); (case side1 => exact cI_ HI352.out); (case side2 => exact cB1_ (IsS106.ge HI352.out)); rintro e w40 ⟨rfl, hi, hb, hk⟩; refine ⟨_, rfl, ?_⟩; replace HB := Aside0.mk (hb); replace HI352 := Aside0.mk (hi); (try clear hb); (try clear hb2); (try clear hk); (try clear hi)) | (refine gl_ 65 (some 14) Try.func65 #[.pointer (some ⟨g352, 0, none⟩), .int .i64 (wrap64 (1 + t353))] ?_; (with_reducible refine (spec_l2Bent.calls k g352 t350 t354 (wrap64 (1 + t353)) t355 t358 w _ ?side1 ?side2 A4.out).mono ?_); (case side1 => exact cI_ HI352.out); (case side2 => exact cB1_ (IsS106.ge HI352.out)); rintro e w41 ⟨v356, rfl, ho0, hi, hb, hk⟩; refine ⟨_, rfl, ?_⟩; have HO357 := Aside0.mk (Kd.N_lower (Kd.N_mono (ok' := fun k_ => (w.heap.size ≤ k_) ∧ k_ ≠ g352) ho0 (fun k_ hk_ => ⟨(Nat.le_trans (below_size b13_2) hk_), (IsS106.fresh b13_6 k_ hk_)⟩)) (below_size b13_2)); replace HB := Aside0.mk (hb); replace HI352 := Aside0.mk (hi); (try clear hb); (try clear hb2); (try clear hk); (try clear hi); (try clear ho0)) | (refine gl_ 66 (some 17) Try.func66 #[.pointer (some ⟨g352, 0, none⟩), .int .i64 3] ?_; (with_reducible refine (spec_l1Next.calls g352 t350 t358 3 t359 t360 w _ ?side1 ?side2 A5.out).mono ?_); (case side1 => exact cI_ HI352.out); (case side2 => exact cB1_ (IsS106.ge HI352.out)); rintro e w42 ⟨rfl, hi, hb, hk⟩; refine ⟨_, rfl, ?_⟩; replace HO357 := Aside0.mk (Kd.N_mono (Kd.N_keep (Kd.N_mono (ok := fun k_ => (((w.heap.size ≤ k_)) ∧ k_ ≠ g352)) b13_4 (fun k_ hk_ => (⟨hk_, hk_.2⟩ : _ ∧ k_ ≠ g352))) hk (fun _ h => h.2)) (fun _ h => h.1)); replace HB := Aside0.mk (hb); replace HI352 := Aside0.mk (hi); (try clear hb); (try clear hb2); (try clear hk); (try clear hi)) | (refine gl_ 65 (some 19) Try.func65 #[.pointer (some ⟨g352, 0, none⟩), .int .i64 (wrap64 (1 + t359))] ?_; (with_reducible refine (spec_l2Bent.calls k g352 t350 t360 (wrap64 (1 + t359)) t361 t364 w _ ?side1 ?side2 A6.out).mono ?_); (case side1 => exact cI_ HI352.out); (case side2 => exact cB1_ (IsS106.ge HI352.out)); rintro e w43 ⟨v362, rfl, ho0, hi, hb, hk⟩; refine ⟨_, rfl, ?_⟩; have HO363 := Aside0.mk (Kd.N_lower (Kd.N_mono (ok' := fun k_ => (w.heap.size ≤ k_) ∧ some k_ ≠ (v356 : Value).ownBlock ∧ k_ ≠ g352) ho0 (fun k_ hk_ => ⟨(Nat.le_trans (below_size b13_2) hk_), (Kd.fresh' (Kd.N_lt b13_4) k_ hk_), (IsS106.fresh b13_6 k_ hk_)⟩)) (below_size b13_2)); replace HO357 := Aside0.mk (Kd.N_mono (Kd.N_told (Kd.N_oldK (Kd.N_mono (ok := fun k_ => (((w.heap.size ≤ k_)) ∧ k_ ≠ g352)) b13_4 (fun k_ hk_ => (⟨hk_, hk_.2⟩ : _ ∧ k_ ≠ g352))) hk) (Kd.N_base ho0)) (fun _ h_ => h_.1)); replace HB := Aside0.mk (hb); replace HI352 := Aside0.mk (hi); (try clear hb); (try clear hb2); (try clear hk); (try clear hi); (try clear ho0); obtain ⟨Ao44, co44, eo44⟩ := Kd.N_slice HO357.out; subst eo44) | ((with_reducible refine gate_dst (N := 33) rfl ?_); refine Kd.R_lit (Kd.int .i64) _ 2 ?hg (N := 33) ?hd (xs := ([1, 1, 1, 2, 0, 5] : List Int)) (inner := [.int .i64 1, .int .i64 1, .int .i64 1, .int .i64 2, .int .i64 0, .int .i64 5]) (ok := fun _ => True) (okp := fun _ => True) ?hr ?hp (fun _ hk => hk) trivial (Below.refl _ _) (Nat.le_refl _) (by simp) ?_; (case hd => rfl); (case hg => rfl); (case hr => first | (go_simp; done) | (go_simp; rfl)); (case hp => exact (Reps.one (show Kd.M (Kd.int .i64) _ _ _ 1 [.int .i64 1] from rfl) (Reps.one (show Kd.M (Kd.int .i64) _ _ _ 1 [.int .i64 1] from rfl) (Reps.one (show Kd.M (Kd.int .i64) _ _ _ 1 [.int .i64 1] from rfl) (Reps.one (show Kd.M (Kd.int .i64) _ _ _ 2 [.int .i64 2] from rfl) (Reps.one (show Kd.M (Kd.int .i64) _ _ _ 0 [.int .i64 0] from rfl) (Reps.one (show Kd.M (Kd.int .i64) _ _ _ 5 [.int .i64 5] from rfl) (Reps.none _ _)))))))); intro v379 w45 ho46 hb hg_ hnew_; clear hg_ hnew_; (first | rw [← Ny378.out] at ho46 | (simp only [Int.reduceToNat] at ho46; rw [← Ny378.out] at ho46)); replace HO357 := Aside0.mk (Kd.N_elder' b13_4 (Kd.R_base ho46) hb); replace HO363 := Aside0.mk (Kd.N_elder' b13_8 (Kd.R_base ho46) hb); have HO380 := Aside0.mk (Kd.R_lower (Kd.R_newM (M := fun k_ => (w.heap.size ≤ k_)) ho46 (below_size b13_2) (fun k_ h_ => h_)) (below_size b13_2)); replace HB := Aside0.mk (below_step b13_2 hb); replace HI352 := Aside0.mk (IsS106.below b13_6 hb); clear hb ho46; obtain ⟨Ao47, co47, eo47⟩ := Kd.R_slice HO380.out; subst eo47) | (refine gl_ 68 (some 34) Try.func68 #[.pointer (some ⟨g352, 0, none⟩), .slice Ao47 y378.length co47] ?_; (with_reducible refine (spec_l1Pick.calls g352 t350 t364 _ _ y378 t381 t382 w _ ?side1 ?side2 ?side3 ?side4 ?side5 A38.out).mono ?_); (case side1 => exact cI_ HI352.out); (case side2 => exact cB1_ (IsS106.ge HI352.out)); (case side3 => exact cC_ ((Kd.R_reads' HO380.out).2.2)); (case side4 => exact (Kd.R_reads' HO380.out).2.1); (case side5 => exact (by exact far_slice (IsS106.own_ne HI352.out HO380.out (by decide)))); rintro e w48 ⟨rfl, hi, hb, hk⟩; refine ⟨_, rfl, ?_⟩; replace HO357 := Aside0.mk (Kd.N_mono (Kd.N_keep (Kd.N_mono (ok := fun k_ => (((((w.heap.size ≤ k_)) ∧ k_ ≠ g352) ∧ some k_ ≠ (v362 : Value).ownBlock) ∧ some k_ ≠ (.slice Ao47 y378.length co47 : Value).ownBlock)) b13_4 (fun k_ hk_ => (⟨hk_, hk_.1.1.2⟩ : _ ∧ k_ ≠ g352))) hk (fun _ h => h.2)) (fun _ h => h.1)); replace HO363 := Aside0.mk (Kd.N_mono (Kd.N_keep (Kd.N_mono (ok := fun k_ => ((((w.heap.size ≤ k_)) ∧ (some k_ ≠ (.slice Ao44 t355.length co44 : Value).ownBlock ∧ k_ ≠ g352)) ∧ some k_ ≠ (.slice Ao47 y378.length co47 : Value).ownBlock)) b13_8 (fun k_ hk_ => (⟨hk_, hk_.1.2.2⟩ : _ ∧ k_ ≠ g352))) hk (fun _ h => h.2)) (fun _ h => h.1)); replace HO380 := Aside0.mk (Kd.R_mono (Kd.R_keep (IsS106.apart (show IsS106 w _ g352 t350 t364 from by repeat (first | (with_reducible first | exact HI352.out | apply IsS106.alloc | apply IsS106.drewN | apply IsS106.drew | apply IsS106.set_1) | exact HI352.out)) (cR_ HO380.out) (by decide)) hk (fun _ h => h.2)) (fun _ h => h.1)); replace HB := Aside0.mk (hb); replace HI352 := Aside0.mk (hi); (try clear hb); (try clear hb2); (try clear hk); (try clear hi)))
  go_ret3
  exact ⟨_, _, ce_, by refine cN_ ?_; exact Kd.N_mono HO357.out (fun _ hk => ⟨hk.1.1.1, hk.1.2⟩), by refine cN_ ?_; exact Kd.N_mono HO363.out (fun _ hk => ⟨hk.1.1, hk.1.2.1⟩), cB1_ (IsS106.ge HI352.out)⟩
 rw [if_pos c7] at H
 have c7b0 : decide (0 < (t355.length : Int)) = true := decide_eq_true c7
 have c7b1 : decide (0 < t355.length) = true := decide_eq_true (by omega)
 clear c7
 obtain ⟨⟨t365, t366⟩, A8, H⟩ := bnd_ H
 try dsimp only at H
 by_cases c9 : t365 = true
 ·subst c9
  rw [if_pos rfl] at H
  by_cases c10 : 0 < (t355.length : Int)
  rotate_left
  ·rw [if_neg c10] at H
   exact absurd H (by simp)
  rw [if_pos c10] at H
  have c10b0 := decide_eq_true c10
  have c10b1 : decide (0 < t355.length) = true := decide_eq_true (by omega)
  clear c10
  obtain ⟨y367, hy_⟩ : ∃ y_ : List (S42), y_ = (t355.set (0 : Int).toNat (⟨(rd_T42 t355 0).f0, 1000000000000⟩ : S42)) := ⟨_, rfl⟩
  replace H : ((spec_l1Pick.f t350 t366 (([1, 1, 1, 2, 0, 5] : List Int))).bind fun bt371 => (some (y367, t361, bt371.1))) = some (r1, r2, r3) := yb_
  have Ny367 := Aside0.mk hy_
  clear hy_
  obtain ⟨y368, hy_⟩ : ∃ y_ : List Int, y_ = (([1, 1, 1, 2, 0, 5] : List Int)) := ⟨_, rfl⟩
  replace H : ((spec_l1Pick.f t350 t366 y368).bind fun bt371 => (some (y367, t361, bt371.1))) = some (r1, r2, r3) := yb_
  have Ny368 := Aside0.mk hy_
  clear hy_
  obtain ⟨⟨t371, t372⟩, A12, H⟩ := bnd_ H
  try dsimp only at H
  simp only [Option.some.injEq, Prod.mk.injEq] at H
  obtain ⟨rfl, rfl, rfl⟩ := H
  go_enter Try.func41, Try.ntmps41
  go_wp2_with (first | (refine gl_ 64 (some 9) Try.func64 #[.slice A0 l0.length c0] ?_; (with_reducible refine (spec_l1Source.calls _ _ l0 t350 t351 w _ ?side1 ?side2 ?side3 A2.out).mono ?_); (case side1 => exact cB0_); (case side2 => exact HR0.out); (case side3 => exact HC0.out); rintro e w13 ⟨g352, rfl, hi, hb, hb2⟩; refine ⟨_, rfl, ?_⟩; replace HB := Aside0.mk (hb); have HI352 := Aside0.mk (hi); (try clear hb); (try clear hb2); (try clear hk); (try clear hi)) | (refine gl_ 66 (some 12) Try.func66 #[.pointer (some ⟨g352, 0, none⟩), .int .i64 2] ?_; (with_reducible refine (spec_l1Next.calls g352 t350 t351 2 t353 t354 w _ ?side1 ?side2 A3.out).mono ?_); (case side1 => exact cI_ HI352.out); (case side2 => exact cB1_ (IsS106.ge HI352.out)); rintro e w14 ⟨rfl, hi, hb, hk⟩; refine ⟨_, rfl, ?_⟩; replace HB := Aside0.mk (hb); replace HI352 := Aside0.mk (hi); (try clear hb); (try clear hb2); (try clear hk); (try clear hi)) | (refine gl_ 65 (some 14) Try.func65 #[.pointer (some ⟨g352, 0, none⟩), .int .i64 (wrap64 (1 + t353))] ?_; (with_reducible refine (spec_l2Bent.calls k g352 t350 t354 (wrap64 (1 + t353)) t355 t358 w _ ?side1 ?side2 A4.out).mono ?_); (case side1 => exact cI_ HI352.out); (case side2 => exact cB1_ (IsS106.ge HI352.out)); rintro e w15 ⟨v356, rfl, ho0, hi, hb, hk⟩; refine ⟨_, rfl, ?_⟩; have HO357 := Aside0.mk (Kd.N_lower (Kd.N_mono (ok' := fun k_ => (w.heap.size ≤ k_) ∧ k_ ≠ g352) ho0 (fun k_ hk_ => ⟨(Nat.le_trans (below_size b13_2) hk_), (IsS106.fresh b13_6 k_ hk_)⟩)) (below_size b13_2)); replace HB := Aside0.mk (hb); replace HI352 := Aside0.mk (hi); (try clear hb); (try clear hb2); (try clear hk); (try clear hi); (try clear ho0)) | (refine gl_ 66 (some 17) Try.func66 #[.pointer (some ⟨g352, 0, none⟩), .int .i64 3] ?_; (with_reducible refine (spec_l1Next.calls g352 t350 t358 3 t359 t360 w _ ?side1 ?side2 A5.out).mono ?_); (case side1 => exact cI_ HI352.out); (case side2 => exact cB1_ (IsS106.ge HI352.out)); rintro e w16 ⟨rfl, hi, hb, hk⟩; refine ⟨_, rfl, ?_⟩; replace HO357 := Aside0.mk (Kd.N_mono (Kd.N_keep (Kd.N_mono (ok := fun k_ => (((w.heap.size ≤ k_)) ∧ k_ ≠ g352)) b13_4 (fun k_ hk_ => (⟨hk_, hk_.2⟩ : _ ∧ k_ ≠ g352))) hk (fun _ h => h.2)) (fun _ h => h.1)); replace HB := Aside0.mk (hb); replace HI352 := Aside0.mk (hi); (try clear hb); (try clear hb2); (try clear hk); (try clear hi)) | (refine gl_ 65 (some 19) Try.func65 #[.pointer (some ⟨g352, 0, none⟩), .int .i64 (wrap64 (1 + t359))] ?_; (with_reducible refine (spec_l2Bent.calls k g352 t350 t360 (wrap64 (1 + t359)) t361 t364 w _ ?side1 ?side2 A6.out).mono ?_); (case side1 => exact cI_ HI352.out); (case side2 => exact cB1_ (IsS106.ge HI352.out)); rintro e w17 ⟨v362, rfl, ho0, hi, hb, hk⟩; refine ⟨_, rfl, ?_⟩; have HO363 := Aside0.mk (Kd.N_lower (Kd.N_mono (ok' := fun k_ => (w.heap.size ≤ k_) ∧ some k_ ≠ (v356 : Value).ownBlock ∧ k_ ≠ g352) ho0 (fun k_ hk_ => ⟨(Nat.le_trans (below_size b13_2) hk_), (Kd.fresh' (Kd.N_lt b13_4) k_ hk_), (IsS106.fresh b13_6 k_ hk_)⟩)) (below_size b13_2)); replace HO357 := Aside0.mk (Kd.N_mono (Kd.N_told (Kd.N_oldK (Kd.N_mono (ok := fun k_ => (((w.heap.size ≤ k_)) ∧ k_ ≠ g352)) b13_4 (fun k_ hk_ => (⟨hk_, hk_.2⟩ : _ ∧ k_ ≠ g352))) hk) (Kd.N_base ho0)) (fun _ h_ => h_.1)); replace HB := Aside0.mk (hb); replace HI352 := Aside0.mk (hi); (try clear hb); (try clear hb2); (try clear hk); (try clear hi); (try clear ho0); obtain ⟨Ao18, co18, eo18⟩ := Kd.N_slice HO357.out; subst eo18) | (go_at_call 67; (with_reducible refine (spec_l1Chance.calls g352 t350 t364 20 true t366 w _ ?side1 ?side2 A8.out).mono ?_); (case side1 => exact cI_ HI352.out); (case side2 => exact cB1_ (IsS106.ge HI352.out)); rintro e w19 ⟨rfl, hi, hb, hk⟩; replace HO357 := Aside0.mk (Kd.N_mono (Kd.N_keep (Kd.N_mono (ok := fun k_ => ((((w.heap.size ≤ k_)) ∧ k_ ≠ g352) ∧ some k_ ≠ (v362 : Value).ownBlock)) b13_4 (fun k_ hk_ => (⟨hk_, hk_.1.2⟩ : _ ∧ k_ ≠ g352))) hk (fun _ h => h.2)) (fun _ h => h.1)); replace HO363 := Aside0.mk (Kd.N_mono (Kd.N_keep (Kd.N_mono (ok := fun k_ => (((w.heap.size ≤ k_)) ∧ (some k_ ≠ (.slice Ao18 t355.length co18 : Value).ownBlock ∧ k_ ≠ g352))) b13_8 (fun k_ hk_ => (⟨hk_, hk_.2.2⟩ : _ ∧ k_ ≠ g352))) hk (fun _ h => h.2)) (fun _ h => h.1)); replace HB := Aside0.mk (hb); replace HI352 := Aside0.mk (hi); (try clear hb); (try clear hb2); (try clear hk); (try clear hi); have p11 : 0 ≤ (0 : Int) := (by omega); have q11 : (0 : Int) < ((t355.length : Int) : Int) := cd_; have qi11 : (0 < t355.length) = True := eq_true (by omega); obtain ⟨go11, co11, eo11, gb11, gl11, cl11, HG11⟩ := Kd.N_form HO357.out (by omega); (first | cases eo11 | (injection eo11 with ea_ en_ ec_; (first | subst ea_ | (injection ea_ with ea_; subst ea_)); subst ec_; clear en_)); have GB11 := Aside0.mk gb11; have GG11 := Aside0.mk HG11; clear gb11 gl11 HG11; obtain ⟨ce11, hcl11, hM11, hcc11, hfr11⟩ := Kd.N_elem HO357.out z42 (0 : Int) p11 q11; obtain ⟨ua11_0, uc11_0, rfl, ul11_0, ge11_0⟩ := k42_openF hM11; have hx11_0 : w19.cell? ⟨go11, (0 : Int).toNat * 2, none⟩ = some (.slice ua11_0 ((rd_T42 t355 0).f0).length uc11_0) := hcc11 0 _ rfl; have hx11_1 : w19.cell? ⟨go11, (0 : Int).toNat * 2 + 1, none⟩ = some (.int .i64 ((rd_T42 t355 0).f1)) := hcc11 1 _ rfl; have hf11_0 : w19.frozen? ⟨go11, (0 : Int).toNat * 2, none⟩ = false := hfr11 0; have hf11_1 : w19.frozen? ⟨go11, (0 : Int).toNat * 2 + 1, none⟩ = false := hfr11 1; (try clear hM11); clear hcl11 hcc11 hfr11; (try rw [show ((0 : Int)).toNat = 0 from rfl] at hx11_0); (try simp only [Nat.reduceMul, Nat.zero_mul, Nat.zero_add, Nat.reduceAdd] at hx11_0); (try rw [show ((0 : Int)).toNat = 0 from rfl] at hf11_0); (try simp only [Nat.reduceMul, Nat.zero_mul, Nat.zero_add, Nat.reduceAdd] at hf11_0); (try rw [show ((0 : Int)).toNat = 0 from rfl] at hx11_1); (try simp only [Nat.reduceMul, Nat.zero_mul, Nat.zero_add, Nat.reduceAdd] at hx11_1); (try rw [show ((0 : Int)).toNat = 0 from rfl] at hf11_1); (try simp only [Nat.reduceMul, Nat.zero_mul, Nat.zero_add, Nat.reduceAdd] at hf11_1); replace p11 := eq_true p11; replace q11 := eq_true q11; have n_ := Aside0.mk (Kd.N_mono (ok' := (fun k_ => (w.heap.size ≤ k_) ∧ some k_ ≠ (v362 : Value).ownBlock ∧ k_ ≠ g352)) HO357.out (fun k_ hk => ⟨hk.1.1, ⟨hk.2, hk.1.2⟩⟩)); clear HO357; have HO357 := n_; clear n_; have HX20 := Aside0.mk (show Kd.N k42 42 w19 w.heap.size (fun k_ => (w.heap.size ≤ k_) ∧ some k_ ≠ (v362 : Value).ownBlock ∧ k_ ≠ g352) (.slice (some ⟨go11, 0, none⟩) t355.length co18) t355 from b13_4); obtain ⟨ce20, hcl20, hM20, hcc20, hfr20⟩ := Kd.N_elem HX20.out z42 (0 : Int) (by omega) (by have h_ : (0 : Int) < ((t355.length : Int) : Int) := cd_; first | exact h_ | (have e_ := (Kd.N_reads' HO357.out).1; omega) | simpa using h_); obtain ⟨ua20_0, uc20_0, rfl, ul20_0, ge20_0⟩ := k42_openF hM20; have HP20 := Kd.N_seg HX20.out (0 : Int) (by omega) (by have h_ : (0 : Int) < ((t355.length : Int) : Int) := cd_; first | exact h_ | (have e_ := (Kd.N_reads' HO357.out).1; omega) | simpa using h_) (seg := [.int .i64 1000000000000]) (j := 1) hcl20 hcc20 (show 2 ≤ 2 from by decide) (x' := (⟨(rd_T42 t355 0).f0, 1000000000000⟩ : S42)) (k42_mkF _ _ (⟨(rd_T42 t355 0).f0, 1000000000000⟩ : S42) ul20_0 ge20_0) (fun _ hk => hk); have hx20_1 := hcc20 1 _ rfl; (try simp only [show (k42).sz = 2 from rfl, Nat.mul_one, Nat.add_zero] at hx20_1); (try rw [show ((0 : Int)).toNat = 0 from rfl] at hx20_1); (try simp only [Nat.reduceMul, Nat.zero_mul, Nat.zero_add, Nat.reduceAdd] at hx20_1); have hf20_1 := hfr20 1; (try simp only [show (k42).sz = 2 from rfl, Nat.mul_one, Nat.add_zero] at hf20_1); (try rw [show ((0 : Int)).toNat = 0 from rfl] at hf20_1); (try simp only [Nat.reduceMul, Nat.zero_mul, Nat.zero_add, Nat.reduceAdd] at hf20_1); (try clear hM20); clear hcl20 hcc20 hfr20) | ((with_reducible refine gate_store (t := 2) (p := 29) rfl ?_); refine store_event (t := 2) (p := 29) (v := ?vo_w21) (w1 := (w19.setCell ⟨go11, 1, none⟩ (.int .i64 1000000000000))) ?hg ?ho ?hn ?hr ?_; (case ho => rfl); (case hg => rfl); (case hn => rfl); (case hr => first | (go_simp; done) | (go_simp; rfl)); intro w21 hw; have hg : w19.grownBy w21 (some go11) := (by rw [hw]; exact HP20.2); have hp_ : Kd.N k42 42 w21 w.heap.size (fun k_ => (w.heap.size ≤ k_) ∧ some k_ ≠ (v362 : Value).ownBlock ∧ k_ ≠ g352) (.slice (some ⟨go11, 0, none⟩) t355.length co18) y367 := (by rw [hw, Ny367.out]; exact HP20.1); clear HP20; replace HI352 := Aside0.mk (IsS106.grown b13_6 hg (IsS106.own_neN HI352.out HO357.out (by decide))); replace HO357 := Aside0.mk (hp_); replace HO363 := Aside0.mk (Kd.N_afterv (v := (.slice (some ⟨go11, 0, none⟩) t355.length co18)) (v1 := (.slice (some ⟨go11, 0, none⟩) t355.length co18)) (ok := (fun k_ => (w.heap.size ≤ k_) ∧ k_ ≠ g352)) (by refine cN_ ?_; exact Kd.N_mono HO363.out (fun _ hk => ⟨⟨hk.1, hk.2.2⟩, hk.2.1⟩)) hg (.inl rfl)); replace HB := Aside0.mk ((by rw [hw]; exact below_set (HB.out) GB11.out : Below w.heap.size w w21)); clear hg hw hp_) | ((with_reducible refine gate_dst (N := 33) rfl ?_); refine Kd.R_lit (Kd.int .i64) _ 2 ?hg (N := 33) ?hd (xs := ([1, 1, 1, 2, 0, 5] : List Int)) (inner := [.int .i64 1, .int .i64 1, .int .i64 1, .int .i64 2, .int .i64 0, .int .i64 5]) (ok := fun _ => True) (okp := fun _ => True) ?hr ?hp (fun _ hk => hk) trivial (Below.refl _ _) (Nat.le_refl _) (by simp) ?_; (case hd => rfl); (case hg => rfl); (case hr => first | (go_simp; done) | (go_simp; rfl)); (case hp => exact (Reps.one (show Kd.M (Kd.int .i64) _ _ _ 1 [.int .i64 1] from rfl) (Reps.one (show Kd.M (Kd.int .i64) _ _ _ 1 [.int .i64 1] from rfl) (Reps.one (show Kd.M (Kd.int .i64) _ _ _ 1 [.int .i64 1] from rfl) (Reps.one (show Kd.M (Kd.int .i64) _ _ _ 2 [.int .i64 2] from rfl) (Reps.one (show Kd.M (Kd.int .i64) _ _ _ 0 [.int .i64 0] from rfl) (Reps.one (show Kd.M (Kd.int .i64) _ _ _ 5 [.int .i64 5] from rfl) (Reps.none _ _)))))))); intro v369 w22 ho23 hb hg_ hnew_; clear hg_ hnew_; (first | rw [← Ny368.out] at ho23 | (simp only [Int.reduceToNat] at ho23; rw [← Ny368.out] at ho23)); replace HO357 := Aside0.mk (Kd.N_elder' b13_4 (Kd.R_base ho23) hb); replace HO363 := Aside0.mk (Kd.N_elder' b13_8 (Kd.R_base ho23) hb); have HO370 := Aside0.mk (Kd.R_lower (Kd.R_newM (M := fun k_ => (w.heap.size ≤ k_)) ho23 (below_size b13_2) (fun k_ h_ => h_)) (below_size b13_2)); replace HB := Aside0.mk (below_step b13_2 hb); replace HI352 := Aside0.mk (IsS106.below b13_6 hb); clear hb ho23; obtain ⟨Ao24, co24, eo24⟩ := Kd.R_slice HO370.out; subst eo24) | (refine gl_ 68 (some 34) Try.func68 #[.pointer (some ⟨g352, 0, none⟩), .slice Ao24 y368.length co24] ?_; (with_reducible refine (spec_l1Pick.calls g352 t350 t366 _ _ y368 t371 t372 w _ ?side1 ?side2 ?side3 ?side4 ?side5 A12.out).mono ?_); (case side1 => exact cI_ HI352.out); (case side2 => exact cB1_ (IsS106.ge HI352.out)); (case side3 => exact cC_ ((Kd.R_reads' HO370.out).2.2)); (case side4 => exact (Kd.R_reads' HO370.out).2.1); (case side5 => exact (by exact far_slice (IsS106.own_ne HI352.out HO370.out (by decide)))); rintro e w25 ⟨rfl, hi, hb, hk⟩; refine ⟨_, rfl, ?_⟩; replace HO357 := Aside0.mk (Kd.N_mono (Kd.N_keep (Kd.N_mono (ok := fun k_ => ((((w.heap.size ≤ k_)) ∧ (some k_ ≠ (v362 : Value).ownBlock ∧ k_ ≠ g352)) ∧ some k_ ≠ (.slice Ao24 y368.length co24 : Value).ownBlock)) b13_4 (fun k_ hk_ => (⟨hk_, hk_.1.2.2⟩ : _ ∧ k_ ≠ g352))) hk (fun _ h => h.2)) (fun _ h => h.1)); replace HO363 := Aside0.mk (Kd.N_mono (Kd.N_keep (Kd.N_mono (ok := fun k_ => (((((w.heap.size ≤ k_)) ∧ k_ ≠ g352) ∧ some k_ ≠ (.slice (some ⟨go11, 0, none⟩) t355.length co18 : Value).ownBlock) ∧ some k_ ≠ (.slice Ao24 y368.length co24 : Value).ownBlock)) b13_8 (fun k_ hk_ => (⟨hk_, hk_.1.1.2⟩ : _ ∧ k_ ≠ g352))) hk (fun _ h => h.2)) (fun _ h => h.1)); replace HO370 := Aside0.mk (Kd.R_mono (Kd.R_keep (IsS106.apart (show IsS106 w _ g352 t350 t366 from by repeat (first | (with_reducible first | exact HI352.out | apply IsS106.alloc | apply IsS106.drewN | apply IsS106.drew | apply IsS106.set_1) | exact HI352.out)) (cR_ HO370.out) (by decide)) hk (fun _ h => h.2)) (fun _ h => h.1)); replace HB := Aside0.mk (hb); replace HI352 := Aside0.mk (hi); (try clear hb); (try clear hb2); (try clear hk); (try clear hi)))
  go_ret3
  exact ⟨_, _, ce_, by refine cN_ ?_; exact Kd.N_mono HO357.out (fun _ hk => ⟨hk.1.1, hk.1.2.1⟩), by refine cN_ ?_; exact Kd.N_mono HO363.out (fun _ hk => ⟨hk.1.1.1, hk.1.2⟩), cB1_ (IsS106.ge HI352.out)⟩
 replace c9 := Bool.eq_false_iff.mpr c9
 subst c9
 rw [if_neg (show ¬ (false = true) by decide)] at H
 obtain ⟨y373, hy_⟩ : ∃ y_ : List Int, y_ = (([1, 1, 1, 2, 0, 5] : List Int)) := ⟨_, rfl⟩
 replace H : ((spec_l1Pick.f t350 t366 y373).bind fun bt376 => (some (t355, t361, bt376.1))) = some (r1, r2, r3) := yb_
 have Ny373 := Aside0.mk hy_
 clear hy_
 obtain ⟨⟨t376, t377⟩, A26, H⟩ := bnd_ H
 try dsimp only at H
 simp only [Option.some.injEq, Prod.mk.injEq] at H
 obtain ⟨rfl, rfl, rfl⟩ := H
 go_enter Try.func41, Try.ntmps41
 go_wp2_with (first | (refine gl_ 64 (some 9) Try.func64 #[.slice A0 l0.length c0] ?_; (with_reducible refine (spec_l1Source.calls _ _ l0 t350 t351 w _ ?side1 ?side2 ?side3 A2.out).mono ?_); (case side1 => exact cB0_); (case side2 => exact HR0.out); (case side3 => exact HC0.out); rintro e w27 ⟨g352, rfl, hi, hb, hb2⟩; refine ⟨_, rfl, ?_⟩; replace HB := Aside0.mk (hb); have HI352 := Aside0.mk (hi); (try clear hb); (try clear hb2); (try clear hk); (try clear hi)) | (refine gl_ 66 (some 12) Try.func66 #[.pointer (some ⟨g352, 0, none⟩), .int .i64 2] ?_; (with_reducible refine (spec_l1Next.calls g352 t350 t351 2 t353 t354 w _ ?side1 ?side2 A3.out).mono ?_); (case side1 => exact cI_ HI352.out); (case side2 => exact cB1_ (IsS106.ge HI352.out)); rintro e w28 ⟨rfl, hi, hb, hk⟩; refine ⟨_, rfl, ?_⟩; replace HB := Aside0.mk (hb); replace HI352 := Aside0.mk (hi); (try clear hb); (try clear hb2); (try clear hk); (try clear hi)) | (refine gl_ 65 (some 14) Try.func65 #[.pointer (some ⟨g352, 0, none⟩), .int .i64 (wrap64 (1 + t353))] ?_; (with_reducible refine (spec_l2Bent.calls k g352 t350 t354 (wrap64 (1 + t353)) t355 t358 w _ ?side1 ?side2 A4.out).mono ?_); (case side1 => exact cI_ HI352.out); (case side2 => exact cB1_ (IsS106.ge HI352.out)); rintro e w29 ⟨v356, rfl, ho0, hi, hb, hk⟩; refine ⟨_, rfl, ?_⟩; have HO357 := Aside0.mk (Kd.N_lower (Kd.N_mono (ok' := fun k_ => (w.heap.size ≤ k_) ∧ k_ ≠ g352) ho0 (fun k_ hk_ => ⟨(Nat.le_trans (below_size b13_2) hk_), (IsS106.fresh b13_6 k_ hk_)⟩)) (below_size b13_2)); replace HB := Aside0.mk (hb); replace HI352 := Aside0.mk (hi); (try clear hb); (try clear hb2); (try clear hk); (try clear hi); (try clear ho0)) | (refine gl_ 66 (some 17) Try.func66 #[.pointer (some ⟨g352, 0, none⟩), .int .i64 3] ?_; (with_reducible refine (spec_l1Next.calls g352 t350 t358 3 t359 t360 w _ ?side1 ?side2 A5.out).mono ?_); (case side1 => exact cI_ HI352.out); (case side2 => exact cB1_ (IsS106.ge HI352.out)); rintro e w30 ⟨rfl, hi, hb, hk⟩; refine ⟨_, rfl, ?_⟩; replace HO357 := Aside0.mk (Kd.N_mono (Kd.N_keep (Kd.N_mono (ok := fun k_ => (((w.heap.size ≤ k_)) ∧ k_ ≠ g352)) b13_4 (fun k_ hk_ => (⟨hk_, hk_.2⟩ : _ ∧ k_ ≠ g352))) hk (fun _ h => h.2)) (fun _ h => h.1)); replace HB := Aside0.mk (hb); replace HI352 := Aside0.mk (hi); (try clear hb); (try clear hb2); (try clear hk); (try clear hi)) | (refine gl_ 65 (some 19) Try.func65 #[.pointer (some ⟨g352, 0, none⟩), .int .i64 (wrap64 (1 + t359))] ?_; (with_reducible refine (spec_l2Bent.calls k g352 t350 t360 (wrap64 (1 + t359)) t361 t364 w _ ?side1 ?side2 A6.out).mono ?_); (case side1 => exact cI_ HI352.out); (case side2 => exact cB1_ (IsS106.ge HI352.out)); rintro e w31 ⟨v362, rfl, ho0, hi, hb, hk⟩; refine ⟨_, rfl, ?_⟩; have HO363 := Aside0.mk (Kd.N_lower (Kd.N_mono (ok' := fun k_ => (w.heap.size ≤ k_) ∧ some k_ ≠ (v356 : Value).ownBlock ∧ k_ ≠ g352) ho0 (fun k_ hk_ => ⟨(Nat.le_trans (below_size b13_2) hk_), (Kd.fresh' (Kd.N_lt b13_4) k_ hk_), (IsS106.fresh b13_6 k_ hk_)⟩)) (below_size b13_2)); replace HO357 := Aside0.mk (Kd.N_mono (Kd.N_told (Kd.N_oldK (Kd.N_mono (ok := fun k_ => (((w.heap.size ≤ k_)) ∧ k_ ≠ g352)) b13_4 (fun k_ hk_ => (⟨hk_, hk_.2⟩ : _ ∧ k_ ≠ g352))) hk) (Kd.N_base ho0)) (fun _ h_ => h_.1)); replace HB := Aside0.mk (hb); replace HI352 := Aside0.mk (hi); (try clear hb); (try clear hb2); (try clear hk); (try clear hi); (try clear ho0); obtain ⟨Ao32, co32, eo32⟩ := Kd.N_slice HO357.out; subst eo32) | (go_at_call 67; (with_reducible refine (spec_l1Chance.calls g352 t350 t364 20 false t366 w _ ?side1 ?side2 A8.out).mono ?_); (case side1 => exact cI_ HI352.out); (case side2 => exact cB1_ (IsS106.ge HI352.out)); rintro e w33 ⟨rfl, hi, hb, hk⟩; replace HO357 := Aside0.mk (Kd.N_mono (Kd.N_keep (Kd.N_mono (ok := fun k_ => ((((w.heap.size ≤ k_)) ∧ k_ ≠ g352) ∧ some k_ ≠ (v362 : Value).ownBlock)) b13_4 (fun k_ hk_ => (⟨hk_, hk_.1.2⟩ : _ ∧ k_ ≠ g352))) hk (fun _ h => h.2)) (fun _ h => h.1)); replace HO363 := Aside0.mk (Kd.N_mono (Kd.N_keep (Kd.N_mono (ok := fun k_ => (((w.heap.size ≤ k_)) ∧ (some k_ ≠ (.slice Ao32 t355.length co32 : Value).ownBlock ∧ k_ ≠ g352))) b13_8 (fun k_ hk_ => (⟨hk_, hk_.2.2⟩ : _ ∧ k_ ≠ g352))) hk (fun _ h => h.2)) (fun _ h => h.1)); replace HB := Aside0.mk (hb); replace HI352 := Aside0.mk (hi); (try clear hb); (try clear hb2); (try clear hk); (try clear hi)) | ((with_reducible refine gate_dst (N := 33) rfl ?_); refine Kd.R_lit (Kd.int .i64) _ 2 ?hg (N := 33) ?hd (xs := ([1, 1, 1, 2, 0, 5] : List Int)) (inner := [.int .i64 1, .int .i64 1, .int .i64 1, .int .i64 2, .int .i64 0, .int .i64 5]) (ok := fun _ => True) (okp := fun _ => True) ?hr ?hp (fun _ hk => hk) trivial (Below.refl _ _) (Nat.le_refl _) (by simp) ?_; (case hd => rfl); (case hg => rfl); (case hr => first | (go_simp; done) | (go_simp; rfl)); (case hp => exact (Reps.one (show Kd.M (Kd.int .i64) _ _ _ 1 [.int .i64 1] from rfl) (Reps.one (show Kd.M (Kd.int .i64) _ _ _ 1 [.int .i64 1] from rfl) (Reps.one (show Kd.M (Kd.int .i64) _ _ _ 1 [.int .i64 1] from rfl) (Reps.one (show Kd.M (Kd.int .i64) _ _ _ 2 [.int .i64 2] from rfl) (Reps.one (show Kd.M (Kd.int .i64) _ _ _ 0 [.int .i64 0] from rfl) (Reps.one (show Kd.M (Kd.int .i64) _ _ _ 5 [.int .i64 5] from rfl) (Reps.none _ _)))))))); intro v374 w34 ho35 hb hg_ hnew_; clear hg_ hnew_; (first | rw [← Ny373.out] at ho35 | (simp only [Int.reduceToNat] at ho35; rw [← Ny373.out] at ho35)); replace HO357 := Aside0.mk (Kd.N_elder' b13_4 (Kd.R_base ho35) hb); replace HO363 := Aside0.mk (Kd.N_elder' b13_8 (Kd.R_base ho35) hb); have HO375 := Aside0.mk (Kd.R_lower (Kd.R_newM (M := fun k_ => (w.heap.size ≤ k_)) ho35 (below_size b13_2) (fun k_ h_ => h_)) (below_size b13_2)); replace HB := Aside0.mk (below_step b13_2 hb); replace HI352 := Aside0.mk (IsS106.below b13_6 hb); clear hb ho35; obtain ⟨Ao36, co36, eo36⟩ := Kd.R_slice HO375.out; subst eo36) | (refine gl_ 68 (some 34) Try.func68 #[.pointer (some ⟨g352, 0, none⟩), .slice Ao36 y373.length co36] ?_; (with_reducible refine (spec_l1Pick.calls g352 t350 t366 _ _ y373 t376 t377 w _ ?side1 ?side2 ?side3 ?side4 ?side5 A26.out).mono ?_); (case side1 => exact cI_ HI352.out); (case side2 => exact cB1_ (IsS106.ge HI352.out)); (case side3 => exact cC_ ((Kd.R_reads' HO375.out).2.2)); (case side4 => exact (Kd.R_reads' HO375.out).2.1); (case side5 => exact (by exact far_slice (IsS106.own_ne HI352.out HO375.out (by decide)))); rintro e w37 ⟨rfl, hi, hb, hk⟩; refine ⟨_, rfl, ?_⟩; replace HO357 := Aside0.mk (Kd.N_mono (Kd.N_keep (Kd.N_mono (ok := fun k_ => (((((w.heap.size ≤ k_)) ∧ k_ ≠ g352) ∧ some k_ ≠ (v362 : Value).ownBlock) ∧ some k_ ≠ (.slice Ao36 y373.length co36 : Value).ownBlock)) b13_4 (fun k_ hk_ => (⟨hk_, hk_.1.1.2⟩ : _ ∧ k_ ≠ g352))) hk (fun _ h => h.2)) (fun _ h => h.1)); replace HO363 := Aside0.mk (Kd.N_mono (Kd.N_keep (Kd.N_mono (ok := fun k_ => ((((w.heap.size ≤ k_)) ∧ (some k_ ≠ (.slice Ao32 t355.length co32 : Value).ownBlock ∧ k_ ≠ g352)) ∧ some k_ ≠ (.slice Ao36 y373.length co36 : Value).ownBlock)) b13_8 (fun k_ hk_ => (⟨hk_, hk_.1.2.2⟩ : _ ∧ k_ ≠ g352))) hk (fun _ h => h.2)) (fun _ h => h.1)); replace HO375 := Aside0.mk (Kd.R_mono (Kd.R_keep (IsS106.apart (show IsS106 w _ g352 t350 t366 from by repeat (first | (with_reducible first | exact HI352.out | apply IsS106.alloc | apply IsS106.drewN | apply IsS106.drew | apply IsS106.set_1) | exact HI352.out)) (cR_ HO375.out) (by decide)) hk (fun _ h => h.2)) (fun _ h => h.1)); replace HB := Aside0.mk (hb); replace HI352 := Aside0.mk (hi); (try clear hb); (try clear hb2); (try clear hk); (try clear hi)))
 go_ret3
 exact ⟨_, _, ce_, by refine cN_ ?_; exact Kd.N_mono HO357.out (fun _ hk => ⟨hk.1.1.1, hk.1.2⟩), by refine cN_ ?_; exact Kd.N_mono HO363.out (fun _ hk => ⟨hk.1.1, hk.1.2.1⟩), cB1_ (IsS106.ge HI352.out)⟩

/-! ### laws_lwAt: function 42 -/
def laws_lwAt.f (l0 : List Int) (a1 : Int) (a2 : Int) : Option (Int) := if a2 ≤ 1 then (some 0) else (if (l0.length : Int) = 0 then (if a2 = 0 then (none) else (some (Int.tmod (wrap64 (a1 * 7)) a2))) else (if 0 ≤ (Int.tmod a1 (l0.length : Int)) then (if (Int.tmod a1 (l0.length : Int)) < (l0.length : Int) then (if a2 > 200 then (if 0 ≤ (Int.tmod (wrap64 (a1 + 1)) (l0.length : Int)) then (if (Int.tmod (wrap64 (a1 + 1)) (l0.length : Int)) < (l0.length : Int) then (if a2 = 0 then (none) else (some (Int.tmod (wrap64 ((wrap64 ((wrap64 ((wrap64 (rd l0 (Int.tmod a1 (l0.length : Int)))) + (wrap64 ((wrap64 (Int.tdiv a1 (l0.length : Int))) * 3)))) * 251)) + (wrap64 (rd l0 (Int.tmod (wrap64 (a1 + 1)) (l0.length : Int)))))) a2))) else (none)) else (none)) else (if a2 = 0 then (none) else (some (Int.tmod (wrap64 ((wrap64 (rd l0 (Int.tmod a1 (l0.length : Int)))) + (wrap64 ((wrap64 (Int.tdiv a1 (l0.length : Int))) * 3)))) a2)))) else (none)) else (none)))
theorem laws_lwAt.calls (A0 : Option Addr) (c0 : Nat) (l0 : List Int) (a1 : Int) (a2 : Int) (r : Int) (w : World) (hr0 : Kd.C (Kd.int .u8) w A0 l0.length l0) (hc0 : l0.length ≤ c0) (h : laws_lwAt.f l0 a1 a2 = some r) :
  Calls Try.prog 42 #[.slice A0 l0.length c0, .int .i64 a1, .int .i64 a2] w fun e w' => e = .returned (.int .i64 r) ∧ Drawn0 w w' := by
 have HR0 := Aside0.mk hr0
 have HC0 := Aside0.mk hc0
 clear hr0 hc0
 have H : (if a2 ≤ 1 then (some 0) else (if (l0.length : Int) = 0 then (if a2 = 0 then (none) else (some (Int.tmod (wrap64 (a1 * 7)) a2))) else (if 0 ≤ (Int.tmod a1 (l0.length : Int)) then (if (Int.tmod a1 (l0.length : Int)) < (l0.length : Int) then (if a2 > 200 then (if 0 ≤ (Int.tmod (wrap64 (a1 + 1)) (l0.length : Int)) then (if (Int.tmod (wrap64 (a1 + 1)) (l0.length : Int)) < (l0.length : Int) then (if a2 = 0 then (none) else (some (Int.tmod (wrap64 ((wrap64 ((wrap64 ((wrap64 (rd l0 (Int.tmod a1 (l0.length : Int)))) + (wrap64 ((wrap64 (Int.tdiv a1 (l0.length : Int))) * 3)))) * 251)) + (wrap64 (rd l0 (Int.tmod (wrap64 (a1 + 1)) (l0.length : Int)))))) a2))) else (none)) else (none)) else (if a2 = 0 then (none) else (some (Int.tmod (wrap64 ((wrap64 (rd l0 (Int.tmod a1 (l0.length : Int)))) + (wrap64 ((wrap64 (Int.tdiv a1 (l0.length : Int))) * 3)))) a2)))) else (none)) else (none)))) = some r := h
 clear h
 by_cases c4 : a2 ≤ 1
 ·rw [if_pos c4] at H
  have c4b0 := decide_eq_true c4
  clear c4
  obtain rfl := Option.some.inj H
  go_enter Try.func42, Try.ntmps42
  go_wp2
  repeat (go_quiet (fail); try go_wp2)
  go_ret
  exact ⟨cs_, cD_⟩
 rw [if_neg c4] at H
 have c4b0 := decide_eq_false c4
 clear c4
 by_cases c5 : (l0.length : Int) = 0
 ·rw [if_pos c5] at H
  have c5b0 : ((l0.length : Int) == 0) = true := beq_iff_eq.mpr c5
  have c5b1 : ((l0.length : Int) != 0) = false := bne_eq_false_iff_eq.mpr c5
  clear c5
  by_cases c6 : a2 = 0
  ·rw [if_pos c6] at H
   exact absurd H (by simp)
  rw [if_neg c6] at H
  have c6b0 : (a2 == 0) = false := beq_eq_false_iff_ne.mpr c6
  have c6b1 : (a2 != 0) = true := bne_iff_ne.mpr c6
  obtain rfl := Option.some.inj H
  go_enter Try.func42, Try.ntmps42
  go_wp2
  repeat (go_quiet (fail); try go_wp2)
  go_ret
  exact ⟨cs_, cD_⟩
 rw [if_neg c5] at H
 have c5b0 : ((l0.length : Int) == 0) = false := beq_eq_false_iff_ne.mpr c5
 have c5b1 : ((l0.length : Int) != 0) = true := bne_iff_ne.mpr c5
 have c5b2 : ¬ (l0 = []) := fun h_ => c5 (by rw [h_]; rfl)
 obtain ⟨ji7, hji7⟩ : ∃ j_ : Int, (Int.tmod a1 (l0.length : Int)) = j_ := ⟨_, rfl⟩
 replace H : (if 0 ≤ (ji7) then (if (ji7) < (l0.length : Int) then (if a2 > 200 then (if 0 ≤ (Int.tmod (wrap64 (a1 + 1)) (l0.length : Int)) then (if (Int.tmod (wrap64 (a1 + 1)) (l0.length : Int)) < (l0.length : Int) then (if a2 = 0 then (none) else (some (Int.tmod (wrap64 ((wrap64 ((wrap64 ((wrap64 (rd l0 (ji7))) + (wrap64 ((wrap64 (Int.tdiv a1 (l0.length : Int))) * 3)))) * 251)) + (wrap64 (rd l0 (Int.tmod (wrap64 (a1 + 1)) (l0.length : Int)))))) a2))) else (none)) else (none)) else (if a2 = 0 then (none) else (some (Int.tmod (wrap64 ((wrap64 (rd l0 (ji7))) + (wrap64 ((wrap64 (Int.tdiv a1 (l0.length : Int))) * 3)))) a2)))) else (none)) else (none)) = some r := by first | (rw [hji7] at H; exact H) | (simp only [hji7] at H ⊢; exact H)
 by_cases c8 : 0 ≤ (ji7)
 rotate_left
 ·rw [if_neg c8] at H
  exact absurd H (by simp)
 rw [if_pos c8] at H
 have c8b0 := decide_eq_true c8
 clear c8
 by_cases c9 : (ji7) < (l0.length : Int)
 rotate_left
 ·rw [if_neg c9] at H
  exact absurd H (by simp)
 rw [if_pos c9] at H
 have c9b0 := decide_eq_true c9
 clear c9
 by_cases c10 : a2 > 200
 rotate_left
 ·rw [if_neg c10] at H
  have c10b0 : decide (200 < a2) = false := decide_eq_false c10
  clear c10
  by_cases c15 : a2 = 0
  ·rw [if_pos c15] at H
   exact absurd H (by simp)
  rw [if_neg c15] at H
  have c15b0 : (a2 == 0) = false := beq_eq_false_iff_ne.mpr c15
  have c15b1 : (a2 != 0) = true := bne_iff_ne.mpr c15
  obtain rfl := Option.some.inj H
  have p383 : 0 ≤ ((ji7) : Int) := cd_
  have q383 : (ji7) < (l0.length : Int) := cd_
  obtain ⟨ad383, e383, hx383_0⟩ := Kd.at_int HR0.out (ji7) p383 q383
  cases e383
  replace p383 := eq_true p383
  replace q383 := eq_true q383
  go_enter Try.func42, Try.ntmps42
  go_wp2
  repeat (go_quiet (fail); try go_wp2)
  go_ret
  exact ⟨by first | rfl | (simp; done) | (simp only [← hji7] <;> (first | rfl | simp)) | (simp [*]; done), cD_⟩
 rw [if_pos c10] at H
 have c10b0 : decide (200 < a2) = true := decide_eq_true c10
 clear c10
 obtain ⟨ji11, hji11⟩ : ∃ j_ : Int, (Int.tmod (wrap64 (a1 + 1)) (l0.length : Int)) = j_ := ⟨_, rfl⟩
 replace H : (if 0 ≤ (ji11) then (if (ji11) < (l0.length : Int) then (if a2 = 0 then (none) else (some (Int.tmod (wrap64 ((wrap64 ((wrap64 ((wrap64 (rd l0 (ji7))) + (wrap64 ((wrap64 (Int.tdiv a1 (l0.length : Int))) * 3)))) * 251)) + (wrap64 (rd l0 (ji11))))) a2))) else (none)) else (none)) = some r := by first | (rw [hji11] at H; exact H) | (simp only [hji11] at H ⊢; exact H)
 by_cases c12 : 0 ≤ (ji11)
 rotate_left
 ·rw [if_neg c12] at H
  exact absurd H (by simp)
 rw [if_pos c12] at H
 have c12b0 := decide_eq_true c12
 clear c12
 by_cases c13 : (ji11) < (l0.length : Int)
 rotate_left
 ·rw [if_neg c13] at H
  exact absurd H (by simp)
 rw [if_pos c13] at H
 have c13b0 := decide_eq_true c13
 clear c13
 by_cases c14 : a2 = 0
 ·rw [if_pos c14] at H
  exact absurd H (by simp)
 rw [if_neg c14] at H
 have c14b0 : (a2 == 0) = false := beq_eq_false_iff_ne.mpr c14
 have c14b1 : (a2 != 0) = true := bne_iff_ne.mpr c14
 obtain rfl := Option.some.inj H
 have p383 : 0 ≤ ((ji7) : Int) := cd_
 have q383 : (ji7) < (l0.length : Int) := cd_
 obtain ⟨ad383, e383, hx383_0⟩ := Kd.at_int HR0.out (ji7) p383 q383
 cases e383
 replace p383 := eq_true p383
 replace q383 := eq_true q383
 have p384 : 0 ≤ ((ji11) : Int) := cd_
 have q384 : (ji11) < (l0.length : Int) := cd_
 obtain ⟨ad384, e384, hx384_0⟩ := Kd.at_int HR0.out (ji11) p384 q384
 obtain rfl : ad383 = ad384 := (by injection e384)
 replace p384 := eq_true p384
 replace q384 := eq_true q384
 go_enter Try.func42, Try.ntmps42
 go_wp2
 repeat (go_quiet (fail); try go_wp2)
 go_ret
 exact ⟨by first | rfl | (simp; done) | (simp only [← hji7, ← hji11] <;> (first | rfl | simp)) | (simp [*]; done), cD_⟩

end Go.Proofs.Ythgmicingbjemaa.PFnJoins
