-- Written by fprint, a program of this session, out of Lean's own print of the translation. Lean checks it.
import Derived.Test.YthgmicingbjemaaDense
import Derived.Test.YthgmicingbjemaaPFnJoinsx0
import Derived.Test.YthgmicingbjemaaPFnJoinsx2
import Derived.Test.YthgmicingbjemaaPFnJoinsx3
import Derived.Test.YthgmicingbjemaaPFnJoinsx4
namespace Go.Proofs.Ythgmicingbjemaa.PFnJoins
open Go.RowKit Go.Proofs.YthgmicingbjemaaW.PrintWords Go.Proofs.YthgmicingbjemaaW.PrintLast Go.Proofs.YthgmicingbjemaaW.PrintMore
attribute [local go_sem] max2_int min2_int max_two min_two max_three min_three max_four min_four
set_option linter.unusedVariables false
set_option maxHeartbeats 8000000
set_option maxRecDepth 100000
set_option linter.unusedSimpArgs false

theorem b5_1 {p : Prop} (h : p := by exact cB1_ GE231.out) : p := h
theorem b5_3 {p : Prop} (h : p := by exact cO_ BK231.out) : p := h
theorem b5_4 {p : Prop} (h : p := by exact cB1_ GE164.out) : p := h
theorem b5_5 {p : Prop} (h : p := by refine cO_ ?_; refine blk_put (cs := #[.slice A163_0 ((rd_T42 l0 x14_1).f0).length c163_0, .int .i64 0]) ?_ 1 _ rfl; refine cO_ ?_; refine blk_put (cs := #[.slice none 0 0, .int .i64 0]) ?_ 0 _ rfl; refine cO_ ?_; exact BK164.out) : p := h
theorem b5_6 {p : Prop} (h : p := by exact cV_ HO0.out) : p := h
theorem b5_7 {p : Prop} (h : p := by exact cV_ HO1.out) : p := h
theorem b5_8 {p : Prop} (h : p := by refine cS_ ?_; exact (Kd.S_mono (Kd.S_far (p := ⟨gb164, 1, none⟩) (Kd.S_far (p := ⟨gb164, 0, none⟩) (Kd.S_mono HO_6.out (fun k_ hk => (⟨hk, hk.2⟩ : _ ∧ k_ ≠ gb164))) (fun _ hk => hk.2) (.slice A163_0 ((rd_T42 l0 x14_1).f0).length c163_0)) (fun _ hk => hk.2) (.int .i64 ((rd_T42 l0 x14_1).f1))) (fun _ h_ => h_.1))) : p := h
theorem q5_0 {p : Prop} (h : p := by first | exact Kd.S_nil _ _ _ _ _ | exact Kd.N_nil _ _ _ _ _ | exact Kd.V_nil _ _ _ _ _ | exact Kd.Q_nil _ _ _ _ _ | exact Kd.R_nil _ _ _ _ _) : p := h
theorem q5_1 {p : Prop} (h : p := by first | rfl | (simp [errW_none, errW_some] <;> rfl) | (simp only [← hji6, ← hji7]; first | rfl | (simp [errW_none, errW_some] <;> rfl)) | (simp [*, errW_none, errW_some] <;> rfl)) : p := h
/-! ### impl_setsFault: function 79 -/
def impl_setsFault.l0 : Nat → List (List (S42)) → Int → Int → Option (Int)
 | 0, _, _, _ => none
 | k + 1, x6, x7, x8 => if x8 < x7 then (if 0 ≤ x8 then (if x8 < (x6.length : Int) then ((impl_SetFault.f k (rd_L4 x6 x8)).bind fun t158 => (if t158 = 0 then (impl_setsFault.l0 k x6 x7 (wrap64 (x8 + 1))) else (some t158))) else (none)) else (none)) else (some 0)
def impl_setsFault.f (k : Nat) (l0 : List (List (S42))) : Option (Int) := impl_setsFault.l0 k l0 (l0.length : Int) 0
theorem impl_setsFault.mono_l : ∀ k, (∀ y0 y1 y2, LeO (impl_setsFault.l0 k y0 y1 y2) (impl_setsFault.l0 (k + 1) y0 y1 y2))
 | 0 => fun _ _ _ r h => by simp [impl_setsFault.l0] at h
 | k + 1 => by
  have ih0 := impl_setsFault.mono_l k
  ·intro y0 y1 y2
   unfold impl_setsFault.l0
   repeat' first
   | (with_reducible exact ih0 _ _ _)
   | (with_reducible exact impl_SetFault.mono _ _)
   | (with_reducible exact LeO.refl _)
   | (with_reducible exact LeO.none _)
   | (with_reducible refine LeO.ite ?_ ?_)
   | (with_reducible refine LeO.bind ?_ (fun _ => ?_))
   | refine LeO.ite ?_ ?_
   | refine LeO.bind ?_ (fun _ => ?_)
theorem impl_setsFault.mono : ∀ a0 k, LeO (impl_setsFault.f k a0) (impl_setsFault.f (k + 1) a0) := by
 intro a0 k
 have ih0 := impl_setsFault.mono_l k
 unfold impl_setsFault.f
 repeat' first
   | (with_reducible exact ih0 _ _ _)
   | (with_reducible exact impl_SetFault.mono _ _)
   | (with_reducible exact LeO.refl _)
   | (with_reducible exact LeO.none _)
   | (with_reducible refine LeO.ite ?_ ?_)
   | (with_reducible refine LeO.bind ?_ (fun _ => ?_))
   | refine LeO.ite ?_ ?_
   | refine LeO.bind ?_ (fun _ => ?_)
theorem impl_setsFault.calls (k : Nat) (A0 : Option Addr) (c0 : Nat) (l0 : List (List (S42))) (r : Int) (w : World) (hr0 : Kd.C (Kd.slice 42 k42) w A0 l0.length l0) (hc0 : l0.length ≤ c0) (h : impl_setsFault.f k l0 = some r) :
  Calls Try.prog 79 #[.slice A0 l0.length c0] w fun e w' => e = .returned (.int .i64 r) ∧ Below w.heap.size w w' := by
 have HR0 := Aside0.mk hr0
 have HC0 := Aside0.mk hc0
 clear hr0 hc0
 have HB := Aside0.mk (Below.refl w.heap.size w)
 have H : (impl_setsFault.l0 k l0 (l0.length : Int) 0) = some r := h
 clear h
 have H' := Aside0.mk H
 clear H
 go_enter Try.func79, Try.ntmps79
 go_wp2
 go_loopg [8] k (fun kq v8 w' => ∃ (x8_1 : Int), v8 = .int .i64 x8_1 ∧ Aside0 (impl_setsFault.l0 kq l0 (l0.length : Int) x8_1 = some r) ∧ Aside0 (kq ≤ k) ∧ Aside0 (Below w.heap.size w w'))
 case atStart => exact ⟨(0), cs_, H', ⟨Nat.le_refl _⟩, ⟨cB0_⟩⟩
 case round =>
  clear H'
  obtain ⟨x8_1, rfl, HA, HK1, HB⟩ := hrel
  cases gk with
  | zero => exact absurd HA.out (by simp [impl_setsFault.l0])
  | succ k1 =>
   have H := HA.out
   clear HA
   simp only [impl_setsFault.l0] at H
   by_cases c2 : x8_1 < (l0.length : Int)
   rotate_left
   ·rw [if_neg c2] at H
    have c2b0 := decide_eq_false c2
    clear c2
    obtain rfl := Option.some.inj H
    go_wp2
    go_ret
    exact ⟨ce_, cB0_⟩
   rw [if_pos c2] at H
   have c2b0 := decide_eq_true c2
   clear c2
   by_cases c3 : 0 ≤ x8_1
   rotate_left
   ·rw [if_neg c3] at H
    exact absurd H (by simp)
   rw [if_pos c3] at H
   have c3b0 := decide_eq_true c3
   clear c3
   by_cases c4 : x8_1 < (l0.length : Int)
   rotate_left
   ·rw [if_neg c4] at H
    exact absurd H (by simp)
   rw [if_pos c4] at H
   have c4b0 := decide_eq_true c4
   clear c4
   obtain ⟨t158, A5, H⟩ := bnd_ H
   try dsimp only at H
   by_cases c6 : t158 = 0
   ·rw [if_pos c6] at H
    have c6b0 : (t158 == 0) = true := beq_iff_eq.mpr c6
    have c6b1 : (t158 != 0) = false := bne_eq_false_iff_eq.mpr c6
    clear c6
    have H' := Aside0.mk H
    clear H
    have p157 : 0 ≤ (x8_1 : Int) := cd_
    have q157 : x8_1 < (l0.length : Int) := cd_
    obtain ⟨ad157, A157_0, c157_0, e157, hx157_0, hl157_0, hi157_0⟩ := at_L4 HR0.out x8_1 p157 q157
    cases e157
    replace hx157_0 := pw_cell_below HB.out hx157_0
    have HR157_0 := Aside0.mk hi157_0
    have HC157_0 := Aside0.mk hl157_0
    clear hi157_0 hl157_0
    replace p157 := eq_true p157
    replace q157 := eq_true q157
    go_wp2_with (first | (refine gl_ 26 (some 13) Try.func26 #[.slice A157_0 (rd_L4 l0 x8_1).length c157_0] ?_; (with_reducible refine (impl_SetFault.calls k1 _ _ (rd_L4 l0 x8_1) t158 _ ?side1 ?side2 A5.out).mono ?_); (case side1 => exact cC_ (Kd.C_below HR157_0.out HB.out)); (case side2 => exact HC157_0.out); rintro e w7 ⟨rfl, hb⟩; refine ⟨_, rfl, ?_⟩; replace HB := Aside0.mk (below_step cB0_ hb); (try clear hb); (try clear hb2); (try clear hk); (try clear hi)))
    go_roundg k1
    case measure => have := HK1.out; omega
    case rel => exact ⟨(wrap64 (x8_1 + 1)), cs_, H', ⟨co_ HK1.out⟩, ⟨cB0_⟩⟩
   rw [if_neg c6] at H
   have c6b0 : (t158 == 0) = false := beq_eq_false_iff_ne.mpr c6
   have c6b1 : (t158 != 0) = true := bne_iff_ne.mpr c6
   obtain rfl := Option.some.inj H
   have p157 : 0 ≤ (x8_1 : Int) := cd_
   have q157 : x8_1 < (l0.length : Int) := cd_
   obtain ⟨ad157, A157_0, c157_0, e157, hx157_0, hl157_0, hi157_0⟩ := at_L4 HR0.out x8_1 p157 q157
   cases e157
   replace hx157_0 := pw_cell_below HB.out hx157_0
   have HR157_0 := Aside0.mk hi157_0
   have HC157_0 := Aside0.mk hl157_0
   clear hi157_0 hl157_0
   replace p157 := eq_true p157
   replace q157 := eq_true q157
   go_wp2_with (first | (refine gl_ 26 (some 13) Try.func26 #[.slice A157_0 (rd_L4 l0 x8_1).length c157_0] ?_; (with_reducible refine (impl_SetFault.calls k1 _ _ (rd_L4 l0 x8_1) t158 _ ?side1 ?side2 A5.out).mono ?_); (case side1 => exact cC_ (Kd.C_below HR157_0.out HB.out)); (case side2 => exact HC157_0.out); rintro e w8 ⟨rfl, hb⟩; refine ⟨_, rfl, ?_⟩; replace HB := Aside0.mk (below_step cB0_ hb); (try clear hb); (try clear hb2); (try clear hk); (try clear hi)))
   go_ret
   exact ⟨ce_, cB0_⟩

-- NOT PRINTED: function 112 (impl_Entry_112)

-- NOT PRINTED: function 80 (impl_Entry_80)

/-! ### impl_AddSets: function 34 -/
def impl_AddSets.f (k : Nat) (l0 : List (S42)) (l1 : List (S42)) : Option (Int × (List (S42))) := (impl_setsFault.f k (([l0, l1] : List (List (S42))))).bind fun t235 => (if t235 = 0 then ((if l0.length + l1.length < 4194304 then impl_summed.f (l0 ++ l1) else none).bind fun bt239 => (some (bt239.2, bt239.1))) else (some (t235, ([] : List (S42)))))
theorem impl_AddSets.mono : ∀ a0 a1 k, LeO (impl_AddSets.f k a0 a1) (impl_AddSets.f (k + 1) a0 a1) := by
 intro a0 a1 k
 unfold impl_AddSets.f
 repeat' first
   | (with_reducible exact impl_setsFault.mono _ _)
   | (with_reducible exact LeO.refl _)
   | (with_reducible exact LeO.none _)
   | (with_reducible refine LeO.ite ?_ ?_)
   | (with_reducible refine LeO.bind ?_ (fun _ => ?_))
   | refine LeO.ite ?_ ?_
   | refine LeO.bind ?_ (fun _ => ?_)
theorem impl_AddSets.calls (k : Nat) (A0 : Option Addr) (c0 : Nat) (l0 : List (S42)) (A1 : Option Addr) (c1 : Nat) (l1 : List (S42)) (r1 : Int) (r2 : List (S42)) (w : World) (hr0 : Kd.C k42 w A0 l0.length l0) (hc0 : l0.length ≤ c0) (hr1 : Kd.C k42 w A1 l1.length l1) (hc1 : l1.length ≤ c1) (h : impl_AddSets.f k l0 l1 = some (r1, r2)) :
  Calls Try.prog 34 #[.slice A0 l0.length c0, .slice A1 l1.length c1] w fun e w' => ∃ v1_ : Value, e = .returned (.agg #[.int .i64 r1, v1_]) ∧ Kd.S k42 42 w' w.heap.size (fun _ => True) v1_ r2 ∧ Below w.heap.size w w' := by
 have huR_ := Try.underlying26
 have HO0 := Aside0.mk (show Kd.V k42 42 w w.heap.size (fun k_ => ((k_ < w.heap.size ∨ k_ < w.heap.size) ∨ w.heap.size ≤ k_)) (.slice A0 l0.length c0) l0 from Kd.V_mk hc0 (Kd.F_mono (Kd.C_F (show Kd.Heap k42 from Kd.heap_iso _ (Kd.heap_pair (Kd.heap_slice 2 (Kd.heap_int .i64)) (Kd.heap_int .i64))) hr0) (fun k_ hk => .inl (.inl hk))))
 have HO1 := Aside0.mk (show Kd.V k42 42 w w.heap.size (fun k_ => ((k_ < w.heap.size ∨ k_ < w.heap.size) ∨ w.heap.size ≤ k_)) (.slice A1 l1.length c1) l1 from Kd.V_mk hc1 (Kd.F_mono (Kd.C_F (show Kd.Heap k42 from Kd.heap_iso _ (Kd.heap_pair (Kd.heap_slice 2 (Kd.heap_int .i64)) (Kd.heap_int .i64))) hr1) (fun k_ hk => .inl (.inr hk))))
 have HB := Aside0.mk (Below.refl w.heap.size w)
 have H : ((impl_setsFault.f k (([l0, l1] : List (List (S42))))).bind fun t235 => (if t235 = 0 then ((if l0.length + l1.length < 4194304 then impl_summed.f (l0 ++ l1) else none).bind fun bt239 => (some (bt239.2, bt239.1))) else (some (t235, ([] : List (S42)))))) = some (r1, r2) := h
 clear h
 obtain ⟨y232, hy_⟩ : ∃ y_ : List (List (S42)), y_ = (([l0, l1] : List (List (S42)))) := ⟨_, rfl⟩
 replace H : ((impl_setsFault.f k y232).bind fun t235 => (if t235 = 0 then ((if l0.length + l1.length < 4194304 then impl_summed.f (l0 ++ l1) else none).bind fun bt239 => (some (bt239.2, bt239.1))) else (some (t235, ([] : List (S42)))))) = some (r1, r2) := yb_
 have Ny232 := Aside0.mk hy_
 clear hy_
 obtain ⟨t235, A3, H⟩ := bnd_ H
 try dsimp only at H
 by_cases c4 : t235 = 0
 rotate_left
 ·rw [if_neg c4] at H
  have c4b0 : (t235 == 0) = false := beq_eq_false_iff_ne.mpr c4
  have c4b1 : (t235 != 0) = true := bne_iff_ne.mpr c4
  simp only [Option.some.injEq, Prod.mk.injEq] at H
  obtain ⟨rfl, rfl⟩ := H
  go_enter Try.func34, Try.ntmps34
  go_wp2_with (first | (refine bx_ 4 #[.int .i64 0, .slice none 0 0] 26 ?_; intro gb231 hg w16 hbox hb; replace HO0 := Aside0.mk (Kd.V_below (Kd.V_elderB b5_6 gb231 (Nat.le_of_eq hg.symm)) hb); replace HO1 := Aside0.mk (Kd.V_below (Kd.V_elderB b5_7 gb231 (Nat.le_of_eq hg.symm)) hb); have BK231 := Aside0.mk (hbox); have GW231 := Aside0.mk ((by rw [hg]; exact (below_size cB0_) : w.heap.size ≤ gb231)); have GE231 := Aside0.mk ((by rw [hg]; exact (below_size cB0_) : w.heap.size ≤ gb231)); replace HB := Aside0.mk (below_step cB0_ hb); clear hb hbox hg) | ((with_reducible refine gate_dst (N := 10) rfl ?_); refine Kd.N_lit (Kd.slice 42 k42) _ 24 ?hg (N' := 10) ?hd (xs := ([l0, l1] : List (List (S42)))) (inner := [.slice A0 l0.length c0, .slice A1 l1.length c1]) (ok := (fun k_ => ((k_ < w.heap.size ∨ k_ < w.heap.size) ∨ w.heap.size ≤ k_) ∧ k_ ≠ gb231)) (okp := (fun k_ => ((k_ < w.heap.size ∨ k_ < w.heap.size) ∨ w.heap.size ≤ k_) ∧ k_ ≠ gb231)) ?hr ?hp (fun _ hk => hk) ((show ∀ k_, w16.heap.size ≤ k_ → (fun k_ => ((k_ < w.heap.size ∨ k_ < w.heap.size) ∨ w.heap.size ≤ k_) ∧ k_ ≠ gb231) k_ from fun k_ hk => ⟨(.inr (Nat.le_trans (below_size b5_1) hk)), Kd.freshB (g := gb231) (o := .cells #[.int .i64 0, .slice none 0 0] 26 (0, 0)) b5_3 k_ hk⟩) _ (Nat.le_refl _)) (Below.refl _ _) (Nat.le_refl _) (by simp) ?_; (case hd => rfl); (case hg => rfl); (case hr => first | (go_simp; done) | (go_simp; rfl)); (case hp => exact (Reps.one (show Kd.FK (Kd.slice 42 k42) _ _ l0 [.slice A0 l0.length c0] from (Kd.FK_slice_mk (Kd.V_reads' (Kd.V_mono (ok' := (fun k_ => ((k_ < w.heap.size ∨ k_ < w.heap.size) ∨ w.heap.size ≤ k_) ∧ k_ ≠ gb231)) (HO0.out) (fun k_ hk => ⟨hk.1, hk.2⟩))).2.1 (Kd.V_F (Kd.V_mono (ok' := (fun k_ => ((k_ < w.heap.size ∨ k_ < w.heap.size) ∨ w.heap.size ≤ k_) ∧ k_ ≠ gb231)) (HO0.out) (fun k_ hk => ⟨hk.1, hk.2⟩))))) (Reps.one (show Kd.FK (Kd.slice 42 k42) _ _ l1 [.slice A1 l1.length c1] from (Kd.FK_slice_mk (Kd.V_reads' (Kd.V_mono (ok' := (fun k_ => ((k_ < w.heap.size ∨ k_ < w.heap.size) ∨ w.heap.size ≤ k_) ∧ k_ ≠ gb231)) (HO1.out) (fun k_ hk => ⟨hk.1, hk.2⟩))).2.1 (Kd.V_F (Kd.V_mono (ok' := (fun k_ => ((k_ < w.heap.size ∨ k_ < w.heap.size) ∨ w.heap.size ≤ k_) ∧ k_ ≠ gb231)) (HO1.out) (fun k_ hk => ⟨hk.1, hk.2⟩))))) (Reps.none _ _)))); intro v233 w17 ho18 hb hg_ hnew_; clear hg_ hnew_; (first | rw [← Ny232.out] at ho18 | (simp only [Int.reduceToNat] at ho18; rw [← Ny232.out] at ho18)); replace HO0 := Aside0.mk (Kd.V_elder' b5_6 (Kd.N_base ho18) hb); replace HO1 := Aside0.mk (Kd.V_elder' b5_7 (Kd.N_base ho18) hb); have HO234 := Aside0.mk (Kd.N_lower ho18 (below_size b5_1)); replace BK231 := Aside0.mk (blk_below (g := gb231) (o := .cells #[.int .i64 0, .slice none 0 0] 26 (0, 0)) b5_3 hb); replace HB := Aside0.mk (below_step b5_1 hb); clear hb ho18; obtain ⟨Ao19, co19, eo19⟩ := Kd.N_slice HO234.out; subst eo19) | (refine gl_ 79 (some 11) Try.func79 #[.slice Ao19 y232.length co19] ?_; (with_reducible refine (impl_setsFault.calls k _ _ y232 t235 _ ?side1 ?side2 A3.out).mono ?_); (case side1 => exact cC_ ((Kd.N_reads' HO234.out).2.2)); (case side2 => exact (Kd.N_reads' HO234.out).2.1); rintro e w20 ⟨rfl, hb⟩; refine ⟨_, rfl, ?_⟩; replace HO0 := Aside0.mk (Kd.V_below b5_6 hb); replace HO1 := Aside0.mk (Kd.V_below b5_7 hb); replace HO234 := Aside0.mk (Kd.N_below (cN_ HO234.out) hb); replace BK231 := Aside0.mk (blk_below (g := gb231) (o := .cells #[.int .i64 0, .slice none 0 0] 26 (0, 0)) b5_3 hb); replace HB := Aside0.mk (below_step b5_1 hb); (try clear hb); (try clear hb2); (try clear hk); (try clear hi); obtain ⟨hcz21_0, hcz21_1, hfz21_0, hfz21_1⟩ := cells2 BK231.out))
  refine bodyPost_ret (results_cell_row rfl _ _ gb231 26 #[.int .i64 t235, .slice none 0 0] (0, 0) _ rfl (by refine cO_ ?_; refine blk_put (cs := #[.int .i64 t235, .slice none 0 0]) ?_ 1 _ rfl; refine cO_ ?_; refine blk_put (cs := #[.int .i64 0, .slice none 0 0]) ?_ 0 _ rfl; refine cO_ ?_; exact BK231.out) Try.underlying26 rfl (by kernel_rfl)) rfl ?_
  exact ⟨_, ce_, q5_0, cB1_ GE231.out⟩
 rw [if_pos c4] at H
 have c4b0 : (t235 == 0) = true := beq_iff_eq.mpr c4
 have c4b1 : (t235 != 0) = false := bne_eq_false_iff_eq.mpr c4
 clear c4
 obtain ⟨y236, hy_⟩ : ∃ y_ : List (List (S42)), y_ = (([l0, l1] : List (List (S42)))) := ⟨_, rfl⟩
 replace H : ((if l0.length + l1.length < 4194304 then impl_summed.f (l0 ++ l1) else none).bind fun bt239 => (some (bt239.2, bt239.1))) = some (r1, r2) := yb_
 have Ny236 := Aside0.mk hy_
 clear hy_
 replace H := Option.bind_eq_some_iff.mp H
 obtain ⟨⟨t239, t240⟩, A50, H⟩ := H
 replace H : (some (t240, t239)) = some (r1, r2) := H
 obtain ⟨hl_, A50⟩ : l0.length + l1.length < 4194304 ∧ impl_summed.f (l0 ++ l1) = some (t239, t240) := by
  by_cases c_ : l0.length + l1.length < 4194304
  ·rw [if_pos c_] at A50; exact ⟨c_, A50⟩
  ·rw [if_neg c_] at A50; exact absurd A50 (by simp)
 have HL_ := Aside0.mk hl_
 clear hl_
 have A5 := Aside0.mk A50
 clear A50
 simp only [Option.some.injEq, Prod.mk.injEq] at H
 obtain ⟨rfl, rfl⟩ := H
 go_enter Try.func34, Try.ntmps34
 go_wp2_with (first | (refine bx_ 4 #[.int .i64 0, .slice none 0 0] 26 ?_; intro gb231 hg w6 hbox hb; replace HO0 := Aside0.mk (Kd.V_below (Kd.V_elderB b5_6 gb231 (Nat.le_of_eq hg.symm)) hb); replace HO1 := Aside0.mk (Kd.V_below (Kd.V_elderB b5_7 gb231 (Nat.le_of_eq hg.symm)) hb); have BK231 := Aside0.mk (hbox); have GW231 := Aside0.mk ((by rw [hg]; exact (below_size cB0_) : w.heap.size ≤ gb231)); have GE231 := Aside0.mk ((by rw [hg]; exact (below_size cB0_) : w.heap.size ≤ gb231)); replace HB := Aside0.mk (below_step cB0_ hb); clear hb hbox hg) | ((with_reducible refine gate_dst (N := 10) rfl ?_); refine Kd.N_lit (Kd.slice 42 k42) _ 24 ?hg (N' := 10) ?hd (xs := ([l0, l1] : List (List (S42)))) (inner := [.slice A0 l0.length c0, .slice A1 l1.length c1]) (ok := (fun k_ => ((k_ < w.heap.size ∨ k_ < w.heap.size) ∨ w.heap.size ≤ k_) ∧ k_ ≠ gb231)) (okp := (fun k_ => ((k_ < w.heap.size ∨ k_ < w.heap.size) ∨ w.heap.size ≤ k_) ∧ k_ ≠ gb231)) ?hr ?hp (fun _ hk => hk) ((show ∀ k_, w6.heap.size ≤ k_ → (fun k_ => ((k_ < w.heap.size ∨ k_ < w.heap.size) ∨ w.heap.size ≤ k_) ∧ k_ ≠ gb231) k_ from fun k_ hk => ⟨(.inr (Nat.le_trans (below_size b5_1) hk)), Kd.freshB (g := gb231) (o := .cells #[.int .i64 0, .slice none 0 0] 26 (0, 0)) b5_3 k_ hk⟩) _ (Nat.le_refl _)) (Below.refl _ _) (Nat.le_refl _) (by simp) ?_; (case hd => rfl); (case hg => rfl); (case hr => first | (go_simp; done) | (go_simp; rfl)); (case hp => exact (Reps.one (show Kd.FK (Kd.slice 42 k42) _ _ l0 [.slice A0 l0.length c0] from (Kd.FK_slice_mk (Kd.V_reads' (Kd.V_mono (ok' := (fun k_ => ((k_ < w.heap.size ∨ k_ < w.heap.size) ∨ w.heap.size ≤ k_) ∧ k_ ≠ gb231)) (HO0.out) (fun k_ hk => ⟨hk.1, hk.2⟩))).2.1 (Kd.V_F (Kd.V_mono (ok' := (fun k_ => ((k_ < w.heap.size ∨ k_ < w.heap.size) ∨ w.heap.size ≤ k_) ∧ k_ ≠ gb231)) (HO0.out) (fun k_ hk => ⟨hk.1, hk.2⟩))))) (Reps.one (show Kd.FK (Kd.slice 42 k42) _ _ l1 [.slice A1 l1.length c1] from (Kd.FK_slice_mk (Kd.V_reads' (Kd.V_mono (ok' := (fun k_ => ((k_ < w.heap.size ∨ k_ < w.heap.size) ∨ w.heap.size ≤ k_) ∧ k_ ≠ gb231)) (HO1.out) (fun k_ hk => ⟨hk.1, hk.2⟩))).2.1 (Kd.V_F (Kd.V_mono (ok' := (fun k_ => ((k_ < w.heap.size ∨ k_ < w.heap.size) ∨ w.heap.size ≤ k_) ∧ k_ ≠ gb231)) (HO1.out) (fun k_ hk => ⟨hk.1, hk.2⟩))))) (Reps.none _ _)))); intro v233 w7 ho8 hb hg_ hnew_; clear hg_ hnew_; (first | rw [← Ny232.out] at ho8 | (simp only [Int.reduceToNat] at ho8; rw [← Ny232.out] at ho8)); replace HO0 := Aside0.mk (Kd.V_elder' b5_6 (Kd.N_base ho8) hb); replace HO1 := Aside0.mk (Kd.V_elder' b5_7 (Kd.N_base ho8) hb); have HO234 := Aside0.mk (Kd.N_lower ho8 (below_size b5_1)); replace BK231 := Aside0.mk (blk_below (g := gb231) (o := .cells #[.int .i64 0, .slice none 0 0] 26 (0, 0)) b5_3 hb); replace HB := Aside0.mk (below_step b5_1 hb); clear hb ho8; obtain ⟨Ao9, co9, eo9⟩ := Kd.N_slice HO234.out; subst eo9) | (refine gl_ 79 (some 11) Try.func79 #[.slice Ao9 y232.length co9] ?_; (with_reducible refine (impl_setsFault.calls k _ _ y232 t235 _ ?side1 ?side2 A3.out).mono ?_); (case side1 => exact cC_ ((Kd.N_reads' HO234.out).2.2)); (case side2 => exact (Kd.N_reads' HO234.out).2.1); rintro e w10 ⟨rfl, hb⟩; refine ⟨_, rfl, ?_⟩; replace HO0 := Aside0.mk (Kd.V_below b5_6 hb); replace HO1 := Aside0.mk (Kd.V_below b5_7 hb); replace HO234 := Aside0.mk (Kd.N_below (cN_ HO234.out) hb); replace BK231 := Aside0.mk (blk_below (g := gb231) (o := .cells #[.int .i64 0, .slice none 0 0] 26 (0, 0)) b5_3 hb); replace HB := Aside0.mk (below_step b5_1 hb); (try clear hb); (try clear hb2); (try clear hk); (try clear hi)) | ((with_reducible refine gate_dst (N := 19) rfl ?_); refine Kd.N_lit (Kd.slice 42 k42) _ 24 ?hg (N' := 19) ?hd (xs := ([l0, l1] : List (List (S42)))) (inner := [.slice A0 l0.length c0, .slice A1 l1.length c1]) (ok := (fun k_ => ((k_ < w.heap.size ∨ k_ < w.heap.size) ∨ w.heap.size ≤ k_) ∧ some k_ ≠ (.slice Ao9 y232.length co9 : Value).ownBlock ∧ k_ ≠ gb231)) (okp := (fun k_ => ((k_ < w.heap.size ∨ k_ < w.heap.size) ∨ w.heap.size ≤ k_) ∧ some k_ ≠ (.slice Ao9 y232.length co9 : Value).ownBlock ∧ k_ ≠ gb231)) ?hr ?hp (fun _ hk => hk) ((show ∀ k_, w10.heap.size ≤ k_ → (fun k_ => ((k_ < w.heap.size ∨ k_ < w.heap.size) ∨ w.heap.size ≤ k_) ∧ some k_ ≠ (.slice Ao9 y232.length co9 : Value).ownBlock ∧ k_ ≠ gb231) k_ from fun k_ hk => ⟨(.inr (Nat.le_trans (below_size b5_1) hk)), Kd.fresh' (Kd.N_lt (cN_ HO234.out)) k_ hk, Kd.freshB (g := gb231) (o := .cells #[.int .i64 0, .slice none 0 0] 26 (0, 0)) b5_3 k_ hk⟩) _ (Nat.le_refl _)) (Below.refl _ _) (Nat.le_refl _) (by simp) ?_; (case hd => rfl); (case hg => rfl); (case hr => first | (go_simp; done) | (go_simp; rfl)); (case hp => exact (Reps.one (show Kd.FK (Kd.slice 42 k42) _ _ l0 [.slice A0 l0.length c0] from (Kd.FK_slice_mk (Kd.V_reads' (Kd.V_mono (ok' := (fun k_ => ((k_ < w.heap.size ∨ k_ < w.heap.size) ∨ w.heap.size ≤ k_) ∧ some k_ ≠ (.slice Ao9 y232.length co9 : Value).ownBlock ∧ k_ ≠ gb231)) (HO0.out) (fun k_ hk => ⟨hk.1.1, ⟨hk.2, hk.1.2⟩⟩))).2.1 (Kd.V_F (Kd.V_mono (ok' := (fun k_ => ((k_ < w.heap.size ∨ k_ < w.heap.size) ∨ w.heap.size ≤ k_) ∧ some k_ ≠ (.slice Ao9 y232.length co9 : Value).ownBlock ∧ k_ ≠ gb231)) (HO0.out) (fun k_ hk => ⟨hk.1.1, ⟨hk.2, hk.1.2⟩⟩))))) (Reps.one (show Kd.FK (Kd.slice 42 k42) _ _ l1 [.slice A1 l1.length c1] from (Kd.FK_slice_mk (Kd.V_reads' (Kd.V_mono (ok' := (fun k_ => ((k_ < w.heap.size ∨ k_ < w.heap.size) ∨ w.heap.size ≤ k_) ∧ some k_ ≠ (.slice Ao9 y232.length co9 : Value).ownBlock ∧ k_ ≠ gb231)) (HO1.out) (fun k_ hk => ⟨hk.1.1, ⟨hk.2, hk.1.2⟩⟩))).2.1 (Kd.V_F (Kd.V_mono (ok' := (fun k_ => ((k_ < w.heap.size ∨ k_ < w.heap.size) ∨ w.heap.size ≤ k_) ∧ some k_ ≠ (.slice Ao9 y232.length co9 : Value).ownBlock ∧ k_ ≠ gb231)) (HO1.out) (fun k_ hk => ⟨hk.1.1, ⟨hk.2, hk.1.2⟩⟩))))) (Reps.none _ _)))); intro v237 w11 ho12 hb hg_ hnew_; clear hg_ hnew_; (first | rw [← Ny236.out] at ho12 | (simp only [Int.reduceToNat] at ho12; rw [← Ny236.out] at ho12)); replace HO0 := Aside0.mk (Kd.V_elder' b5_6 (Kd.N_base ho12) hb); replace HO1 := Aside0.mk (Kd.V_elder' b5_7 (Kd.N_base ho12) hb); replace HO234 := Aside0.mk (Kd.N_elder' (cN_ HO234.out) (Kd.N_base ho12) hb); have HO238 := Aside0.mk (Kd.N_lower ho12 (below_size b5_1)); replace BK231 := Aside0.mk (blk_below (g := gb231) (o := .cells #[.int .i64 0, .slice none 0 0] 26 (0, 0)) b5_3 hb); replace HB := Aside0.mk (below_step b5_1 hb); clear hb ho12) | ((with_reducible refine gate_callee (f := 80) rfl ?_); obtain ⟨gq_, cq_, eq_, _, _, _⟩ := Kd.N_form HO238.out (by rw [Ny236.out]; exact Nat.zero_lt_succ _); subst eq_; refine goesL_ (some 20) rfl rfl Try.func80 (by kernel_rfl) rfl #[.slice (some ⟨gq_, 0, none⟩) y236.length cq_] rfl (by (try simp only [List.map_toArray, List.map_cons, List.map_nil]); first | done | rfl) ?_; have hsz_ : (Kd.sz k42) = 2 := rfl; (with_reducible refine (Concat.concatC (d := k42) (e := 42) (l0 := l0) (l1 := l1) hsz_ ?side1 ?side2).mono ?_); (case side1 => have z_ := (Kd.N_reads' HO238.out).2.2; rw [Ny236.out] at z_ ⊢; repeat (first | exact z_ | (with_reducible refine Kd.C_alloc ?_ _) | (with_reducible refine Kd.C_drewN ?_ _) | (with_reducible refine Kd.C_drew ?_))); (case side2 => exact co_ HL_.out); rintro e wq_ ⟨Aq_, cq2_, rfl, hcq_, hrq_, hb⟩; refine ⟨_, rfl, ?_⟩; have HRQ := Aside0.mk hrq_; have HCQ := Aside0.mk hcq_; have n0_ := Aside0.mk (Kd.V_below b5_6 hb); have n1_ := Aside0.mk (Kd.V_below b5_7 hb); have n2_ := Aside0.mk (Kd.N_below (cN_ HO234.out) hb); have n3_ := Aside0.mk (Kd.N_below (cN_ HO238.out) hb); have n4_ := Aside0.mk (blk_below (g := gb231) (o := .cells #[.int .i64 0, .slice none 0 0] 26 (0, 0)) b5_3 hb); have n5_ := Aside0.mk (below_step b5_1 hb); clear HO0 HO1 HO234 HO238 BK231 HB hrq_ hcq_; have HO0 := n0_; have HO1 := n1_; have HO234 := n2_; have HO238 := n3_; have BK231 := n4_; have HB := n5_; clear n0_ n1_ n2_ n3_ n4_ n5_; (try clear hb)) | (refine gl_ 50 (some 21) Try.func50 #[.slice Aq_ (l0 ++ l1).length cq2_] ?_; (with_reducible refine (impl_summed.calls _ _ (l0 ++ l1) t239 t240 _ ?side1 ?side2 A5.out).mono ?_); (case side1 => exact cC_ HRQ.out); (case side2 => exact HCQ.out); rintro e w13 ⟨v241, rfl, ho0, hb⟩; refine ⟨_, rfl, ?_⟩; replace HO0 := Aside0.mk (Kd.V_elder' b5_6 (Kd.S_base ho0) hb); replace HO1 := Aside0.mk (Kd.V_elder' b5_7 (Kd.S_base ho0) hb); replace HO234 := Aside0.mk (Kd.N_elder' (cN_ HO234.out) (Kd.S_base ho0) hb); replace HO238 := Aside0.mk (Kd.N_elder' (cN_ HO238.out) (Kd.S_base ho0) hb); have HO242 := Aside0.mk (Kd.S_lower (Kd.S_mono (ok' := fun k_ => k_ ≠ gb231) (Kd.S_bound ho0) (fun k_ hk_ => Kd.freshB (g := gb231) (o := .cells #[.int .i64 0, .slice none 0 0] 26 (0, 0)) b5_3 k_ hk_.2.1)) (below_size b5_1)); replace BK231 := Aside0.mk (blk_below (g := gb231) (o := .cells #[.int .i64 0, .slice none 0 0] 26 (0, 0)) b5_3 hb); replace HB := Aside0.mk (below_step b5_1 hb); (try clear hb); (try clear hb2); (try clear hk); (try clear hi); (try clear ho0); obtain ⟨Ao14, co14, eo14⟩ := Kd.S_slice HO242.out; subst eo14; obtain ⟨hcz15_0, hcz15_1, hfz15_0, hfz15_1⟩ := cells2 BK231.out))
 refine bodyPost_ret (results_cell_row rfl _ _ gb231 26 #[.int .i64 t240, .slice Ao14 t239.length co14] (0, 0) _ rfl (by refine cO_ ?_; refine blk_put (cs := #[.int .i64 t240, .slice none 0 0]) ?_ 1 _ rfl; refine cO_ ?_; refine blk_put (cs := #[.int .i64 0, .slice none 0 0]) ?_ 0 _ rfl; refine cO_ ?_; exact BK231.out) Try.underlying26 rfl (by kernel_rfl)) rfl ?_
 exact ⟨_, ce_, by refine cS_ ?_; exact Kd.S_mono (Kd.S_far (p := ⟨gb231, 1, none⟩) (Kd.S_far (p := ⟨gb231, 0, none⟩) HO242.out (fun _ hk => hk) (.int .i64 t240)) (fun _ hk => hk) (.slice Ao14 t239.length co14)) (fun _ _ => trivial), cB1_ GE231.out⟩


/-! ### impl_mulWeight: function 87 -/
def impl_mulWeight.j0 : Nat → Int → Int → Bool → Option (Int × Bool)
 | 0, _, _, _ => none
 | k + 1, x0, x1, x11 => if x11 = true then (some (0, true)) else (if (mx x1 (wrap64 (-x1))) = 0 then (none) else (if (mx x0 (wrap64 (-x0))) > (wrap64 (Int.tdiv (1000000000000 : Int) (mx x1 (wrap64 (-x1))))) then (some (0, false)) else (some (wrap64 (x0 * x1), true))))
def impl_mulWeight.f (k : Nat) (a0 : Int) (a1 : Int) : Option (Int × Bool) := if a0 = 0 then (impl_mulWeight.j0 k a0 a1 true) else (impl_mulWeight.j0 k a0 a1 (a1 == 0))
theorem impl_mulWeight.mono_l : ∀ k, (∀ y0 y1 y2, LeO (impl_mulWeight.j0 k y0 y1 y2) (impl_mulWeight.j0 (k + 1) y0 y1 y2))
 | 0 => fun _ _ _ r h => by simp [impl_mulWeight.j0] at h
 | k + 1 => by
  have ih0 := impl_mulWeight.mono_l k
  ·intro y0 y1 y2
   unfold impl_mulWeight.j0
   repeat' first
   | (with_reducible exact ih0 _ _ _)
   | (with_reducible exact LeO.refl _)
   | (with_reducible exact LeO.none _)
   | (with_reducible refine LeO.ite ?_ ?_)
   | (with_reducible refine LeO.bind ?_ (fun _ => ?_))
   | refine LeO.ite ?_ ?_
   | refine LeO.bind ?_ (fun _ => ?_)
theorem impl_mulWeight.mono : ∀ a0 a1 k, LeO (impl_mulWeight.f k a0 a1) (impl_mulWeight.f (k + 1) a0 a1) := by
 intro a0 a1 k
 have ih0 := impl_mulWeight.mono_l k
 unfold impl_mulWeight.f
 repeat' first
   | (with_reducible exact ih0 _ _ _)
   | (with_reducible exact LeO.refl _)
   | (with_reducible exact LeO.none _)
   | (with_reducible refine LeO.ite ?_ ?_)
   | (with_reducible refine LeO.bind ?_ (fun _ => ?_))
   | refine LeO.ite ?_ ?_
   | refine LeO.bind ?_ (fun _ => ?_)
theorem impl_mulWeight.calls (k : Nat) (a0 : Int) (a1 : Int) (r1 : Int) (r2 : Bool) (w : World) (h : impl_mulWeight.f k a0 a1 = some (r1, r2)) :
  Calls Try.prog 87 #[.int .i64 a0, .int .i64 a1] w fun e w' => e = .returned (.tuple #[.int .i64 r1, .bool r2]) ∧ Below w.heap.size w w' := by
 have HB := Aside0.mk (Below.refl w.heap.size w)
 have H : (if a0 = 0 then (impl_mulWeight.j0 k a0 a1 true) else (impl_mulWeight.j0 k a0 a1 (a1 == 0))) = some (r1, r2) := h
 clear h
 have HC3 := Aside0.mk H
 clear H
 go_enter Try.func87, Try.ntmps87
 go_upto_region 1 with (fail)
 go_cut [11] (fun v11 wc => ∃ (kq : Nat) (x11_2 : Bool), v11 = .bool x11_2 ∧ Aside0 (impl_mulWeight.j0 kq a0 a1 x11_2 = some (r1, r2)) ∧ Aside0 (kq ≤ k) ∧ Aside0 (Below w.heap.size w wc))
 case first =>
  have H := HC3.out
  clear HC3
  by_cases c4 : a0 = 0
  ·rw [if_pos c4] at H
   have c4b0 : (a0 == 0) = true := beq_iff_eq.mpr c4
   have c4b1 : (a0 != 0) = false := bne_eq_false_iff_eq.mpr c4
   clear c4
   (first | rw [c4b0] | (simp only [i64_w, i32_w]; rw [c4b0]) | skip)
   have H' := Aside0.mk H
   clear H
   go_wp2
   go_meet
   case rel => exact ⟨_, (true), cs_, H', ⟨cm_⟩, ⟨cB0_⟩⟩
  rw [if_neg c4] at H
  have c4b0 : (a0 == 0) = false := beq_eq_false_iff_ne.mpr c4
  have c4b1 : (a0 != 0) = true := bne_iff_ne.mpr c4
  (first | rw [c4b0] | (simp only [i64_w, i32_w]; rw [c4b0]) | skip)
  have H' := Aside0.mk H
  clear H
  go_wp2
  go_meet
  case rel => exact ⟨_, ((a1 == 0)), cs_, H', ⟨cm_⟩, ⟨cB0_⟩⟩
 case rest =>
  clear HC3
  try clear p2
  try clear c4
  try clear c4b0
  try clear c4b1
  obtain ⟨kq, x11_2, rfl, HA, HJ2, HB⟩ := hcut
  cases kq with
  | zero => exact absurd HA.out (by simp [impl_mulWeight.j0])
  | succ kj2 =>
   have H := HA.out
   clear HA
   simp only [impl_mulWeight.j0] at H
   by_cases c5 : x11_2 = true
   ·subst c5
    rw [if_pos rfl] at H
    simp only [Option.some.injEq, Prod.mk.injEq] at H
    obtain ⟨rfl, rfl⟩ := H
    go_wp2
    go_ret2
    exact ⟨ce_, cB0_⟩
   replace c5 := Bool.eq_false_iff.mpr c5
   subst c5
   rw [if_neg (show ¬ (false = true) by decide)] at H
   obtain ⟨ji6, hji6⟩ : ∃ j_ : Int, (mx a0 (wrap64 (-a0))) = j_ := ⟨_, rfl⟩
   replace H : (if (mx a1 (wrap64 (-a1))) = 0 then (none) else (if (ji6) > (wrap64 (Int.tdiv (1000000000000 : Int) (mx a1 (wrap64 (-a1))))) then (some (0, false)) else (some (wrap64 (a0 * a1), true)))) = some (r1, r2) := by first | (rw [hji6] at H; exact H) | (simp only [hji6] at H ⊢; exact H)
   have hji6_ : (if a0 < (wrap64 (-a0)) then (wrap64 (-a0)) else a0) = ji6 := hji6
   obtain ⟨ji7, hji7⟩ : ∃ j_ : Int, (mx a1 (wrap64 (-a1))) = j_ := ⟨_, rfl⟩
   replace H : (if (ji7) = 0 then (none) else (if (ji6) > (wrap64 (Int.tdiv (1000000000000 : Int) (ji7))) then (some (0, false)) else (some (wrap64 (a0 * a1), true)))) = some (r1, r2) := by first | (rw [hji7] at H; exact H) | (simp only [hji7] at H ⊢; exact H)
   have hji7_ : (if a1 < (wrap64 (-a1)) then (wrap64 (-a1)) else a1) = ji7 := hji7
   by_cases c8 : (ji7) = 0
   ·rw [if_pos c8] at H
    exact absurd H (by simp)
   rw [if_neg c8] at H
   have c8b0 : ((ji7) == 0) = false := beq_eq_false_iff_ne.mpr c8
   have c8b1 : ((ji7) != 0) = true := bne_iff_ne.mpr c8
   by_cases c9 : (ji6) > (wrap64 (Int.tdiv (1000000000000 : Int) (ji7)))
   ·rw [if_pos c9] at H
    have c9b0 : decide ((wrap64 (Int.tdiv (1000000000000 : Int) (ji7))) < (ji6)) = true := decide_eq_true c9
    clear c9
    simp only [Option.some.injEq, Prod.mk.injEq] at H
    obtain ⟨rfl, rfl⟩ := H
    go_wp2
    go_ret2
    exact ⟨q5_1, cB0_⟩
   rw [if_neg c9] at H
   have c9b0 : decide ((wrap64 (Int.tdiv (1000000000000 : Int) (ji7))) < (ji6)) = false := decide_eq_false c9
   clear c9
   simp only [Option.some.injEq, Prod.mk.injEq] at H
   obtain ⟨rfl, rfl⟩ := H
   go_wp2
   go_ret2
   exact ⟨q5_1, cB0_⟩

/-! ### impl_scaled: function 82 -/
def impl_scaled.l0 : Nat → Int → List (S42) → List (S42) → Int → Int → Option ((List (S42)) × Bool)
 | 0, _, _, _, _, _ => none
 | k + 1, x1, x6, x12, x13, x14 => if x14 < x13 then (if 0 ≤ x14 then (if x14 < (x12.length : Int) then ((impl_mulWeight.f k ((rd_T42 x12 x14).f1) x1).bind fun bt165 => (if bt165.2 = true then (if bt165.1 = 0 then (impl_scaled.l0 k x1 x6 x12 x13 (wrap64 (x14 + 1))) else ((slices_Clone_int64_int64.f ((rd_T42 x12 x14).f0)).bind fun t167 => (if x6.length < 4398046511104 then (impl_scaled.l0 k x1 (x6 ++ [(⟨t167, bt165.1⟩ : S42)]) x12 x13 (wrap64 (x14 + 1))) else (none)))) else (some (([] : List (S42)), false)))) else (none)) else (none)) else (some (x6, true))
def impl_scaled.f (k : Nat) (l0 : List (S42)) (a1 : Int) : Option ((List (S42)) × Bool) := impl_scaled.l0 k a1 (([] : List (S42))) l0 (l0.length : Int) 0
theorem impl_scaled.mono_l : ∀ k, (∀ y0 y1 y2 y3 y4, LeO (impl_scaled.l0 k y0 y1 y2 y3 y4) (impl_scaled.l0 (k + 1) y0 y1 y2 y3 y4))
 | 0 => fun _ _ _ _ _ r h => by simp [impl_scaled.l0] at h
 | k + 1 => by
  have ih0 := impl_scaled.mono_l k
  ·intro y0 y1 y2 y3 y4
   unfold impl_scaled.l0
   repeat' first
   | (with_reducible exact ih0 _ _ _ _ _)
   | (with_reducible exact impl_mulWeight.mono _ _ _)
   | (with_reducible exact LeO.refl _)
   | (with_reducible exact LeO.none _)
   | (with_reducible refine LeO.ite ?_ ?_)
   | (with_reducible refine LeO.bind ?_ (fun _ => ?_))
   | refine LeO.ite ?_ ?_
   | refine LeO.bind ?_ (fun _ => ?_)
theorem impl_scaled.mono : ∀ a0 a1 k, LeO (impl_scaled.f k a0 a1) (impl_scaled.f (k + 1) a0 a1) := by
 intro a0 a1 k
 have ih0 := impl_scaled.mono_l k
 unfold impl_scaled.f
 repeat' first
   | (with_reducible exact ih0 _ _ _ _ _)
   | (with_reducible exact impl_mulWeight.mono _ _ _)
   | (with_reducible exact LeO.refl _)
   | (with_reducible exact LeO.none _)
   | (with_reducible refine LeO.ite ?_ ?_)
   | (with_reducible refine LeO.bind ?_ (fun _ => ?_))
   | refine LeO.ite ?_ ?_
   | refine LeO.bind ?_ (fun _ => ?_)
theorem impl_scaled.calls (k : Nat) (A0 : Option Addr) (c0 : Nat) (l0 : List (S42)) (a1 : Int) (r1 : List (S42)) (r2 : Bool) (w : World) (hr0 : Kd.C k42 w A0 l0.length l0) (hc0 : l0.length ≤ c0) (h : impl_scaled.f k l0 a1 = some (r1, r2)) :
  Calls Try.prog 82 #[.slice A0 l0.length c0, .int .i64 a1] w fun e w' => ∃ v0_ : Value, e = .returned (.tuple #[v0_, .bool r2]) ∧ Kd.S k42 42 w' w.heap.size (fun _ => True) v0_ r1 ∧ Below w.heap.size w w' := by
 have hu42 := Try.underlying42
 have HR0 := Aside0.mk hr0
 have HC0 := Aside0.mk hc0
 clear hr0 hc0
 have HB := Aside0.mk (Below.refl w.heap.size w)
 have H : (impl_scaled.l0 k a1 (([] : List (S42))) l0 (l0.length : Int) 0) = some (r1, r2) := h
 clear h
 obtain ⟨y160, hy_⟩ : ∃ y_ : List (S42), y_ = (([] : List (S42))) := ⟨_, rfl⟩
 replace H : (impl_scaled.l0 k a1 y160 l0 (l0.length : Int) 0) = some (r1, r2) := yb_
 have Ny160 := Aside0.mk hy_
 clear hy_
 have H' := Aside0.mk H
 clear H
 go_enter Try.func82, Try.ntmps82
 go_wp2_with (first | ((with_reducible refine gate_dst (N := 11) rfl ?_); refine Kd.S_lit k42 _ 42 ?hg (N := 11) ?hd (xs := ([] : List (S42))) (inner := []) (ok := fun _ => True) (okp := fun _ => True) ?hr ?hp (fun _ hk => hk) trivial (Below.refl _ _) (Nat.le_refl _) (by simp) ?_; (case hd => rfl); (case hg => rfl); (case hr => first | (go_simp; done) | (go_simp; rfl)); (case hp => exact (Reps.none _ _)); intro v161 w3 ho4 hb hg_ hnew_; clear hg_ hnew_; (first | rw [← Ny160.out] at ho4 | (simp only [Int.reduceToNat] at ho4; rw [← Ny160.out] at ho4)); have HO162 := Aside0.mk (Kd.S_lower ho4 (below_size cB0_)); replace HB := Aside0.mk (below_step cB0_ hb); clear hb ho4))
 go_loopg [6, 14] k (fun kq v6 v14 w' => ∃ (x6_1 : List (S42)) (x14_1 : Int), v14 = .int .i64 x14_1 ∧ Aside0 (impl_scaled.l0 kq a1 x6_1 l0 (l0.length : Int) x14_1 = some (r1, r2)) ∧ Aside0 (kq ≤ k) ∧ Aside0 (Kd.S k42 42 w' w.heap.size (fun _ => True) v6 x6_1) ∧ Aside0 (Below w.heap.size w w'))
 case atStart => exact ⟨(y160), (0), cs_, H', ⟨Nat.le_refl _⟩, ⟨cS_ HO162.out⟩, ⟨cB0_⟩⟩
 case round =>
  clear H'
  try clear p2
  obtain ⟨x6_1, x14_1, rfl, HA, HK1, HO_6, HB⟩ := hrel
  cases gk with
  | zero => exact absurd HA.out (by simp [impl_scaled.l0])
  | succ k1 =>
   have H := HA.out
   clear HA
   simp only [impl_scaled.l0] at H
   by_cases c5 : x14_1 < (l0.length : Int)
   rotate_left
   ·rw [if_neg c5] at H
    have c5b0 := decide_eq_false c5
    clear c5
    simp only [Option.some.injEq, Prod.mk.injEq] at H
    obtain ⟨rfl, rfl⟩ := H
    go_wp2
    go_ret2
    exact ⟨_, ce_, cS_ HO_6.out, cB0_⟩
   rw [if_pos c5] at H
   have c5b0 := decide_eq_true c5
   clear c5
   by_cases c6 : 0 ≤ x14_1
   rotate_left
   ·rw [if_neg c6] at H
    exact absurd H (by simp)
   rw [if_pos c6] at H
   have c6b0 := decide_eq_true c6
   clear c6
   by_cases c7 : x14_1 < (l0.length : Int)
   rotate_left
   ·rw [if_neg c7] at H
    exact absurd H (by simp)
   rw [if_pos c7] at H
   have c7b0 := decide_eq_true c7
   clear c7
   obtain ⟨⟨t165, t166⟩, A8, H⟩ := bnd_ H
   try dsimp only at H
   by_cases c9 : t166 = true
   rotate_left
   ·replace c9 := Bool.eq_false_iff.mpr c9
    subst c9
    rw [if_neg (show ¬ (false = true) by decide)] at H
    simp only [Option.some.injEq, Prod.mk.injEq] at H
    obtain ⟨rfl, rfl⟩ := H
    have p163 : 0 ≤ (x14_1 : Int) := cd_
    have q163 : x14_1 < (l0.length : Int) := cd_
    obtain ⟨ad163, A163_0, c163_0, e163, hx163_0, hx163_1, hl163_0, hi163_0⟩ := at_T42 HR0.out x14_1 p163 q163
    cases e163
    replace hx163_0 := pw_cell_below HB.out hx163_0
    replace hx163_1 := pw_cell_below HB.out hx163_1
    have HR163_0 := Aside0.mk hi163_0
    have HC163_0 := Aside0.mk hl163_0
    clear hi163_0 hl163_0
    replace p163 := eq_true p163
    replace q163 := eq_true q163
    go_wp2_with (first | (refine bx_ 8 #[.slice none 0 0, .int .i64 0] 42 ?_; intro gb164 hg w23 hbox hb; replace HO_6 := Aside0.mk (Kd.S_below (Kd.S_elderB (cS_ HO_6.out) gb164 (Nat.le_of_eq hg.symm)) hb); have BK164 := Aside0.mk (hbox); have GW164 := Aside0.mk ((by rw [hg]; exact (below_size cB0_) : w.heap.size ≤ gb164)); have GE164 := Aside0.mk ((by rw [hg]; exact (below_size cB0_) : w.heap.size ≤ gb164)); replace HB := Aside0.mk (below_step cB0_ hb); clear hb hbox hg; obtain ⟨hcz24_0, hcz24_1, hfz24_0, hfz24_1⟩ := cells2 BK164.out) | (refine gl_ 87 (some 22) Try.func87 #[.int .i64 ((rd_T42 l0 x14_1).f1), .int .i64 a1] ?_; (with_reducible refine (impl_mulWeight.calls k1 ((rd_T42 l0 x14_1).f1) a1 t165 false _ A8.out).mono ?_); rintro e w25 ⟨rfl, hb⟩; refine ⟨_, rfl, ?_⟩; replace HO_6 := Aside0.mk (Kd.S_below b5_8 hb); replace BK164 := Aside0.mk (blk_below (g := gb164) (o := .cells #[.slice A163_0 ((rd_T42 l0 x14_1).f0).length c163_0, .int .i64 ((rd_T42 l0 x14_1).f1)] 42 (0, 0)) b5_5 hb); replace HB := Aside0.mk (below_step b5_4 hb); (try clear hb); (try clear hb2); (try clear hk); (try clear hi)))
    go_ret2
    exact ⟨_, ce_, q5_0, cB1_ GE164.out⟩
   subst c9
   rw [if_pos rfl] at H
   by_cases c10 : t165 = 0
   ·rw [if_pos c10] at H
    have c10b0 : (t165 == 0) = true := beq_iff_eq.mpr c10
    have c10b1 : (t165 != 0) = false := bne_eq_false_iff_eq.mpr c10
    clear c10
    have H' := Aside0.mk H
    clear H
    have p163 : 0 ≤ (x14_1 : Int) := cd_
    have q163 : x14_1 < (l0.length : Int) := cd_
    obtain ⟨ad163, A163_0, c163_0, e163, hx163_0, hx163_1, hl163_0, hi163_0⟩ := at_T42 HR0.out x14_1 p163 q163
    cases e163
    replace hx163_0 := pw_cell_below HB.out hx163_0
    replace hx163_1 := pw_cell_below HB.out hx163_1
    have HR163_0 := Aside0.mk hi163_0
    have HC163_0 := Aside0.mk hl163_0
    clear hi163_0 hl163_0
    replace p163 := eq_true p163
    replace q163 := eq_true q163
    go_wp2_with (first | (refine bx_ 8 #[.slice none 0 0, .int .i64 0] 42 ?_; intro gb164 hg w11 hbox hb; replace HO_6 := Aside0.mk (Kd.S_below (Kd.S_elderB (cS_ HO_6.out) gb164 (Nat.le_of_eq hg.symm)) hb); have BK164 := Aside0.mk (hbox); have GW164 := Aside0.mk ((by rw [hg]; exact (below_size cB0_) : w.heap.size ≤ gb164)); have GE164 := Aside0.mk ((by rw [hg]; exact (below_size cB0_) : w.heap.size ≤ gb164)); replace HB := Aside0.mk (below_step cB0_ hb); clear hb hbox hg; obtain ⟨hcz12_0, hcz12_1, hfz12_0, hfz12_1⟩ := cells2 BK164.out) | (refine gl_ 87 (some 22) Try.func87 #[.int .i64 ((rd_T42 l0 x14_1).f1), .int .i64 a1] ?_; (with_reducible refine (impl_mulWeight.calls k1 ((rd_T42 l0 x14_1).f1) a1 t165 true _ A8.out).mono ?_); rintro e w13 ⟨rfl, hb⟩; refine ⟨_, rfl, ?_⟩; replace HO_6 := Aside0.mk (Kd.S_below b5_8 hb); replace BK164 := Aside0.mk (blk_below (g := gb164) (o := .cells #[.slice A163_0 ((rd_T42 l0 x14_1).f0).length c163_0, .int .i64 ((rd_T42 l0 x14_1).f1)] 42 (0, 0)) b5_5 hb); replace HB := Aside0.mk (below_step b5_4 hb); (try clear hb); (try clear hb2); (try clear hk); (try clear hi)))
    go_roundg k1
    case measure => have := HK1.out; omega
    case rel => exact ⟨(x6_1), (wrap64 (x14_1 + 1)), cs_, H', ⟨co_ HK1.out⟩, ⟨by refine cS_ ?_; exact Kd.S_mono HO_6.out (fun _ hk => trivial)⟩, ⟨cB1_ GE164.out⟩⟩
   rw [if_neg c10] at H
   have c10b0 : (t165 == 0) = false := beq_eq_false_iff_ne.mpr c10
   have c10b1 : (t165 != 0) = true := bne_iff_ne.mpr c10
   obtain ⟨t167, A14, H⟩ := bnd_ H
   try dsimp only at H
   by_cases c15 : x6_1.length < 4398046511104
   rotate_left
   ·rw [if_neg c15] at H
    exact absurd H (by simp)
   rw [if_pos c15] at H
   have LMc15 := Aside0.mk c15
   clear c15
   obtain ⟨y170, hy_⟩ : ∃ y_ : List (S42), y_ = (x6_1 ++ [(⟨t167, t165⟩ : S42)]) := ⟨_, rfl⟩
   replace H : (impl_scaled.l0 k1 a1 y170 l0 (l0.length : Int) (wrap64 (x14_1 + 1))) = some (r1, r2) := yb_
   have Ny170 := Aside0.mk hy_
   clear hy_
   have H' := Aside0.mk H
   clear H
   have p163 : 0 ≤ (x14_1 : Int) := cd_
   have q163 : x14_1 < (l0.length : Int) := cd_
   obtain ⟨ad163, A163_0, c163_0, e163, hx163_0, hx163_1, hl163_0, hi163_0⟩ := at_T42 HR0.out x14_1 p163 q163
   cases e163
   replace hx163_0 := pw_cell_below HB.out hx163_0
   replace hx163_1 := pw_cell_below HB.out hx163_1
   have HR163_0 := Aside0.mk hi163_0
   have HC163_0 := Aside0.mk hl163_0
   clear hi163_0 hl163_0
   replace p163 := eq_true p163
   replace q163 := eq_true q163
   go_wp2_with (first | (refine bx_ 8 #[.slice none 0 0, .int .i64 0] 42 ?_; intro gb164 hg w16 hbox hb; replace HO_6 := Aside0.mk (Kd.S_below (Kd.S_elderB (cS_ HO_6.out) gb164 (Nat.le_of_eq hg.symm)) hb); have BK164 := Aside0.mk (hbox); have GW164 := Aside0.mk ((by rw [hg]; exact (below_size cB0_) : w.heap.size ≤ gb164)); have GE164 := Aside0.mk ((by rw [hg]; exact (below_size cB0_) : w.heap.size ≤ gb164)); replace HB := Aside0.mk (below_step cB0_ hb); clear hb hbox hg; obtain ⟨hcz17_0, hcz17_1, hfz17_0, hfz17_1⟩ := cells2 BK164.out) | (refine gl_ 87 (some 22) Try.func87 #[.int .i64 ((rd_T42 l0 x14_1).f1), .int .i64 a1] ?_; (with_reducible refine (impl_mulWeight.calls k1 ((rd_T42 l0 x14_1).f1) a1 t165 true _ A8.out).mono ?_); rintro e w18 ⟨rfl, hb⟩; refine ⟨_, rfl, ?_⟩; replace HO_6 := Aside0.mk (Kd.S_below b5_8 hb); replace BK164 := Aside0.mk (blk_below (g := gb164) (o := .cells #[.slice A163_0 ((rd_T42 l0 x14_1).f0).length c163_0, .int .i64 ((rd_T42 l0 x14_1).f1)] 42 (0, 0)) b5_5 hb); replace HB := Aside0.mk (below_step b5_4 hb); (try clear hb); (try clear hb2); (try clear hk); (try clear hi); obtain ⟨hcz19_0, hcz19_1, hfz19_0, hfz19_1⟩ := cells2 BK164.out) | (refine gl_ 63 (some 32) Try.func63 #[.slice A163_0 ((rd_T42 l0 x14_1).f0).length c163_0] ?_; (with_reducible refine (slices_Clone_int64_int64.calls _ _ ((rd_T42 l0 x14_1).f0) t167 _ ?side1 ?side2 A14.out).mono ?_); (case side1 => exact cC_ (Kd.C_below HR163_0.out HB.out)); (case side2 => exact HC163_0.out); rintro e w20 ⟨v168, rfl, ho0, hb⟩; refine ⟨_, rfl, ?_⟩; replace HO_6 := Aside0.mk (Kd.S_elder' (cS_ HO_6.out) (Kd.R_base ho0) hb); have HO169 := Aside0.mk (Kd.R_lower ho0 (below_size b5_4)); replace BK164 := Aside0.mk (blk_below (g := gb164) (o := .cells #[.slice A163_0 ((rd_T42 l0 x14_1).f0).length c163_0, .int .i64 ((rd_T42 l0 x14_1).f1)] 42 (0, 0)) (cO_ BK164.out) hb); replace HB := Aside0.mk (below_step b5_4 hb); (try clear hb); (try clear hb2); (try clear hk); (try clear hi); (try clear ho0); obtain ⟨Ao21, co21, eo21⟩ := Kd.R_slice HO169.out; subst eo21) | ((with_reducible refine gate_builtin (b := .append) (xs := #[.tmp 29, .tmp 35]) rfl ?_); at_builtin; refine Kd.S_append k42 (w0 := w) w.heap.size rfl (.tmp 29) (.tmp 35) 24 42 (.agg #[(.slice none 0 0), (.int .i64 0)]) 32 rfl Try.underlying24 info42 rfl (by decide) (by omega) u6 x6_1 (⟨t167, t165⟩ : S42) [.slice Ao21 t167.length co21, .int .i64 t165] (fun k_ => k_ ≠ gb164) (fun k_ => some k_ = (.slice Ao21 t167.length co21 : Value).ownBlock) rfl rfl ?aP (fun k_ hk_ => ((Kd.R_mono (ok' := fun k_ => ((fun k_ => k_ ≠ gb164)) k_ ∧ some k_ ≠ (u6 : Value).ownBlock) (Kd.R_types (Kd.R_apart' (HO169.out) (Kd.S_typed HO_6.out) (by decide)) BK164.out (by decide)) (fun k_ hk => ⟨hk.2, hk.1.2⟩))).1 k_ hk_.symm) ?aF ?aO ?aB ?aS ?aL ?_; (case aP => exact (by exact k42_mkM _ _ _ (⟨t167, t165⟩ : S42) (Kd.R_mono (Kd.R_tight rfl (Kd.R_mono (ok' := fun k_ => ((fun k_ => k_ ≠ gb164)) k_ ∧ some k_ ≠ (u6 : Value).ownBlock) (Kd.R_types (Kd.R_apart' (HO169.out) (Kd.S_typed HO_6.out) (by decide)) BK164.out (by decide)) (fun k_ hk => ⟨hk.2, hk.1.2⟩))) (fun _ h_ => h_)))); (case aB => exact b5_4); (case aF => exact (by exact (fun k_ hk => Kd.freshB (g := gb164) (o := .cells #[.slice A163_0 ((rd_T42 l0 x14_1).f0).length c163_0, .int .i64 ((rd_T42 l0 x14_1).f1)] 42 (0, 0)) (cO_ BK164.out) k_ hk))); (case aO => exact (by exact (by refine cS_ ?_; exact Kd.S_mono HO_6.out (fun k_ hk => ⟨hk.1.2, fun e_ => hk.2 e_⟩)))); (case aS => exact (by exact (below_size b5_4))); (case aL => exact co_ LMc15.out); intro v171 w22 ho hb hg hat; rw [← Ny170.out] at ho; replace BK164 := Aside0.mk (blk_grown (g := gb164) (o := .cells #[.slice A163_0 ((rd_T42 l0 x14_1).f0).length c163_0, .int .i64 ((rd_T42 l0 x14_1).f1)] 42 (0, 0)) (cO_ BK164.out) hg (Kd.S_away HO_6.out (fun _ hk => hk.1.2))); replace HB := Aside0.mk (hb); have HO172 := Aside0.mk (ho); clear HO_6; clear HO169; clear ho hb hg hat))
   go_roundg k1
   case measure => have := HK1.out; omega
   case rel => exact ⟨(y170), (wrap64 (x14_1 + 1)), cs_, H', ⟨co_ HK1.out⟩, ⟨by refine cS_ ?_; exact Kd.S_mono HO172.out (fun _ hk => trivial)⟩, ⟨cB1_ GE164.out⟩⟩

/-! ### impl_NegateSet: function 36 -/
def impl_NegateSet.f (k : Nat) (l0 : List (S42)) : Option (Int × (List (S42))) := (impl_SetFault.f k l0).bind fun t174 => (if t174 = 0 then ((impl_scaled.f k l0 (-1)).bind fun bt175 => (some (0, bt175.1))) else (some (t174, ([] : List (S42)))))
theorem impl_NegateSet.mono : ∀ a0 k, LeO (impl_NegateSet.f k a0) (impl_NegateSet.f (k + 1) a0) := by
 intro a0 k
 unfold impl_NegateSet.f
 repeat' first
   | (with_reducible exact impl_SetFault.mono _ _)
   | (with_reducible exact impl_scaled.mono _ _ _)
   | (with_reducible exact LeO.refl _)
   | (with_reducible exact LeO.none _)
   | (with_reducible refine LeO.ite ?_ ?_)
   | (with_reducible refine LeO.bind ?_ (fun _ => ?_))
   | refine LeO.ite ?_ ?_
   | refine LeO.bind ?_ (fun _ => ?_)
theorem impl_NegateSet.calls (k : Nat) (A0 : Option Addr) (c0 : Nat) (l0 : List (S42)) (r1 : Int) (r2 : List (S42)) (w : World) (hr0 : Kd.C k42 w A0 l0.length l0) (hc0 : l0.length ≤ c0) (h : impl_NegateSet.f k l0 = some (r1, r2)) :
  Calls Try.prog 36 #[.slice A0 l0.length c0] w fun e w' => ∃ v1_ : Value, e = .returned (.agg #[.int .i64 r1, v1_]) ∧ Kd.S k42 42 w' w.heap.size (fun _ => True) v1_ r2 ∧ Below w.heap.size w w' := by
 have hu26 := Try.underlying26
 have HR0 := Aside0.mk hr0
 have HC0 := Aside0.mk hc0
 clear hr0 hc0
 have HB := Aside0.mk (Below.refl w.heap.size w)
 have H : ((impl_SetFault.f k l0).bind fun t174 => (if t174 = 0 then ((impl_scaled.f k l0 (-1)).bind fun bt175 => (some (0, bt175.1))) else (some (t174, ([] : List (S42)))))) = some (r1, r2) := h
 clear h
 obtain ⟨t174, A2, H⟩ := bnd_ H
 try dsimp only at H
 by_cases c3 : t174 = 0
 ·rw [if_pos c3] at H
  have c3b0 : (t174 == 0) = true := beq_iff_eq.mpr c3
  have c3b1 : (t174 != 0) = false := bne_eq_false_iff_eq.mpr c3
  clear c3
  obtain ⟨⟨t175, t176⟩, A4, H⟩ := bnd_ H
  try dsimp only at H
  simp only [Option.some.injEq, Prod.mk.injEq] at H
  obtain ⟨rfl, rfl⟩ := H
  go_enter Try.func36, Try.ntmps36
  go_wp2_with (first | (refine bx_ 2 #[.int .i64 0, .slice none 0 0] 26 ?_; intro gb173 hg w5 hbox hb; have BK173 := Aside0.mk (hbox); have GW173 := Aside0.mk ((by rw [hg]; exact (below_size cB0_) : w.heap.size ≤ gb173)); have GE173 := Aside0.mk ((by rw [hg]; exact (below_size cB0_) : w.heap.size ≤ gb173)); replace HB := Aside0.mk (below_step cB0_ hb); clear hb hbox hg) | (refine gl_ 26 (some 7) Try.func26 #[.slice A0 l0.length c0] ?_; (with_reducible refine (impl_SetFault.calls k _ _ l0 t174 _ ?side1 ?side2 A2.out).mono ?_); (case side1 => exact cC_ (Kd.C_below HR0.out HB.out)); (case side2 => exact HC0.out); rintro e w6 ⟨rfl, hb⟩; refine ⟨_, rfl, ?_⟩; replace BK173 := Aside0.mk (blk_below (g := gb173) (o := .cells #[.int .i64 0, .slice none 0 0] 26 (0, 0)) (cO_ BK173.out) hb); replace HB := Aside0.mk (below_step (cB1_ GE173.out) hb); (try clear hb); (try clear hb2); (try clear hk); (try clear hi)) | (refine gl_ 82 (some 14) Try.func82 #[.slice A0 l0.length c0, .int .i64 (-1)] ?_; (with_reducible refine (impl_scaled.calls k _ _ l0 (-1) t175 t176 _ ?side1 ?side2 A4.out).mono ?_); (case side1 => exact cC_ (Kd.C_below HR0.out HB.out)); (case side2 => exact HC0.out); rintro e w7 ⟨v177, rfl, ho0, hb⟩; refine ⟨_, rfl, ?_⟩; have HO178 := Aside0.mk (Kd.S_lower ho0 (below_size (cB1_ GE173.out))); replace BK173 := Aside0.mk (blk_below (g := gb173) (o := .cells #[.int .i64 0, .slice none 0 0] 26 (0, 0)) (cO_ BK173.out) hb); replace HB := Aside0.mk (below_step (cB1_ GE173.out) hb); (try clear hb); (try clear hb2); (try clear hk); (try clear hi); (try clear ho0); obtain ⟨Ao8, co8, eo8⟩ := Kd.S_slice HO178.out; subst eo8; obtain ⟨hcz9_0, hcz9_1, hfz9_0, hfz9_1⟩ := cells2 BK173.out))
  refine bodyPost_ret (results_cell_row rfl _ _ gb173 26 #[.int .i64 0, .slice Ao8 t175.length co8] (0, 0) _ rfl (by refine cO_ ?_; refine blk_put (cs := #[.int .i64 0, .slice none 0 0]) ?_ 1 _ rfl; refine cO_ ?_; refine blk_put (cs := #[.int .i64 0, .slice none 0 0]) ?_ 0 _ rfl; refine cO_ ?_; exact BK173.out) Try.underlying26 rfl (by kernel_rfl)) rfl ?_
  exact ⟨_, ce_, by refine cS_ ?_; exact Kd.S_mono (Kd.S_far (p := ⟨gb173, 1, none⟩) (Kd.S_far (p := ⟨gb173, 0, none⟩) (Kd.S_types HO178.out BK173.out (by decide)) (fun _ hk => hk.2) (.int .i64 0)) (fun _ hk => hk.2) (.slice Ao8 t175.length co8)) (fun _ hk => trivial), cB1_ GE173.out⟩
 rw [if_neg c3] at H
 have c3b0 : (t174 == 0) = false := beq_eq_false_iff_ne.mpr c3
 have c3b1 : (t174 != 0) = true := bne_iff_ne.mpr c3
 simp only [Option.some.injEq, Prod.mk.injEq] at H
 obtain ⟨rfl, rfl⟩ := H
 go_enter Try.func36, Try.ntmps36
 go_wp2_with (first | (refine bx_ 2 #[.int .i64 0, .slice none 0 0] 26 ?_; intro gb173 hg w10 hbox hb; have BK173 := Aside0.mk (hbox); have GW173 := Aside0.mk ((by rw [hg]; exact (below_size cB0_) : w.heap.size ≤ gb173)); have GE173 := Aside0.mk ((by rw [hg]; exact (below_size cB0_) : w.heap.size ≤ gb173)); replace HB := Aside0.mk (below_step cB0_ hb); clear hb hbox hg) | (refine gl_ 26 (some 7) Try.func26 #[.slice A0 l0.length c0] ?_; (with_reducible refine (impl_SetFault.calls k _ _ l0 t174 _ ?side1 ?side2 A2.out).mono ?_); (case side1 => exact cC_ (Kd.C_below HR0.out HB.out)); (case side2 => exact HC0.out); rintro e w11 ⟨rfl, hb⟩; refine ⟨_, rfl, ?_⟩; replace BK173 := Aside0.mk (blk_below (g := gb173) (o := .cells #[.int .i64 0, .slice none 0 0] 26 (0, 0)) (cO_ BK173.out) hb); replace HB := Aside0.mk (below_step (cB1_ GE173.out) hb); (try clear hb); (try clear hb2); (try clear hk); (try clear hi); obtain ⟨hcz12_0, hcz12_1, hfz12_0, hfz12_1⟩ := cells2 BK173.out))
 refine bodyPost_ret (results_cell_row rfl _ _ gb173 26 #[.int .i64 t174, .slice none 0 0] (0, 0) _ rfl (by refine cO_ ?_; refine blk_put (cs := #[.int .i64 t174, .slice none 0 0]) ?_ 1 _ rfl; refine cO_ ?_; refine blk_put (cs := #[.int .i64 0, .slice none 0 0]) ?_ 0 _ rfl; refine cO_ ?_; exact BK173.out) Try.underlying26 rfl (by kernel_rfl)) rfl ?_
 exact ⟨_, ce_, q5_0, cB1_ GE173.out⟩

/-! ### spec_l1In: function 54 -/
def spec_l1In.f (a0 : Int) (a1 : Int) (a2 : Int) : Option (Bool) := if a0 ≥ a1 then (some (decide (a0 ≤ a2))) else (some false)
theorem spec_l1In.calls (a0 : Int) (a1 : Int) (a2 : Int) (r : Bool) (w : World) (h : spec_l1In.f a0 a1 a2 = some r) :
  Calls Try.prog 54 #[.int .i64 a0, .int .i64 a1, .int .i64 a2] w fun e w' => e = .returned (.bool r) ∧ Drawn0 w w' := by
 have H : (if a0 ≥ a1 then (some (decide (a0 ≤ a2))) else (some false)) = some r := h
 clear h
 by_cases c4 : a0 ≥ a1
 ·rw [if_pos c4] at H
  have c4b0 : decide (a1 ≤ a0) = true := decide_eq_true c4
  clear c4
  obtain rfl := Option.some.inj H
  go_enter Try.func54, Try.ntmps54
  go_wp2
  go_ret
  exact ⟨cs_, cD_⟩
 rw [if_neg c4] at H
 have c4b0 : decide (a1 ≤ a0) = false := decide_eq_false c4
 clear c4
 obtain rfl := Option.some.inj H
 go_enter Try.func54, Try.ntmps54
 go_wp2
 go_ret
 exact ⟨cs_, cD_⟩

/-! ### spec_RowFault: function 44 -/
def spec_RowFault.l0 : Nat → List Int → Int → Option (Int)
 | 0, _, _ => none
 | k + 1, x0, x3 => if x3 < (x0.length : Int) then (if 0 ≤ x3 then ((spec_l1In.f (rd x0 x3) (-1000000000) 1000000000).bind fun t180 => (if t180 = true then (spec_RowFault.l0 k x0 (wrap64 (x3 + 1))) else (some 3))) else (none)) else (some 0)
def spec_RowFault.f (k : Nat) (l0 : List Int) : Option (Int) := if (l0.length : Int) > 4 then (some 2) else (spec_RowFault.l0 k l0 0)
theorem spec_RowFault.mono_l : ∀ k, (∀ y0 y1, LeO (spec_RowFault.l0 k y0 y1) (spec_RowFault.l0 (k + 1) y0 y1))
 | 0 => fun _ _ r h => by simp [spec_RowFault.l0] at h
 | k + 1 => by
  have ih0 := spec_RowFault.mono_l k
  ·intro y0 y1
   unfold spec_RowFault.l0
   repeat' first
   | (with_reducible exact ih0 _ _)
   | (with_reducible exact LeO.refl _)
   | (with_reducible exact LeO.none _)
   | (with_reducible refine LeO.ite ?_ ?_)
   | (with_reducible refine LeO.bind ?_ (fun _ => ?_))
   | refine LeO.ite ?_ ?_
   | refine LeO.bind ?_ (fun _ => ?_)
theorem spec_RowFault.mono : ∀ a0 k, LeO (spec_RowFault.f k a0) (spec_RowFault.f (k + 1) a0) := by
 intro a0 k
 have ih0 := spec_RowFault.mono_l k
 unfold spec_RowFault.f
 repeat' first
   | (with_reducible exact ih0 _ _)
   | (with_reducible exact LeO.refl _)
   | (with_reducible exact LeO.none _)
   | (with_reducible refine LeO.ite ?_ ?_)
   | (with_reducible refine LeO.bind ?_ (fun _ => ?_))
   | refine LeO.ite ?_ ?_
   | refine LeO.bind ?_ (fun _ => ?_)
theorem spec_RowFault.calls (k : Nat) (A0 : Option Addr) (c0 : Nat) (l0 : List Int) (r : Int) (w : World) (hr0 : Kd.C (Kd.int .i64) w A0 l0.length l0) (hc0 : l0.length ≤ c0) (h : spec_RowFault.f k l0 = some r) :
  Calls Try.prog 44 #[.slice A0 l0.length c0] w fun e w' => e = .returned (.int .i64 r) ∧ Drawn0 w w' := by
 have HR0 := Aside0.mk hr0
 have HC0 := Aside0.mk hc0
 clear hr0 hc0
 have H : (if (l0.length : Int) > 4 then (some 2) else (spec_RowFault.l0 k l0 0)) = some r := h
 clear h
 by_cases c2 : (l0.length : Int) > 4
 ·rw [if_pos c2] at H
  have c2b0 : decide (4 < (l0.length : Int)) = true := decide_eq_true c2
  have c2b1 : decide (4 < l0.length) = true := decide_eq_true (by omega)
  clear c2
  obtain rfl := Option.some.inj H
  go_enter Try.func44, Try.ntmps44
  go_wp2
  go_ret
  exact ⟨cs_, cD_⟩
 rw [if_neg c2] at H
 have c2b0 : decide (4 < (l0.length : Int)) = false := decide_eq_false c2
 have c2b1 : decide (4 < l0.length) = false := decide_eq_false (by omega)
 clear c2
 have H' := Aside0.mk H
 clear H
 go_enter Try.func44, Try.ntmps44
 go_wp2
 go_loopg [3] k (fun kq v3 w' => ∃ (x3_1 : Int), v3 = .int .i64 x3_1 ∧ Aside0 (spec_RowFault.l0 kq l0 x3_1 = some r) ∧ Aside0 (kq ≤ k) ∧ Drawn0 w w')
 case atStart => exact ⟨(0), cs_, H', ⟨Nat.le_refl _⟩, cD_⟩
 case round =>
  clear H'
  try clear c2
  try clear c2b0
  try clear c2b1
  try clear p2
  obtain ⟨x3_1, rfl, HA, HK1, ⟨m1, rfl⟩⟩ := hrel
  cases gk with
  | zero => exact absurd HA.out (by simp [spec_RowFault.l0])
  | succ k1 =>
   have H := HA.out
   clear HA
   simp only [spec_RowFault.l0] at H
   by_cases c3 : x3_1 < (l0.length : Int)
   rotate_left
   ·rw [if_neg c3] at H
    have c3b0 := decide_eq_false c3
    clear c3
    obtain rfl := Option.some.inj H
    go_wp2
    go_ret
    exact ⟨cs_, cD_⟩
   rw [if_pos c3] at H
   have c3b0 := decide_eq_true c3
   clear c3
   by_cases c4 : 0 ≤ x3_1
   rotate_left
   ·rw [if_neg c4] at H
    exact absurd H (by simp)
   rw [if_pos c4] at H
   have c4b0 := decide_eq_true c4
   clear c4
   obtain ⟨t180, A5, H⟩ := bnd_ H
   try dsimp only at H
   by_cases c6 : t180 = true
   ·subst c6
    rw [if_pos rfl] at H
    have H' := Aside0.mk H
    clear H
    have p179 : 0 ≤ (x3_1 : Int) := cd_
    have q179 : x3_1 < (l0.length : Int) := cd_
    obtain ⟨ad179, e179, hx179_0⟩ := Kd.at_int HR0.out x3_1 p179 q179
    cases e179
    replace p179 := eq_true p179
    replace q179 := eq_true q179
    go_wp2_with (first | (refine gl_ 54 (some 17) Try.func54 #[.int .i64 (rd l0 x3_1), .int .i64 (-1000000000), .int .i64 1000000000] ?_; (with_reducible refine (spec_l1In.calls (rd l0 x3_1) (-1000000000) 1000000000 true _ A5.out).mono ?_); rintro e w' ⟨rfl, ⟨nd, rfl⟩⟩; refine ⟨_, rfl, ?_⟩))
    go_roundg k1
    case measure => have := HK1.out; omega
    case rel => exact ⟨(wrap64 (x3_1 + 1)), cs_, H', ⟨co_ HK1.out⟩, cD_⟩
   replace c6 := Bool.eq_false_iff.mpr c6
   subst c6
   rw [if_neg (show ¬ (false = true) by decide)] at H
   obtain rfl := Option.some.inj H
   have p179 : 0 ≤ (x3_1 : Int) := cd_
   have q179 : x3_1 < (l0.length : Int) := cd_
   obtain ⟨ad179, e179, hx179_0⟩ := Kd.at_int HR0.out x3_1 p179 q179
   cases e179
   replace p179 := eq_true p179
   replace q179 := eq_true q179
   go_wp2_with (first | (refine gl_ 54 (some 17) Try.func54 #[.int .i64 (rd l0 x3_1), .int .i64 (-1000000000), .int .i64 1000000000] ?_; (with_reducible refine (spec_l1In.calls (rd l0 x3_1) (-1000000000) 1000000000 false _ A5.out).mono ?_); rintro e w' ⟨rfl, ⟨nd, rfl⟩⟩; refine ⟨_, rfl, ?_⟩))
   go_ret
   exact ⟨cs_, cD_⟩

/-! ### spec_l1Weight: function 45 -/
def spec_l1Weight.f (a0 : Int) : Option (Bool) := (spec_l1In.f a0 (-1000000000000) 1000000000000).bind fun t181 => (some t181)
theorem spec_l1Weight.calls (a0 : Int) (r : Bool) (w : World) (h : spec_l1Weight.f a0 = some r) :
  Calls Try.prog 45 #[.int .i64 a0] w fun e w' => e = .returned (.bool r) ∧ Drawn0 w w' := by
 have H : ((spec_l1In.f a0 (-1000000000000) 1000000000000).bind fun t181 => (some t181)) = some r := h
 clear h
 obtain ⟨t181, A2, H⟩ := bnd_ H
 try dsimp only at H
 obtain rfl := Option.some.inj H
 go_enter Try.func45, Try.ntmps45
 go_wp2_with (first | (refine gl_ 54 (some 4) Try.func54 #[.int .i64 a0, .int .i64 (-1000000000000), .int .i64 1000000000000] ?_; (with_reducible refine (spec_l1In.calls a0 (-1000000000000) 1000000000000 t181 _ A2.out).mono ?_); rintro e w' ⟨rfl, ⟨nd, rfl⟩⟩; refine ⟨_, rfl, ?_⟩))
 go_ret
 exact ⟨cs_, cD_⟩

end Go.Proofs.Ythgmicingbjemaa.PFnJoins
