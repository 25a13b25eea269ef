-- Written by fprint, a program of this session, out of Lean's own print of the translation. Lean checks it.
import Derived.Test.YthgmicingbjemaaDense
import Derived.Test.YthgmicingbjemaaPFnGroupsx0
import Derived.Test.YthgmicingbjemaaPFnGroupsx2
import Derived.Test.YthgmicingbjemaaPFnGroupsx6
import Derived.Test.YthgmicingbjemaaPFnGroupsx8
namespace Go.Proofs.Ythgmicingbjemaa.PFnGroups
open Go.RowKit Go.Proofs.YthgmicingbjemaaW.PrintWords Go.Proofs.YthgmicingbjemaaW.PrintLast Go.Proofs.YthgmicingbjemaaW.PrintMore
attribute [local go_sem] max2_int min2_int max_two min_two max_three min_three max_four min_four   -- for this text's walks alone
set_option linter.unusedVariables false
set_option linter.unusedSimpArgs false

theorem b9_0 {p : Prop} (h : p := by exact cK_ HK.out) : p := h
theorem b9_2 {p : Prop} (h : p := by exact cB1_ GE231.out) : p := h
theorem b9_3 {p : Prop} (h : p := by exact cI_ HI0.out) : p := h
theorem b9_4 {p : Prop} (h : p := by exact cO_ BK231.out) : p := h
theorem b9_6 {p : Prop} (h : p := by exact cB1_ (IsS106.ge HI0.out)) : p := h
theorem b9_7 {p : Prop} (h : p := by exact cV_ HO0.out) : p := h
theorem b9_8 {p : Prop} (h : p := by exact cV_ HO1.out) : p := h
/-! ### impl_setsFault: function 79 -/
def impl_setsFault.l0 : Nat → List (List (S42)) → Int → Int → Option (Int)
 | 0, _, _, _ => none
 | k + 1, x6, x7, x8 => if x8 < x7 then (if 0 ≤ x8 then (if x8 < (x6.length : Int) then ((impl_SetFault.f k (rd_L4 x6 x8)).bind fun t197 => (if t197 = 0 then (impl_setsFault.l0 k x6 x7 (wrap64 (x8 + 1))) else (some t197))) else (none)) else (none)) else (some 0)
def impl_setsFault.f (k : Nat) (l0 : List (List (S42))) : Option (Int) := impl_setsFault.l0 k l0 (l0.length : Int) 0
theorem impl_setsFault.mono_l : ∀ k, (∀ y0 y1 y2, LeO (impl_setsFault.l0 k y0 y1 y2) (impl_setsFault.l0 (k + 1) y0 y1 y2))
 | 0 => fun _ _ _ r h => by simp [impl_setsFault.l0] at h
 | k + 1 => by
  have ih0 := impl_setsFault.mono_l k
  ·intro y0 y1 y2
   unfold impl_setsFault.l0
   repeat' first
   | (with_reducible exact ih0 _ _ _)
   | (with_reducible exact impl_SetFault.mono _ _)
   | (with_reducible exact LeO.refl _)
   | (with_reducible exact LeO.none _)
   | (with_reducible refine LeO.ite ?_ ?_)
   | (with_reducible refine LeO.bind ?_ (fun _ => ?_))
   | exact ih0 _ _ _
   | exact impl_SetFault.mono _ _
   | exact LeO.none _
   | refine LeO.ite ?_ ?_
   | refine LeO.bind ?_ (fun _ => ?_)
theorem impl_setsFault.mono : ∀ a0 k, LeO (impl_setsFault.f k a0) (impl_setsFault.f (k + 1) a0) := by
 intro a0 k
 have ih0 := impl_setsFault.mono_l k
 unfold impl_setsFault.f
 repeat' first
   | (with_reducible exact ih0 _ _ _)
   | (with_reducible exact impl_SetFault.mono _ _)
   | (with_reducible exact LeO.refl _)
   | (with_reducible exact LeO.none _)
   | (with_reducible refine LeO.ite ?_ ?_)
   | (with_reducible refine LeO.bind ?_ (fun _ => ?_))
   | exact ih0 _ _ _
   | exact impl_SetFault.mono _ _
   | exact LeO.none _
   | refine LeO.ite ?_ ?_
   | refine LeO.bind ?_ (fun _ => ?_)
set_option maxHeartbeats 8000000 in
set_option maxRecDepth 100000 in
theorem impl_setsFault.calls (k : Nat) (A0 : Option Addr) (c0 : Nat) (l0 : List (List (S42))) (r : Int) (w : World) (hr0 : Kd.C (Kd.slice 42 k42) w A0 l0.length l0) (hc0 : l0.length ≤ c0) (h : impl_setsFault.f k l0 = some r) :
  Calls Try.prog 79 #[.slice A0 l0.length c0] w fun e w' => e = .returned (.int .i64 r) ∧ Below w.heap.size w w' := by
 have HR0 := Aside0.mk hr0
 have HC0 := Aside0.mk hc0
 clear hr0 hc0
 have HB := Aside0.mk (Below.refl w.heap.size w)
 have H : (impl_setsFault.l0 k l0 (l0.length : Int) 0) = some r := h
 clear h
 have H' := Aside0.mk H
 clear H
 go_enter Try.func79, Try.ntmps79
 go_wp2
 go_loopg [8] k (fun kq v8 w' => ∃ (x8_1 : Int), v8 = .int .i64 x8_1 ∧ Aside0 (impl_setsFault.l0 kq l0 (l0.length : Int) x8_1 = some r) ∧ Aside0 (kq ≤ k) ∧ Aside0 (Below w.heap.size w w'))
 case atStart => exact ⟨(0), cs_, H', ⟨Nat.le_refl _⟩, ⟨cB0_⟩⟩
 case round =>
  clear H'
  obtain ⟨x8_1, rfl, HA, HK1, HB⟩ := hrel
  cases gk with
  | zero => exact absurd HA.out (by simp [impl_setsFault.l0])
  | succ k1 =>
   have H := HA.out
   clear HA
   simp only [impl_setsFault.l0] at H
   by_cases c2 : x8_1 < (l0.length : Int)
   ·rw [if_pos c2] at H
    have c2b0 : decide (x8_1 < (l0.length : Int)) = true := decide_eq_true c2
    clear c2
    by_cases c3 : 0 ≤ x8_1
    ·rw [if_pos c3] at H
     have c3b0 : decide (0 ≤ x8_1) = true := decide_eq_true c3
     clear c3
     by_cases c4 : x8_1 < (l0.length : Int)
     ·rw [if_pos c4] at H
      have c4b0 : decide (x8_1 < (l0.length : Int)) = true := decide_eq_true c4
      clear c4
      obtain ⟨t197, A5, H⟩ := bnd_ H
      try dsimp only at H
      by_cases c6 : t197 = 0
      ·rw [if_pos c6] at H
       have c6b0 : (t197 == 0) = true := beq_iff_eq.mpr c6
       have c6b1 : (t197 != 0) = false := bne_eq_false_iff_eq.mpr c6
       clear c6
       have H' := Aside0.mk H
       clear H
       have p196 : 0 ≤ (x8_1 : Int) := of_decide_eq_true ca_
       have q196 : x8_1 < (l0.length : Int) := of_decide_eq_true ca_
       obtain ⟨ad196, A196_0, c196_0, e196, hx196_0, hl196_0, hi196_0⟩ := at_L4 HR0.out x8_1 p196 q196
       cases e196
       replace hx196_0 := (HB.out.cell (World.block_lt_of_cell? w _ hx196_0)).trans hx196_0
       have HR196_0 := Aside0.mk hi196_0
       have HC196_0 := Aside0.mk hl196_0
       clear hi196_0 hl196_0
       replace p196 := eq_true p196
       replace q196 := eq_true q196
       go_wp2_with (first | (refine gl_ 26 (some 13) Try.func26 #[.slice A196_0 (rd_L4 l0 x8_1).length c196_0] ?_; (with_reducible refine (impl_SetFault.calls k1 _ _ (rd_L4 l0 x8_1) t197 _ ?side1 ?side2 A5.out).mono ?_); (case side1 => exact cC_ (Kd.C_below HR196_0.out HB.out)); (case side2 => exact HC196_0.out); rintro e w7 ⟨rfl, hb⟩; refine ⟨_, rfl, ?_⟩; replace HB := Aside0.mk (below_step cB0_ hb); (try clear hb); (try clear hb2); (try clear hk); (try clear hi)))
       go_roundg k1
       case measure => have := HK1.out; omega
       case rel => exact ⟨(wrap64 (x8_1 + 1)), cs_, H', ⟨co_ HK1.out⟩, ⟨cB0_⟩⟩
      ·rw [if_neg c6] at H
       have c6b0 : (t197 == 0) = false := beq_eq_false_iff_ne.mpr c6
       have c6b1 : (t197 != 0) = true := bne_iff_ne.mpr c6
       obtain rfl := Option.some.inj H
       have p196 : 0 ≤ (x8_1 : Int) := of_decide_eq_true ca_
       have q196 : x8_1 < (l0.length : Int) := of_decide_eq_true ca_
       obtain ⟨ad196, A196_0, c196_0, e196, hx196_0, hl196_0, hi196_0⟩ := at_L4 HR0.out x8_1 p196 q196
       cases e196
       replace hx196_0 := (HB.out.cell (World.block_lt_of_cell? w _ hx196_0)).trans hx196_0
       have HR196_0 := Aside0.mk hi196_0
       have HC196_0 := Aside0.mk hl196_0
       clear hi196_0 hl196_0
       replace p196 := eq_true p196
       replace q196 := eq_true q196
       go_wp2_with (first | (refine gl_ 26 (some 13) Try.func26 #[.slice A196_0 (rd_L4 l0 x8_1).length c196_0] ?_; (with_reducible refine (impl_SetFault.calls k1 _ _ (rd_L4 l0 x8_1) t197 _ ?side1 ?side2 A5.out).mono ?_); (case side1 => exact cC_ (Kd.C_below HR196_0.out HB.out)); (case side2 => exact HC196_0.out); rintro e w8 ⟨rfl, hb⟩; refine ⟨_, rfl, ?_⟩; replace HB := Aside0.mk (below_step cB0_ hb); (try clear hb); (try clear hb2); (try clear hk); (try clear hi)))
       go_ret
       exact ⟨ce_, cB0_⟩
     ·rw [if_neg c4] at H
      exact absurd H (by simp)
    ·rw [if_neg c3] at H
     exact absurd H (by simp)
   ·rw [if_neg c2] at H
    have c2b0 : decide (x8_1 < (l0.length : Int)) = false := decide_eq_false c2
    clear c2
    obtain rfl := Option.some.inj H
    go_wp2
    go_ret
    exact ⟨ce_, cB0_⟩

-- NOT PRINTED: function 112 (impl_Entry_112)

-- NOT PRINTED: function 80 (impl_Entry_80)

/-! ### impl_AddSets: function 34 -/
def impl_AddSets.f (k : Nat) (l0 : List (S42)) (l1 : List (S42)) : Option (Int × (List (S42))) := (impl_setsFault.f k (([l0, l1] : List (List (S42))))).bind fun t235 => (if t235 = 0 then ((if l0.length + l1.length < 4194304 then impl_summed.f (l0 ++ l1) else none).bind fun bt239 => (some (bt239.2, bt239.1))) else (some (t235, ([] : List (S42)))))
theorem impl_AddSets.mono : ∀ a0 a1 k, LeO (impl_AddSets.f k a0 a1) (impl_AddSets.f (k + 1) a0 a1) := by
 intro a0 a1 k
 unfold impl_AddSets.f
 repeat' first
   | (with_reducible exact impl_setsFault.mono _ _)
   | (with_reducible exact LeO.refl _)
   | (with_reducible exact LeO.none _)
   | (with_reducible refine LeO.ite ?_ ?_)
   | (with_reducible refine LeO.bind ?_ (fun _ => ?_))
   | exact impl_setsFault.mono _ _
   | exact LeO.none _
   | refine LeO.ite ?_ ?_
   | refine LeO.bind ?_ (fun _ => ?_)
set_option maxHeartbeats 8000000 in
set_option maxRecDepth 100000 in
theorem impl_AddSets.calls (k : Nat) (A0 : Option Addr) (c0 : Nat) (l0 : List (S42)) (A1 : Option Addr) (c1 : Nat) (l1 : List (S42)) (r1 : Int) (r2 : List (S42)) (w : World) (hr0 : Kd.C k42 w A0 l0.length l0) (hc0 : l0.length ≤ c0) (hr1 : Kd.C k42 w A1 l1.length l1) (hc1 : l1.length ≤ c1) (h : impl_AddSets.f k l0 l1 = some (r1, r2)) :
  Calls Try.prog 34 #[.slice A0 l0.length c0, .slice A1 l1.length c1] w fun e w' => ∃ v1_ : Value, e = .returned (.agg #[.int .i64 r1, v1_]) ∧ Kd.S k42 42 w' w.heap.size (fun _ => True) v1_ r2 ∧ Below w.heap.size w w' := by
 have huR_ := Try.underlying26
 have HO0 := Aside0.mk (show Kd.V k42 42 w w.heap.size (fun k_ => ((k_ < w.heap.size ∨ k_ < w.heap.size) ∨ w.heap.size ≤ k_)) (.slice A0 l0.length c0) l0 from Kd.V_mk hc0 (Kd.F_mono (Kd.C_F (show Kd.Heap k42 from Kd.heap_iso _ (Kd.heap_pair (Kd.heap_slice 2 (Kd.heap_int .i64)) (Kd.heap_int .i64))) hr0) (fun k_ hk => .inl (.inl hk))))
 have HO1 := Aside0.mk (show Kd.V k42 42 w w.heap.size (fun k_ => ((k_ < w.heap.size ∨ k_ < w.heap.size) ∨ w.heap.size ≤ k_)) (.slice A1 l1.length c1) l1 from Kd.V_mk hc1 (Kd.F_mono (Kd.C_F (show Kd.Heap k42 from Kd.heap_iso _ (Kd.heap_pair (Kd.heap_slice 2 (Kd.heap_int .i64)) (Kd.heap_int .i64))) hr1) (fun k_ hk => .inl (.inr hk))))
 have HB := Aside0.mk (Below.refl w.heap.size w)
 have H : ((impl_setsFault.f k (([l0, l1] : List (List (S42))))).bind fun t235 => (if t235 = 0 then ((if l0.length + l1.length < 4194304 then impl_summed.f (l0 ++ l1) else none).bind fun bt239 => (some (bt239.2, bt239.1))) else (some (t235, ([] : List (S42)))))) = some (r1, r2) := h
 clear h
 obtain ⟨y232, hy_⟩ : ∃ y_ : List (List (S42)), y_ = (([l0, l1] : List (List (S42)))) := ⟨_, rfl⟩
 replace H : ((impl_setsFault.f k y232).bind fun t235 => (if t235 = 0 then ((if l0.length + l1.length < 4194304 then impl_summed.f (l0 ++ l1) else none).bind fun bt239 => (some (bt239.2, bt239.1))) else (some (t235, ([] : List (S42)))))) = some (r1, r2) := yb_
 have Ny232 := Aside0.mk hy_
 clear hy_
 obtain ⟨t235, A3, H⟩ := bnd_ H
 try dsimp only at H
 by_cases c4 : t235 = 0
 ·rw [if_pos c4] at H
  have c4b0 : (t235 == 0) = true := beq_iff_eq.mpr c4
  have c4b1 : (t235 != 0) = false := bne_eq_false_iff_eq.mpr c4
  clear c4
  obtain ⟨y236, hy_⟩ : ∃ y_ : List (List (S42)), y_ = (([l0, l1] : List (List (S42)))) := ⟨_, rfl⟩
  replace H : ((if l0.length + l1.length < 4194304 then impl_summed.f (l0 ++ l1) else none).bind fun bt239 => (some (bt239.2, bt239.1))) = some (r1, r2) := yb_
  have Ny236 := Aside0.mk hy_
  clear hy_
  replace H := Option.bind_eq_some_iff.mp H
  obtain ⟨⟨t239, t240⟩, A50, H⟩ := H
  replace H : (some (t240, t239)) = some (r1, r2) := H
  obtain ⟨hl_, A50⟩ : l0.length + l1.length < 4194304 ∧ impl_summed.f (l0 ++ l1) = some (t239, t240) := by
   by_cases c_ : l0.length + l1.length < 4194304
   ·rw [if_pos c_] at A50; exact ⟨c_, A50⟩
   ·rw [if_neg c_] at A50; exact absurd A50 (by simp)
  have HL_ := Aside0.mk hl_
  clear hl_
  have A5 := Aside0.mk A50
  clear A50
  simp only [Option.some.injEq, Prod.mk.injEq] at H
  obtain ⟨rfl, rfl⟩ := H
  go_enter Try.func34, Try.ntmps34
  go_wp2_with (first | (refine bx_ 4 #[.int .i64 0, .slice none 0 0] 26 ?_; intro gb231 hg w6 hbox hb; replace HO0 := Aside0.mk (Kd.V_below (Kd.V_elderB b9_7 gb231 (Nat.le_of_eq hg.symm)) hb); replace HO1 := Aside0.mk (Kd.V_below (Kd.V_elderB b9_8 gb231 (Nat.le_of_eq hg.symm)) hb); have BK231 := Aside0.mk (hbox); have GW231 := Aside0.mk ((by rw [hg]; exact (below_size cB0_) : w.heap.size ≤ gb231)); have GE231 := Aside0.mk ((by rw [hg]; exact (below_size cB0_) : w.heap.size ≤ gb231)); replace HB := Aside0.mk (below_step cB0_ hb); clear hb hbox hg) | ((with_reducible refine gate_dst (N := 10) rfl ?_); refine Kd.N_lit (Kd.slice 42 k42) _ 24 ?hg (N' := 10) ?hd (xs := ([l0, l1] : List (List (S42)))) (inner := [.slice A0 l0.length c0, .slice A1 l1.length c1]) (ok := (fun k_ => ((k_ < w.heap.size ∨ k_ < w.heap.size) ∨ w.heap.size ≤ k_) ∧ k_ ≠ gb231)) (okp := (fun k_ => ((k_ < w.heap.size ∨ k_ < w.heap.size) ∨ w.heap.size ≤ k_) ∧ k_ ≠ gb231)) ?hr ?hp (fun _ hk => hk) ((show ∀ k_, w6.heap.size ≤ k_ → (fun k_ => ((k_ < w.heap.size ∨ k_ < w.heap.size) ∨ w.heap.size ≤ k_) ∧ k_ ≠ gb231) k_ from fun k_ hk => ⟨(.inr (Nat.le_trans (below_size b9_2) hk)), Kd.freshB (g := gb231) (o := .cells #[.int .i64 0, .slice none 0 0] 26 (0, 0)) b9_4 k_ hk⟩) _ (Nat.le_refl _)) (Below.refl _ _) (Nat.le_refl _) (by simp) ?_; (case hd => rfl); (case hg => rfl); (case hr => first | (go_simp; done) | (go_simp; rfl)); (case hp => exact (Reps.one (show Kd.FK (Kd.slice 42 k42) _ _ l0 [.slice A0 l0.length c0] from (Kd.FK_slice_mk (Kd.V_reads' (Kd.V_mono (ok' := (fun k_ => ((k_ < w.heap.size ∨ k_ < w.heap.size) ∨ w.heap.size ≤ k_) ∧ k_ ≠ gb231)) (HO0.out) (fun k_ hk => ⟨hk.1, hk.2⟩))).2.1 (Kd.V_F (Kd.V_mono (ok' := (fun k_ => ((k_ < w.heap.size ∨ k_ < w.heap.size) ∨ w.heap.size ≤ k_) ∧ k_ ≠ gb231)) (HO0.out) (fun k_ hk => ⟨hk.1, hk.2⟩))))) (Reps.one (show Kd.FK (Kd.slice 42 k42) _ _ l1 [.slice A1 l1.length c1] from (Kd.FK_slice_mk (Kd.V_reads' (Kd.V_mono (ok' := (fun k_ => ((k_ < w.heap.size ∨ k_ < w.heap.size) ∨ w.heap.size ≤ k_) ∧ k_ ≠ gb231)) (HO1.out) (fun k_ hk => ⟨hk.1, hk.2⟩))).2.1 (Kd.V_F (Kd.V_mono (ok' := (fun k_ => ((k_ < w.heap.size ∨ k_ < w.heap.size) ∨ w.heap.size ≤ k_) ∧ k_ ≠ gb231)) (HO1.out) (fun k_ hk => ⟨hk.1, hk.2⟩))))) (Reps.none _ _)))); intro v233 w7 ho8 hb hg_ hnew_; clear hg_ hnew_; (first | rw [← Ny232.out] at ho8 | (simp only [Int.reduceToNat] at ho8; rw [← Ny232.out] at ho8)); replace HO0 := Aside0.mk (Kd.V_elder' b9_7 (Kd.N_base ho8) hb); replace HO1 := Aside0.mk (Kd.V_elder' b9_8 (Kd.N_base ho8) hb); have HO234 := Aside0.mk (Kd.N_lower ho8 (below_size b9_2)); replace BK231 := Aside0.mk (blk_below (g := gb231) (o := .cells #[.int .i64 0, .slice none 0 0] 26 (0, 0)) b9_4 hb); replace HB := Aside0.mk (below_step b9_2 hb); clear hb ho8; obtain ⟨Ao9, co9, eo9⟩ := Kd.N_slice HO234.out; subst eo9) | (refine gl_ 79 (some 11) Try.func79 #[.slice Ao9 y232.length co9] ?_; (with_reducible refine (impl_setsFault.calls k _ _ y232 t235 _ ?side1 ?side2 A3.out).mono ?_); (case side1 => exact cC_ ((Kd.N_reads' HO234.out).2.2)); (case side2 => exact (Kd.N_reads' HO234.out).2.1); rintro e w10 ⟨rfl, hb⟩; refine ⟨_, rfl, ?_⟩; replace HO0 := Aside0.mk (Kd.V_below b9_7 hb); replace HO1 := Aside0.mk (Kd.V_below b9_8 hb); replace HO234 := Aside0.mk (Kd.N_below (cN_ HO234.out) hb); replace BK231 := Aside0.mk (blk_below (g := gb231) (o := .cells #[.int .i64 0, .slice none 0 0] 26 (0, 0)) b9_4 hb); replace HB := Aside0.mk (below_step b9_2 hb); (try clear hb); (try clear hb2); (try clear hk); (try clear hi)) | ((with_reducible refine gate_dst (N := 19) rfl ?_); refine Kd.N_lit (Kd.slice 42 k42) _ 24 ?hg (N' := 19) ?hd (xs := ([l0, l1] : List (List (S42)))) (inner := [.slice A0 l0.length c0, .slice A1 l1.length c1]) (ok := (fun k_ => ((k_ < w.heap.size ∨ k_ < w.heap.size) ∨ w.heap.size ≤ k_) ∧ some k_ ≠ (.slice Ao9 y232.length co9 : Value).ownBlock ∧ k_ ≠ gb231)) (okp := (fun k_ => ((k_ < w.heap.size ∨ k_ < w.heap.size) ∨ w.heap.size ≤ k_) ∧ some k_ ≠ (.slice Ao9 y232.length co9 : Value).ownBlock ∧ k_ ≠ gb231)) ?hr ?hp (fun _ hk => hk) ((show ∀ k_, w10.heap.size ≤ k_ → (fun k_ => ((k_ < w.heap.size ∨ k_ < w.heap.size) ∨ w.heap.size ≤ k_) ∧ some k_ ≠ (.slice Ao9 y232.length co9 : Value).ownBlock ∧ k_ ≠ gb231) k_ from fun k_ hk => ⟨(.inr (Nat.le_trans (below_size b9_2) hk)), Kd.fresh' (Kd.N_lt (cN_ HO234.out)) k_ hk, Kd.freshB (g := gb231) (o := .cells #[.int .i64 0, .slice none 0 0] 26 (0, 0)) b9_4 k_ hk⟩) _ (Nat.le_refl _)) (Below.refl _ _) (Nat.le_refl _) (by simp) ?_; (case hd => rfl); (case hg => rfl); (case hr => first | (go_simp; done) | (go_simp; rfl)); (case hp => exact (Reps.one (show Kd.FK (Kd.slice 42 k42) _ _ l0 [.slice A0 l0.length c0] from (Kd.FK_slice_mk (Kd.V_reads' (Kd.V_mono (ok' := (fun k_ => ((k_ < w.heap.size ∨ k_ < w.heap.size) ∨ w.heap.size ≤ k_) ∧ some k_ ≠ (.slice Ao9 y232.length co9 : Value).ownBlock ∧ k_ ≠ gb231)) (HO0.out) (fun k_ hk => ⟨hk.1.1, ⟨hk.2, hk.1.2⟩⟩))).2.1 (Kd.V_F (Kd.V_mono (ok' := (fun k_ => ((k_ < w.heap.size ∨ k_ < w.heap.size) ∨ w.heap.size ≤ k_) ∧ some k_ ≠ (.slice Ao9 y232.length co9 : Value).ownBlock ∧ k_ ≠ gb231)) (HO0.out) (fun k_ hk => ⟨hk.1.1, ⟨hk.2, hk.1.2⟩⟩))))) (Reps.one (show Kd.FK (Kd.slice 42 k42) _ _ l1 [.slice A1 l1.length c1] from (Kd.FK_slice_mk (Kd.V_reads' (Kd.V_mono (ok' := (fun k_ => ((k_ < w.heap.size ∨ k_ < w.heap.size) ∨ w.heap.size ≤ k_) ∧ some k_ ≠ (.slice Ao9 y232.length co9 : Value).ownBlock ∧ k_ ≠ gb231)) (HO1.out) (fun k_ hk => ⟨hk.1.1, ⟨hk.2, hk.1.2⟩⟩))).2.1 (Kd.V_F (Kd.V_mono (ok' := (fun k_ => ((k_ < w.heap.size ∨ k_ < w.heap.size) ∨ w.heap.size ≤ k_) ∧ some k_ ≠ (.slice Ao9 y232.length co9 : Value).ownBlock ∧ k_ ≠ gb231)) (HO1.out) (fun k_ hk => ⟨hk.1.1, ⟨hk.2, hk.1.2⟩⟩))))) (Reps.none _ _)))); intro v237 w11 ho12 hb hg_ hnew_; clear hg_ hnew_; (first | rw [← Ny236.out] at ho12 | (simp only [Int.reduceToNat] at ho12; rw [← Ny236.out] at ho12)); replace HO0 := Aside0.mk (Kd.V_elder' b9_7 (Kd.N_base ho12) hb); replace HO1 := Aside0.mk (Kd.V_elder' b9_8 (Kd.N_base ho12) hb); replace HO234 := Aside0.mk (Kd.N_elder' (cN_ HO234.out) (Kd.N_base ho12) hb); have HO238 := Aside0.mk (Kd.N_lower ho12 (below_size b9_2)); replace BK231 := Aside0.mk (blk_below (g := gb231) (o := .cells #[.int .i64 0, .slice none 0 0] 26 (0, 0)) b9_4 hb); replace HB := Aside0.mk (below_step b9_2 hb); clear hb ho12) | ((with_reducible refine gate_callee (f := 80) rfl ?_); obtain ⟨gq_, cq_, eq_, _, _, _⟩ := Kd.N_form HO238.out (by rw [Ny236.out]; exact Nat.zero_lt_succ _); subst eq_; refine goesL_ (some 20) rfl rfl Try.func80 (by kernel_rfl) rfl #[.slice (some ⟨gq_, 0, none⟩) y236.length cq_] rfl (by (try simp only [List.map_toArray, List.map_cons, List.map_nil]); first | done | rfl) ?_; have hsz_ : (Kd.sz k42) = 2 := rfl; (with_reducible refine (Concat.concatC (d := k42) (e := 42) (l0 := l0) (l1 := l1) hsz_ ?side1 ?side2).mono ?_); (case side1 => have z_ := (Kd.N_reads' HO238.out).2.2; rw [Ny236.out] at z_ ⊢; repeat (first | exact z_ | (with_reducible refine Kd.C_alloc ?_ _) | (with_reducible refine Kd.C_drewN ?_ _) | (with_reducible refine Kd.C_drew ?_))); (case side2 => exact co_ HL_.out); rintro e wq_ ⟨Aq_, cq2_, rfl, hcq_, hrq_, hb⟩; refine ⟨_, rfl, ?_⟩; have HRQ := Aside0.mk hrq_; have HCQ := Aside0.mk hcq_; have n0_ := Aside0.mk (Kd.V_below b9_7 hb); have n1_ := Aside0.mk (Kd.V_below b9_8 hb); have n2_ := Aside0.mk (Kd.N_below (cN_ HO234.out) hb); have n3_ := Aside0.mk (Kd.N_below (cN_ HO238.out) hb); have n4_ := Aside0.mk (blk_below (g := gb231) (o := .cells #[.int .i64 0, .slice none 0 0] 26 (0, 0)) b9_4 hb); have n5_ := Aside0.mk (below_step b9_2 hb); clear HO0 HO1 HO234 HO238 BK231 HB hrq_ hcq_; have HO0 := n0_; have HO1 := n1_; have HO234 := n2_; have HO238 := n3_; have BK231 := n4_; have HB := n5_; clear n0_ n1_ n2_ n3_ n4_ n5_; (try clear hb)) | (refine gl_ 50 (some 21) Try.func50 #[.slice Aq_ (l0 ++ l1).length cq2_] ?_; (with_reducible refine (impl_summed.calls _ _ (l0 ++ l1) t239 t240 _ ?side1 ?side2 A5.out).mono ?_); (case side1 => exact cC_ HRQ.out); (case side2 => exact HCQ.out); rintro e w13 ⟨v241, rfl, ho0, hb⟩; refine ⟨_, rfl, ?_⟩; replace HO0 := Aside0.mk (Kd.V_elder' b9_7 (Kd.S_base ho0) hb); replace HO1 := Aside0.mk (Kd.V_elder' b9_8 (Kd.S_base ho0) hb); replace HO234 := Aside0.mk (Kd.N_elder' (cN_ HO234.out) (Kd.S_base ho0) hb); replace HO238 := Aside0.mk (Kd.N_elder' (cN_ HO238.out) (Kd.S_base ho0) hb); have HO242 := Aside0.mk (Kd.S_lower (Kd.S_mono (ok' := fun k_ => k_ ≠ gb231) (Kd.S_bound ho0) (fun k_ hk_ => Kd.freshB (g := gb231) (o := .cells #[.int .i64 0, .slice none 0 0] 26 (0, 0)) b9_4 k_ hk_.2.1)) (below_size b9_2)); replace BK231 := Aside0.mk (blk_below (g := gb231) (o := .cells #[.int .i64 0, .slice none 0 0] 26 (0, 0)) b9_4 hb); replace HB := Aside0.mk (below_step b9_2 hb); (try clear hb); (try clear hb2); (try clear hk); (try clear hi); (try clear ho0); obtain ⟨Ao14, co14, eo14⟩ := Kd.S_slice HO242.out; subst eo14; obtain ⟨hcz15_0, hcz15_1, hfz15_0, hfz15_1⟩ := cells2 BK231.out))
  refine bodyPost_ret (results_cell_row rfl _ _ gb231 26 #[.int .i64 t240, .slice Ao14 t239.length co14] (0, 0) _ rfl (by refine cO_ ?_; refine blk_put (cs := #[.int .i64 t240, .slice none 0 0]) ?_ 1 _ rfl; refine cO_ ?_; refine blk_put (cs := #[.int .i64 0, .slice none 0 0]) ?_ 0 _ rfl; refine cO_ ?_; exact BK231.out) Try.underlying26 rfl (by kernel_rfl)) rfl ?_
  exact ⟨_, ce_, by refine cS_ ?_; exact Kd.S_mono (Kd.S_far (p := ⟨gb231, 1, none⟩) (Kd.S_far (p := ⟨gb231, 0, none⟩) HO242.out (fun _ hk => hk) (.int .i64 t240)) (fun _ hk => hk) (.slice Ao14 t239.length co14)) (fun _ _ => trivial), cB1_ GE231.out⟩
 ·rw [if_neg c4] at H
  have c4b0 : (t235 == 0) = false := beq_eq_false_iff_ne.mpr c4
  have c4b1 : (t235 != 0) = true := bne_iff_ne.mpr c4
  simp only [Option.some.injEq, Prod.mk.injEq] at H
  obtain ⟨rfl, rfl⟩ := H
  go_enter Try.func34, Try.ntmps34
  go_wp2_with (first | (refine bx_ 4 #[.int .i64 0, .slice none 0 0] 26 ?_; intro gb231 hg w16 hbox hb; replace HO0 := Aside0.mk (Kd.V_below (Kd.V_elderB b9_7 gb231 (Nat.le_of_eq hg.symm)) hb); replace HO1 := Aside0.mk (Kd.V_below (Kd.V_elderB b9_8 gb231 (Nat.le_of_eq hg.symm)) hb); have BK231 := Aside0.mk (hbox); have GW231 := Aside0.mk ((by rw [hg]; exact (below_size cB0_) : w.heap.size ≤ gb231)); have GE231 := Aside0.mk ((by rw [hg]; exact (below_size cB0_) : w.heap.size ≤ gb231)); replace HB := Aside0.mk (below_step cB0_ hb); clear hb hbox hg) | ((with_reducible refine gate_dst (N := 10) rfl ?_); refine Kd.N_lit (Kd.slice 42 k42) _ 24 ?hg (N' := 10) ?hd (xs := ([l0, l1] : List (List (S42)))) (inner := [.slice A0 l0.length c0, .slice A1 l1.length c1]) (ok := (fun k_ => ((k_ < w.heap.size ∨ k_ < w.heap.size) ∨ w.heap.size ≤ k_) ∧ k_ ≠ gb231)) (okp := (fun k_ => ((k_ < w.heap.size ∨ k_ < w.heap.size) ∨ w.heap.size ≤ k_) ∧ k_ ≠ gb231)) ?hr ?hp (fun _ hk => hk) ((show ∀ k_, w16.heap.size ≤ k_ → (fun k_ => ((k_ < w.heap.size ∨ k_ < w.heap.size) ∨ w.heap.size ≤ k_) ∧ k_ ≠ gb231) k_ from fun k_ hk => ⟨(.inr (Nat.le_trans (below_size b9_2) hk)), Kd.freshB (g := gb231) (o := .cells #[.int .i64 0, .slice none 0 0] 26 (0, 0)) b9_4 k_ hk⟩) _ (Nat.le_refl _)) (Below.refl _ _) (Nat.le_refl _) (by simp) ?_; (case hd => rfl); (case hg => rfl); (case hr => first | (go_simp; done) | (go_simp; rfl)); (case hp => exact (Reps.one (show Kd.FK (Kd.slice 42 k42) _ _ l0 [.slice A0 l0.length c0] from (Kd.FK_slice_mk (Kd.V_reads' (Kd.V_mono (ok' := (fun k_ => ((k_ < w.heap.size ∨ k_ < w.heap.size) ∨ w.heap.size ≤ k_) ∧ k_ ≠ gb231)) (HO0.out) (fun k_ hk => ⟨hk.1, hk.2⟩))).2.1 (Kd.V_F (Kd.V_mono (ok' := (fun k_ => ((k_ < w.heap.size ∨ k_ < w.heap.size) ∨ w.heap.size ≤ k_) ∧ k_ ≠ gb231)) (HO0.out) (fun k_ hk => ⟨hk.1, hk.2⟩))))) (Reps.one (show Kd.FK (Kd.slice 42 k42) _ _ l1 [.slice A1 l1.length c1] from (Kd.FK_slice_mk (Kd.V_reads' (Kd.V_mono (ok' := (fun k_ => ((k_ < w.heap.size ∨ k_ < w.heap.size) ∨ w.heap.size ≤ k_) ∧ k_ ≠ gb231)) (HO1.out) (fun k_ hk => ⟨hk.1, hk.2⟩))).2.1 (Kd.V_F (Kd.V_mono (ok' := (fun k_ => ((k_ < w.heap.size ∨ k_ < w.heap.size) ∨ w.heap.size ≤ k_) ∧ k_ ≠ gb231)) (HO1.out) (fun k_ hk => ⟨hk.1, hk.2⟩))))) (Reps.none _ _)))); intro v233 w17 ho18 hb hg_ hnew_; clear hg_ hnew_; (first | rw [← Ny232.out] at ho18 | (simp only [Int.reduceToNat] at ho18; rw [← Ny232.out] at ho18)); replace HO0 := Aside0.mk (Kd.V_elder' b9_7 (Kd.N_base ho18) hb); replace HO1 := Aside0.mk (Kd.V_elder' b9_8 (Kd.N_base ho18) hb); have HO234 := Aside0.mk (Kd.N_lower ho18 (below_size b9_2)); replace BK231 := Aside0.mk (blk_below (g := gb231) (o := .cells #[.int .i64 0, .slice none 0 0] 26 (0, 0)) b9_4 hb); replace HB := Aside0.mk (below_step b9_2 hb); clear hb ho18; obtain ⟨Ao19, co19, eo19⟩ := Kd.N_slice HO234.out; subst eo19) | (refine gl_ 79 (some 11) Try.func79 #[.slice Ao19 y232.length co19] ?_; (with_reducible refine (impl_setsFault.calls k _ _ y232 t235 _ ?side1 ?side2 A3.out).mono ?_); (case side1 => exact cC_ ((Kd.N_reads' HO234.out).2.2)); (case side2 => exact (Kd.N_reads' HO234.out).2.1); rintro e w20 ⟨rfl, hb⟩; refine ⟨_, rfl, ?_⟩; replace HO0 := Aside0.mk (Kd.V_below b9_7 hb); replace HO1 := Aside0.mk (Kd.V_below b9_8 hb); replace HO234 := Aside0.mk (Kd.N_below (cN_ HO234.out) hb); replace BK231 := Aside0.mk (blk_below (g := gb231) (o := .cells #[.int .i64 0, .slice none 0 0] 26 (0, 0)) b9_4 hb); replace HB := Aside0.mk (below_step b9_2 hb); (try clear hb); (try clear hb2); (try clear hk); (try clear hi); obtain ⟨hcz21_0, hcz21_1, hfz21_0, hfz21_1⟩ := cells2 BK231.out))
  refine bodyPost_ret (results_cell_row rfl _ _ gb231 26 #[.int .i64 t235, .slice none 0 0] (0, 0) _ rfl (by refine cO_ ?_; refine blk_put (cs := #[.int .i64 t235, .slice none 0 0]) ?_ 1 _ rfl; refine cO_ ?_; refine blk_put (cs := #[.int .i64 0, .slice none 0 0]) ?_ 0 _ rfl; refine cO_ ?_; exact BK231.out) Try.underlying26 rfl (by kernel_rfl)) rfl ?_
  exact ⟨_, ce_, by first | exact Kd.S_nil _ _ _ _ _ | exact Kd.N_nil _ _ _ _ _ | exact Kd.V_nil _ _ _ _ _ | exact Kd.Q_nil _ _ _ _ _ | exact Kd.R_nil _ _ _ _ _, cB1_ GE231.out⟩


/-- A state of type 106 at block g of W; what its slices lead to came in by w0. -/
def IsS106 (w0 W : World) (g : Nat) (f0 : List Int) (f1 : Int) : Prop := ∃ A0 c0, W.heap[g]? = some (.cells #[.slice A0 f0.length c0, .int .i64 f1] 106 (0, 0)) ∧ w0.heap.size ≤ g ∧ Kd.C (Kd.int .u8) w0 A0 f0.length f0
theorem IsS106.grown {w0 W : World} {g : Nat} {f0 : List Int} {f1 : Int} {W1 : World} {row : Option Nat} (h : IsS106 w0 W g f0 f1) (hw : W.grownBy W1 row) (hne : some g ≠ row) : IsS106 w0 W1 g f0 f1 := by
 obtain ⟨A0, c0, hb, hg, hr0⟩ := h
 exact ⟨A0, c0, blk_grown hb hw hne, hg, hr0⟩
theorem IsS106.own_neN {w0 W : World} {g : Nat} {f0 : List Int} {f1 : Int} {α : Type} {d : Kd α} {e : Nat} {base : Nat} {ok : Nat → Prop} {v : Value} {xs : List α} (h : IsS106 w0 W g f0 f1) (ho : Kd.N d e W base ok v xs) (ht : e ≠ 106) : some g ≠ v.ownBlock := by
 obtain ⟨A0, c0, hb, hg, hr0⟩ := h
 exact Kd.N_ne ho hb ht
theorem IsS106.fresh {w0 W : World} {g : Nat} {f0 : List Int} {f1 : Int} (h : IsS106 w0 W g f0 f1) : ∀ k, W.heap.size ≤ k → k ≠ g := by
 obtain ⟨A0, c0, hb, hg, hr0⟩ := h
 exact Kd.freshB hb
theorem IsS106.kept {w0 W : World} {g : Nat} {f0 : List Int} {f1 : Int} {W1 : World} {S : Nat → Prop} (h : IsS106 w0 W g f0 f1) (hk : Kept W W1 S) (hne : ¬ S g) : IsS106 w0 W1 g f0 f1 := by
 obtain ⟨A0, c0, hb, hg, hr0⟩ := h
 exact ⟨A0, c0, blk_kept hb hk hne, hg, hr0⟩
theorem IsS106.below {w0 W : World} {g : Nat} {f0 : List Int} {f1 : Int} {W1 : World} (h : IsS106 w0 W g f0 f1) (hw : Below W.heap.size W W1) : IsS106 w0 W1 g f0 f1 := h.grown (grown_of_below hw none) (by simp)
theorem IsS106.alloc {w0 W : World} {g : Nat} {f0 : List Int} {f1 : Int} (h : IsS106 w0 W g f0 f1) (o : Obj) : IsS106 w0 (W.alloc o) g f0 f1 := h.below (below_alloc (Below.refl _ _) o)
theorem IsS106.drewN {w0 W : World} {g : Nat} {f0 : List Int} {f1 : Int} (h : IsS106 w0 W g f0 f1) (m : Nat) : IsS106 w0 (W.drewN m) g f0 f1 := h
theorem IsS106.drew {w0 W : World} {g : Nat} {f0 : List Int} {f1 : Int} (h : IsS106 w0 W g f0 f1) : IsS106 w0 W.drew g f0 f1 := h
theorem IsS106.at_ {w0 W : World} {g : Nat} {f0 : List Int} {f1 : Int} {w' : World} {m : Nat} (hq : W.drewN m = w') (h : IsS106 w0 W g f0 f1) : IsS106 w0 w' g f0 f1 := by subst hq; exact IsS106.drewN h m
theorem IsS106.apart {w0 W : World} {g : Nat} {f0 : List Int} {f1 : Int} {α : Type} {d : Kd α} {e : Nat} {base : Nat} {ok : Nat → Prop} {v : Value} {xs : List α} (h : IsS106 w0 W g f0 f1) (ho : d.R e W base ok v xs) (ht : ∀ q, q ∈ e :: d.E → q ≠ 106) : d.R e W base (fun k => ok k ∧ k ≠ g) v xs := by
 obtain ⟨A0, c0, hb, hg, hr0⟩ := h
 exact Kd.R_types ho hb ht
theorem IsS106.own_ne {w0 W : World} {g : Nat} {f0 : List Int} {f1 : Int} {α : Type} {d : Kd α} {e : Nat} {base : Nat} {ok : Nat → Prop} {v : Value} {xs : List α} (h : IsS106 w0 W g f0 f1) (ho : d.R e W base ok v xs) (ht : e ≠ 106) : some g ≠ v.ownBlock := by
 obtain ⟨A0, c0, hb, hg, hr0⟩ := h
 exact Kd.R_ne ho hb ht
theorem IsS106.apartQ {w0 W : World} {g : Nat} {f0 : List Int} {f1 : Int} {α : Type} {d : Kd α} {e : Nat} {base : Nat} {ok : Nat → Prop} {v : Value} {xs : List α} (h : IsS106 w0 W g f0 f1) (ho : d.Q e W base ok v xs) (ht : ∀ q, q ∈ e :: d.E → q ≠ 106) : d.Q e W base (fun k => ok k ∧ k ≠ g) v xs := by
 obtain ⟨A0, c0, hb, hg, hr0⟩ := h
 exact Kd.Q_types ho hb ht
theorem IsS106.own_neQ {w0 W : World} {g : Nat} {f0 : List Int} {f1 : Int} {α : Type} {d : Kd α} {e : Nat} {base : Nat} {ok : Nat → Prop} {v : Value} {xs : List α} (h : IsS106 w0 W g f0 f1) (ho : d.Q e W base ok v xs) (ht : e ≠ 106) : some g ≠ v.ownBlock := by
 obtain ⟨A0, c0, hb, hg, hr0⟩ := h
 exact Kd.Q_ne ho hb ht
theorem IsS106.apartS {w0 W : World} {g : Nat} {f0 : List Int} {f1 : Int} {α : Type} {d : Kd α} {e : Nat} {base : Nat} {ok : Nat → Prop} {v : Value} {xs : List α} (h : IsS106 w0 W g f0 f1) (ho : d.S e W base ok v xs) (ht : ∀ q, q ∈ e :: d.E → q ≠ 106) : d.S e W base (fun k => ok k ∧ k ≠ g) v xs := by
 obtain ⟨A0, c0, hb, hg, hr0⟩ := h
 exact Kd.S_types ho hb ht
theorem IsS106.own_neS {w0 W : World} {g : Nat} {f0 : List Int} {f1 : Int} {α : Type} {d : Kd α} {e : Nat} {base : Nat} {ok : Nat → Prop} {v : Value} {xs : List α} (h : IsS106 w0 W g f0 f1) (ho : d.S e W base ok v xs) (ht : e ≠ 106) : some g ≠ v.ownBlock := by
 obtain ⟨A0, c0, hb, hg, hr0⟩ := h
 exact Kd.S_ne ho hb ht
theorem IsS106.lt {w0 W : World} {g : Nat} {f0 : List Int} {f1 : Int} (h : IsS106 w0 W g f0 f1) : g < W.heap.size := by
 obtain ⟨A0, c0, hb, hg, hr0⟩ := h
 exact blk_lt hb
theorem IsS106.ge {w0 W : World} {g : Nat} {f0 : List Int} {f1 : Int} (h : IsS106 w0 W g f0 f1) : w0.heap.size ≤ g := by
 obtain ⟨A0, c0, hb, hg, hr0⟩ := h
 exact hg
theorem IsS106.ne_blk {w0 W : World} {g : Nat} {f0 : List Int} {f1 : Int} {a : Nat} {cs : Array Value} {t : TypeId} {fr : Nat × Nat} (h : IsS106 w0 W g f0 f1) (hb2 : W.heap[a]? = some (.cells cs t fr)) (ht : t ≠ 106) : g ≠ a := by
 obtain ⟨A0, c0, hb, hg, hr0⟩ := h
 rintro rfl
 rw [hb] at hb2
 injection hb2 with hb2
 injection hb2 with _ ht2
 exact ht ht2.symm
theorem IsS106.far {w0 W : World} {g : Nat} {f0 : List Int} {f1 : Int} {p : Addr} (h : IsS106 w0 W g f0 f1) (hne : g ≠ p.block) (u : Value) : IsS106 w0 (W.setCell p u) g f0 f1 := by
 obtain ⟨A0, c0, hb, hg, hr0⟩ := h
 exact ⟨A0, c0, blk_far hb hne u, hg, hr0⟩
theorem cellS106_0 {W : World} {g : Nat} {A0 : Option Addr} {c0 : Nat} {f0 : List Int} {f1 : Int} (h : W.heap[g]? = some (.cells #[.slice A0 f0.length c0, .int .i64 f1] 106 (0, 0))) : W.cell? ⟨g, 0, none⟩ = some (.slice A0 f0.length c0) := (blk_cell h 0).trans rfl
theorem cellS106_1 {W : World} {g : Nat} {A0 : Option Addr} {c0 : Nat} {f0 : List Int} {f1 : Int} (h : W.heap[g]? = some (.cells #[.slice A0 f0.length c0, .int .i64 f1] 106 (0, 0))) : W.cell? ⟨g, 1, none⟩ = some (.int .i64 f1) := (blk_cell h 1).trans rfl
theorem IsS106.set_1 {w0 W : World} {g : Nat} {f0 : List Int} {f1 : Int} (h : IsS106 w0 W g f0 f1) (x : Int) : IsS106 w0 (W.setCell ⟨g, 1, none⟩ (.int .i64 x)) g f0 x := by
 obtain ⟨A0, c0, hb, hg, hr0⟩ := h
 exact ⟨A0, c0, by simpa using blk_set hb 1 (.int .i64 x), hg, hr0⟩
theorem IsS106.new (w0 W : World) (A0 : Option Addr) (c0 : Nat) (f0 : List Int) (f1 : Int) (hB : Below w0.heap.size w0 W) (hr0 : Kd.C (Kd.int .u8) w0 A0 f0.length f0) : IsS106 w0 (W.alloc (.cells #[.slice A0 f0.length c0, .int .i64 f1] 106)) W.heap.size f0 f1 := ⟨A0, c0, by simpa using heap_alloc_new W _, hB.size, hr0⟩

theorem cI_ {q p : Prop} (x : q) (h : q → p := by intro x_; repeat (first | (with_reducible first | exact x_ | apply IsS106.alloc | apply IsS106.drewN | apply IsS106.drew | apply IsS106.set_1) | exact x_)) : p := h x
/-! ### spec_l1Source: function 64 -/
def spec_l1Source.f (l0 : List Int) : Option (List Int × Int) := some (l0, 0)
set_option maxHeartbeats 8000000 in
set_option maxRecDepth 100000 in
theorem spec_l1Source.calls (A0 : Option Addr) (c0 : Nat) (l0 : List Int) (r1 : List Int) (r2 : Int) (w0 w : World) (hB : Below w0.heap.size w0 w) (hr0 : Kd.C (Kd.int .u8) w0 A0 l0.length l0) (hc0 : l0.length ≤ c0) (h : spec_l1Source.f l0 = some (r1, r2)) :
  Calls Try.prog 64 #[.slice A0 l0.length c0] w fun e w' => ∃ g_ : Nat, e = .returned (.pointer (some ⟨g_, 0, none⟩)) ∧ IsS106 w0 w' g_ r1 r2 ∧ Below w0.heap.size w0 w' ∧ Below w.heap.size w w' := by
 have hu106 := Try.underlying106
 have HR0 := Aside0.mk hr0
 have HC0 := Aside0.mk hc0
 clear hr0 hc0
 have HBW := Aside0.mk (Below.refl w.heap.size w)
 have HW0 := Aside0.mk hB.size
 have HB := Aside0.mk hB
 clear hB
 have H : (some (l0, 0)) = some (r1, r2) := h
 clear h
 simp only [Option.some.injEq, Prod.mk.injEq] at H
 obtain ⟨rfl, rfl⟩ := H
 go_enter Try.func64, Try.ntmps64
 go_wp2_with (first | (refine bx_ 5 #[.slice A0 l0.length c0, .int .i64 0] 106 ?_; intro gb199 hg w2 hbox hb; replace HB := Aside0.mk (below_step cB0_ hb); have BK199 := Aside0.mk (hbox); have GW199 := Aside0.mk ((by rw [hg]; exact (below_size (by repeat (first | (with_reducible first | exact HBW.out | apply below_alloc | apply pw_below_drewN | apply below_drew1) | exact HBW.out))) : w.heap.size ≤ gb199)); have GE199 := Aside0.mk ((Nat.le_trans HW0.out (by rw [hg]; exact (below_size (by repeat (first | (with_reducible first | exact HBW.out | apply below_alloc | apply pw_below_drewN | apply below_drew1) | exact HBW.out))) : w.heap.size ≤ gb199) : w0.heap.size ≤ gb199)); replace HBW := Aside0.mk (below_step HBW.out hb); clear hb hbox hg))
 go_ret
 exact ⟨_, rfl, (show IsS106 w0 _ gb199 l0 0 from ⟨_, _, cO_ BK199.out, GE199.out, HR0.out⟩), cB1_ GE199.out, by repeat (first | (with_reducible first | exact HBW.out | apply below_alloc | apply pw_below_drewN | apply below_drew1 | refine below_set ?_ GW199.out) | exact HBW.out)⟩

/-! ### spec_l1Next: function 66 -/
def spec_l1Next.f (s0_0 : List Int) (s0_1 : Int) (a1 : Int) : Option (Int × Int) := if a1 < 1 then (some (0, wrap64 (s0_1 + 1))) else (if (s0_0.length : Int) = 0 then (if a1 = 0 then (none) else (some (Int.tmod (wrap64 ((wrap64 ((wrap64 (s0_1 + 1)) - 1)) * 7)) a1, wrap64 (s0_1 + 1)))) else (if 0 ≤ (Int.tmod (wrap64 ((wrap64 (s0_1 + 1)) - 1)) (s0_0.length : Int)) then (if (Int.tmod (wrap64 ((wrap64 (s0_1 + 1)) - 1)) (s0_0.length : Int)) < (s0_0.length : Int) then (if a1 > 200 then (if 0 ≤ (Int.tmod (wrap64 ((wrap64 ((wrap64 (s0_1 + 1)) - 1)) + 1)) (s0_0.length : Int)) then (if (Int.tmod (wrap64 ((wrap64 ((wrap64 (s0_1 + 1)) - 1)) + 1)) (s0_0.length : Int)) < (s0_0.length : Int) then (if a1 = 0 then (none) else (some (Int.tmod (wrap64 ((wrap64 ((wrap64 ((wrap64 ((wrap64 (rd s0_0 (Int.tmod (wrap64 ((wrap64 (s0_1 + 1)) - 1)) (s0_0.length : Int)))) + (wrap64 ((wrap64 (Int.tdiv (wrap64 ((wrap64 (s0_1 + 1)) - 1)) (s0_0.length : Int))) * 37)))) * 251)) + (wrap64 ((wrap64 (rd s0_0 (Int.tmod (wrap64 ((wrap64 ((wrap64 (s0_1 + 1)) - 1)) + 1)) (s0_0.length : Int)))) * 13)))) + (wrap64 ((wrap64 (s0_1 + 1)) - 1)))) a1, wrap64 (s0_1 + 1)))) else (none)) else (none)) else (if a1 = 0 then (none) else (some (Int.tmod (wrap64 ((wrap64 (rd s0_0 (Int.tmod (wrap64 ((wrap64 (s0_1 + 1)) - 1)) (s0_0.length : Int)))) + (wrap64 ((wrap64 (Int.tdiv (wrap64 ((wrap64 (s0_1 + 1)) - 1)) (s0_0.length : Int))) * 37)))) a1, wrap64 (s0_1 + 1))))) else (none)) else (none)))
set_option maxHeartbeats 8000000 in
set_option maxRecDepth 100000 in
theorem spec_l1Next.calls (g : Nat) (s0_0 : List Int) (s0_1 : Int) (a1 : Int) (r1 : Int) (r2 : Int) (w0 w : World) (hI : IsS106 w0 w g s0_0 s0_1) (hB : Below w0.heap.size w0 w) (h : spec_l1Next.f s0_0 s0_1 a1 = some (r1, r2)) :
  Calls Try.prog 66 #[.pointer (some ⟨g, 0, none⟩), .int .i64 a1] w fun e w' => e = .returned (.int .i64 r1) ∧ IsS106 w0 w' g s0_0 r2 ∧ Below w0.heap.size w0 w' ∧ KeepBut w w' g none := by
 have HI0 := Aside0.mk hI
 have HK := Aside0.mk (KeepBut.refl w g none)
 have HL := Aside0.mk hB.size
 clear hI
 have HW0 := Aside0.mk hB.size
 have HB := Aside0.mk hB
 clear hB
 have H : (if a1 < 1 then (some (0, wrap64 (s0_1 + 1))) else (if (s0_0.length : Int) = 0 then (if a1 = 0 then (none) else (some (Int.tmod (wrap64 ((wrap64 ((wrap64 (s0_1 + 1)) - 1)) * 7)) a1, wrap64 (s0_1 + 1)))) else (if 0 ≤ (Int.tmod (wrap64 ((wrap64 (s0_1 + 1)) - 1)) (s0_0.length : Int)) then (if (Int.tmod (wrap64 ((wrap64 (s0_1 + 1)) - 1)) (s0_0.length : Int)) < (s0_0.length : Int) then (if a1 > 200 then (if 0 ≤ (Int.tmod (wrap64 ((wrap64 ((wrap64 (s0_1 + 1)) - 1)) + 1)) (s0_0.length : Int)) then (if (Int.tmod (wrap64 ((wrap64 ((wrap64 (s0_1 + 1)) - 1)) + 1)) (s0_0.length : Int)) < (s0_0.length : Int) then (if a1 = 0 then (none) else (some (Int.tmod (wrap64 ((wrap64 ((wrap64 ((wrap64 ((wrap64 (rd s0_0 (Int.tmod (wrap64 ((wrap64 (s0_1 + 1)) - 1)) (s0_0.length : Int)))) + (wrap64 ((wrap64 (Int.tdiv (wrap64 ((wrap64 (s0_1 + 1)) - 1)) (s0_0.length : Int))) * 37)))) * 251)) + (wrap64 ((wrap64 (rd s0_0 (Int.tmod (wrap64 ((wrap64 ((wrap64 (s0_1 + 1)) - 1)) + 1)) (s0_0.length : Int)))) * 13)))) + (wrap64 ((wrap64 (s0_1 + 1)) - 1)))) a1, wrap64 (s0_1 + 1)))) else (none)) else (none)) else (if a1 = 0 then (none) else (some (Int.tmod (wrap64 ((wrap64 (rd s0_0 (Int.tmod (wrap64 ((wrap64 (s0_1 + 1)) - 1)) (s0_0.length : Int)))) + (wrap64 ((wrap64 (Int.tdiv (wrap64 ((wrap64 (s0_1 + 1)) - 1)) (s0_0.length : Int))) * 37)))) a1, wrap64 (s0_1 + 1))))) else (none)) else (none)))) = some (r1, r2) := h
 clear h
 by_cases c3 : a1 < 1
 ·rw [if_pos c3] at H
  have c3b0 : decide (a1 < 1) = true := decide_eq_true c3
  clear c3
  simp only [Option.some.injEq, Prod.mk.injEq] at H
  obtain ⟨rfl, rfl⟩ := H
  obtain ⟨ASz4_0, cSz4_0, HGz4, hgz4, HSz4_0⟩ := HI0.out
  have hcz4_0 := cellS106_0 HGz4
  have hcz4_1 := cellS106_1 HGz4
  have hfz4_1 := blk_frozen HGz4 1
  clear HGz4 hgz4
  go_enter Try.func66, Try.ntmps66
  go_wp2
  repeat (go_quiet (fail); try go_wp2)
  go_ret
  exact ⟨ce_, cI_ HI0.out, cB1_ (IsS106.ge HI0.out), cK_ HK.out⟩
 ·rw [if_neg c3] at H
  have c3b0 : decide (a1 < 1) = false := decide_eq_false c3
  clear c3
  by_cases c5 : (s0_0.length : Int) = 0
  ·rw [if_pos c5] at H
   have c5b0 : ((s0_0.length : Int) == 0) = true := beq_iff_eq.mpr c5
   have c5b1 : ((s0_0.length : Int) != 0) = false := bne_eq_false_iff_eq.mpr c5
   clear c5
   by_cases c6 : a1 = 0
   ·rw [if_pos c6] at H
    exact absurd H (by simp)
   ·rw [if_neg c6] at H
    have c6b0 : (a1 == 0) = false := beq_eq_false_iff_ne.mpr c6
    have c6b1 : (a1 != 0) = true := bne_iff_ne.mpr c6
    simp only [Option.some.injEq, Prod.mk.injEq] at H
    obtain ⟨rfl, rfl⟩ := H
    obtain ⟨ASz7_0, cSz7_0, HGz7, hgz7, HSz7_0⟩ := HI0.out
    have hcz7_0 := cellS106_0 HGz7
    have hcz7_1 := cellS106_1 HGz7
    have hfz7_1 := blk_frozen HGz7 1
    clear HGz7 hgz7
    go_enter Try.func66, Try.ntmps66
    go_wp2
    repeat (go_quiet (fail); try go_wp2)
    go_ret
    exact ⟨ce_, cI_ HI0.out, cB1_ (IsS106.ge HI0.out), cK_ HK.out⟩
  ·rw [if_neg c5] at H
   have c5b0 : ((s0_0.length : Int) == 0) = false := beq_eq_false_iff_ne.mpr c5
   have c5b1 : ((s0_0.length : Int) != 0) = true := bne_iff_ne.mpr c5
   have c5b2 : ¬ (s0_0 = []) := fun h_ => c5 (by rw [h_]; rfl)
   obtain ⟨ji8, hji8⟩ : ∃ j_ : Int, (Int.tmod (wrap64 ((wrap64 (s0_1 + 1)) - 1)) (s0_0.length : Int)) = j_ := ⟨_, rfl⟩
   replace H : (if 0 ≤ (ji8) then (if (ji8) < (s0_0.length : Int) then (if a1 > 200 then (if 0 ≤ (Int.tmod (wrap64 ((wrap64 ((wrap64 (s0_1 + 1)) - 1)) + 1)) (s0_0.length : Int)) then (if (Int.tmod (wrap64 ((wrap64 ((wrap64 (s0_1 + 1)) - 1)) + 1)) (s0_0.length : Int)) < (s0_0.length : Int) then (if a1 = 0 then (none) else (some (Int.tmod (wrap64 ((wrap64 ((wrap64 ((wrap64 ((wrap64 (rd s0_0 (ji8))) + (wrap64 ((wrap64 (Int.tdiv (wrap64 ((wrap64 (s0_1 + 1)) - 1)) (s0_0.length : Int))) * 37)))) * 251)) + (wrap64 ((wrap64 (rd s0_0 (Int.tmod (wrap64 ((wrap64 ((wrap64 (s0_1 + 1)) - 1)) + 1)) (s0_0.length : Int)))) * 13)))) + (wrap64 ((wrap64 (s0_1 + 1)) - 1)))) a1, wrap64 (s0_1 + 1)))) else (none)) else (none)) else (if a1 = 0 then (none) else (some (Int.tmod (wrap64 ((wrap64 (rd s0_0 (ji8))) + (wrap64 ((wrap64 (Int.tdiv (wrap64 ((wrap64 (s0_1 + 1)) - 1)) (s0_0.length : Int))) * 37)))) a1, wrap64 (s0_1 + 1))))) else (none)) else (none)) = some (r1, r2) := by first | (rw [hji8] at H; exact H) | (simp only [hji8] at H ⊢; exact H)
   by_cases c9 : 0 ≤ (ji8)
   ·rw [if_pos c9] at H
    have c9b0 : decide (0 ≤ (ji8)) = true := decide_eq_true c9
    clear c9
    by_cases c10 : (ji8) < (s0_0.length : Int)
    ·rw [if_pos c10] at H
     have c10b0 : decide ((ji8) < (s0_0.length : Int)) = true := decide_eq_true c10
     clear c10
     by_cases c11 : a1 > 200
     ·rw [if_pos c11] at H
      have c11b0 : decide (200 < a1) = true := decide_eq_true c11
      clear c11
      obtain ⟨ji12, hji12⟩ : ∃ j_ : Int, (Int.tmod (wrap64 ((wrap64 ((wrap64 (s0_1 + 1)) - 1)) + 1)) (s0_0.length : Int)) = j_ := ⟨_, rfl⟩
      replace H : (if 0 ≤ (ji12) then (if (ji12) < (s0_0.length : Int) then (if a1 = 0 then (none) else (some (Int.tmod (wrap64 ((wrap64 ((wrap64 ((wrap64 ((wrap64 (rd s0_0 (ji8))) + (wrap64 ((wrap64 (Int.tdiv (wrap64 ((wrap64 (s0_1 + 1)) - 1)) (s0_0.length : Int))) * 37)))) * 251)) + (wrap64 ((wrap64 (rd s0_0 (ji12))) * 13)))) + (wrap64 ((wrap64 (s0_1 + 1)) - 1)))) a1, wrap64 (s0_1 + 1)))) else (none)) else (none)) = some (r1, r2) := by first | (rw [hji12] at H; exact H) | (simp only [hji12] at H ⊢; exact H)
      by_cases c13 : 0 ≤ (ji12)
      ·rw [if_pos c13] at H
       have c13b0 : decide (0 ≤ (ji12)) = true := decide_eq_true c13
       clear c13
       by_cases c14 : (ji12) < (s0_0.length : Int)
       ·rw [if_pos c14] at H
        have c14b0 : decide ((ji12) < (s0_0.length : Int)) = true := decide_eq_true c14
        clear c14
        by_cases c15 : a1 = 0
        ·rw [if_pos c15] at H
         exact absurd H (by simp)
        ·rw [if_neg c15] at H
         have c15b0 : (a1 == 0) = false := beq_eq_false_iff_ne.mpr c15
         have c15b1 : (a1 != 0) = true := bne_iff_ne.mpr c15
         simp only [Option.some.injEq, Prod.mk.injEq] at H
         obtain ⟨rfl, rfl⟩ := H
         obtain ⟨ASz16_0, cSz16_0, HGz16, hgz16, HSz16_0⟩ := HI0.out
         have hcz16_0 := cellS106_0 HGz16
         have hcz16_1 := cellS106_1 HGz16
         have hfz16_1 := blk_frozen HGz16 1
         clear HGz16 hgz16
         have p200 : 0 ≤ ((ji8) : Int) := of_decide_eq_true ca_
         have q200 : (ji8) < (s0_0.length : Int) := of_decide_eq_true ca_
         obtain ⟨ad200, e200, hx200_0⟩ := Kd.at_int HSz16_0 (ji8) p200 q200
         cases e200
         have hn200_0 : ad200.block ≠ g := Nat.ne_of_lt (Nat.lt_of_lt_of_le (by have := World.block_lt_of_cell? _ _ hx200_0; first | rwa [add_block] at this | exact this) (IsS106.ge HI0.out))
         replace hx200_0 := pw_cell_below HB.out hx200_0
         replace hx200_0 := (cell_far (p := ⟨g, 1, none⟩) (by first | (rw [add_block]; exact hn200_0) | (show (Addr.add _ _).block ≠ _; rw [add_block]; exact hn200_0) | exact hn200_0) (.int .i64 (wrap64 (s0_1 + 1)))).trans hx200_0
         (try have hy200_0 := fun (n_ : Nat) => (show (((w.drewN n_).setCell ⟨g, 1, none⟩ (.int .i64 (wrap64 (s0_1 + 1))))).cell? _ = some _ from hx200_0))
         clear hn200_0
         replace p200 := eq_true p200
         replace q200 := eq_true q200
         have p201 : 0 ≤ ((ji12) : Int) := of_decide_eq_true ca_
         have q201 : (ji12) < (s0_0.length : Int) := of_decide_eq_true ca_
         obtain ⟨ad201, e201, hx201_0⟩ := Kd.at_int HSz16_0 (ji12) p201 q201
         obtain rfl : ad200 = ad201 := (by injection e201)
         have hn201_0 : ad200.block ≠ g := Nat.ne_of_lt (Nat.lt_of_lt_of_le (by have := World.block_lt_of_cell? _ _ hx201_0; first | rwa [add_block] at this | exact this) (IsS106.ge HI0.out))
         replace hx201_0 := pw_cell_below HB.out hx201_0
         replace hx201_0 := (cell_far (p := ⟨g, 1, none⟩) (by first | (rw [add_block]; exact hn201_0) | (show (Addr.add _ _).block ≠ _; rw [add_block]; exact hn201_0) | exact hn201_0) (.int .i64 (wrap64 (s0_1 + 1)))).trans hx201_0
         (try have hy201_0 := fun (n_ : Nat) => (show (((w.drewN n_).setCell ⟨g, 1, none⟩ (.int .i64 (wrap64 (s0_1 + 1))))).cell? _ = some _ from hx201_0))
         clear hn201_0
         replace p201 := eq_true p201
         replace q201 := eq_true q201
         go_enter Try.func66, Try.ntmps66
         go_wp2
         repeat (go_quiet (fail); try go_wp2)
         go_ret
         exact ⟨by first | rfl | (simp [errW_none, errW_some] <;> rfl) | (simp only [← hji8, ← hji12]; first | rfl | (simp [errW_none, errW_some] <;> rfl)) | (simp [*, errW_none, errW_some] <;> rfl), cI_ HI0.out, cB1_ (IsS106.ge HI0.out), cK_ HK.out⟩
       ·rw [if_neg c14] at H
        exact absurd H (by simp)
      ·rw [if_neg c13] at H
       exact absurd H (by simp)
     ·rw [if_neg c11] at H
      have c11b0 : decide (200 < a1) = false := decide_eq_false c11
      clear c11
      by_cases c17 : a1 = 0
      ·rw [if_pos c17] at H
       exact absurd H (by simp)
      ·rw [if_neg c17] at H
       have c17b0 : (a1 == 0) = false := beq_eq_false_iff_ne.mpr c17
       have c17b1 : (a1 != 0) = true := bne_iff_ne.mpr c17
       simp only [Option.some.injEq, Prod.mk.injEq] at H
       obtain ⟨rfl, rfl⟩ := H
       obtain ⟨ASz18_0, cSz18_0, HGz18, hgz18, HSz18_0⟩ := HI0.out
       have hcz18_0 := cellS106_0 HGz18
       have hcz18_1 := cellS106_1 HGz18
       have hfz18_1 := blk_frozen HGz18 1
       clear HGz18 hgz18
       have p200 : 0 ≤ ((ji8) : Int) := of_decide_eq_true ca_
       have q200 : (ji8) < (s0_0.length : Int) := of_decide_eq_true ca_
       obtain ⟨ad200, e200, hx200_0⟩ := Kd.at_int HSz18_0 (ji8) p200 q200
       cases e200
       have hn200_0 : ad200.block ≠ g := Nat.ne_of_lt (Nat.lt_of_lt_of_le (by have := World.block_lt_of_cell? _ _ hx200_0; first | rwa [add_block] at this | exact this) (IsS106.ge HI0.out))
       replace hx200_0 := pw_cell_below HB.out hx200_0
       replace hx200_0 := (cell_far (p := ⟨g, 1, none⟩) (by first | (rw [add_block]; exact hn200_0) | (show (Addr.add _ _).block ≠ _; rw [add_block]; exact hn200_0) | exact hn200_0) (.int .i64 (wrap64 (s0_1 + 1)))).trans hx200_0
       (try have hy200_0 := fun (n_ : Nat) => (show (((w.drewN n_).setCell ⟨g, 1, none⟩ (.int .i64 (wrap64 (s0_1 + 1))))).cell? _ = some _ from hx200_0))
       clear hn200_0
       replace p200 := eq_true p200
       replace q200 := eq_true q200
       go_enter Try.func66, Try.ntmps66
       go_wp2
       repeat (go_quiet (fail); try go_wp2)
       go_ret
       exact ⟨by first | rfl | (simp [errW_none, errW_some] <;> rfl) | (simp only [← hji8]; first | rfl | (simp [errW_none, errW_some] <;> rfl)) | (simp [*, errW_none, errW_some] <;> rfl), cI_ HI0.out, cB1_ (IsS106.ge HI0.out), cK_ HK.out⟩
    ·rw [if_neg c10] at H
     exact absurd H (by simp)
   ·rw [if_neg c9] at H
    exact absurd H (by simp)

/-! ### spec_l1Pick: function 68 -/
def spec_l1Pick.f (s0_0 : List Int) (s0_1 : Int) (l1 : List Int) : Option (Int × Int) := (spec_l1Next.f s0_0 s0_1 (l1.length : Int)).bind fun bt202 => (if 0 ≤ bt202.1 then (if bt202.1 < (l1.length : Int) then (some (rd l1 bt202.1, bt202.2)) else (none)) else (none))
set_option maxHeartbeats 8000000 in
set_option maxRecDepth 100000 in
theorem spec_l1Pick.calls (g : Nat) (s0_0 : List Int) (s0_1 : Int) (A1 : Option Addr) (c1 : Nat) (l1 : List Int) (r1 : Int) (r2 : Int) (w0 w : World) (hI : IsS106 w0 w g s0_0 s0_1) (hB : Below w0.heap.size w0 w) (hr1 : Kd.C (Kd.int .i64) w A1 l1.length l1) (hc1 : l1.length ≤ c1) (hf1 : ∀ ad, A1 = some ad → 0 < l1.length → ad.block ≠ g) (h : spec_l1Pick.f s0_0 s0_1 l1 = some (r1, r2)) :
  Calls Try.prog 68 #[.pointer (some ⟨g, 0, none⟩), .slice A1 l1.length c1] w fun e w' => e = .returned (.int .i64 r1) ∧ IsS106 w0 w' g s0_0 r2 ∧ Below w0.heap.size w0 w' ∧ KeepBut w w' g none := by
 have HR1 := Aside0.mk hr1
 have HC1 := Aside0.mk hc1
 clear hr1 hc1
 have HI0 := Aside0.mk hI
 have HK := Aside0.mk (KeepBut.refl w g none)
 have HL := Aside0.mk hB.size
 clear hI
 have HW0 := Aside0.mk hB.size
 have HB := Aside0.mk hB
 clear hB
 have H : ((spec_l1Next.f s0_0 s0_1 (l1.length : Int)).bind fun bt202 => (if 0 ≤ bt202.1 then (if bt202.1 < (l1.length : Int) then (some (rd l1 bt202.1, bt202.2)) else (none)) else (none))) = some (r1, r2) := h
 clear h
 obtain ⟨⟨t202, t203⟩, A3, H⟩ := bnd_ H
 try dsimp only at H
 by_cases c4 : 0 ≤ t202
 ·rw [if_pos c4] at H
  have c4b0 : decide (0 ≤ t202) = true := decide_eq_true c4
  clear c4
  by_cases c5 : t202 < (l1.length : Int)
  ·rw [if_pos c5] at H
   have c5b0 : decide (t202 < (l1.length : Int)) = true := decide_eq_true c5
   clear c5
   simp only [Option.some.injEq, Prod.mk.injEq] at H
   obtain ⟨rfl, rfl⟩ := H
   go_enter Try.func68, Try.ntmps68
   go_wp2_with (first | (refine gl_ 66 (some 9) Try.func66 #[.pointer (some ⟨g, 0, none⟩), .int .i64 (l1.length : Int)] ?_; (with_reducible refine (spec_l1Next.calls g s0_0 s0_1 (l1.length : Int) t202 t203 w0 _ ?side1 ?side2 A3.out).mono ?_); (case side1 => exact cI_ HI0.out); (case side2 => exact cB1_ (IsS106.ge HI0.out)); rintro e w6 ⟨rfl, hi, hb, hk⟩; refine ⟨_, rfl, ?_⟩; replace HK := Aside0.mk (KeepBut.trans b9_0 hk (.inl rfl)); replace HB := Aside0.mk (hb); replace HI0 := Aside0.mk (hi); (try clear hb); (try clear hb2); (try clear hk); (try clear hi); have p204 : 0 ≤ (t202 : Int) := of_decide_eq_true ca_; have q204 : t202 < (l1.length : Int) := of_decide_eq_true ca_; obtain ⟨ad204, e204, hx204_0⟩ := Kd.at_int HR1.out t202 p204 q204; cases e204; replace hx204_0 := keep_cell HK.out hx204_0 (by first | (rw [add_block]; exact hf1 _ rfl (by omega)) | exact hf1 _ rfl (by omega) | exact hf1 ad204 rfl (by omega)); replace p204 := eq_true p204; replace q204 := eq_true q204))
   go_ret
   exact ⟨ce_, cI_ HI0.out, cB1_ (IsS106.ge HI0.out), cK_ HK.out⟩
  ·rw [if_neg c5] at H
   exact absurd H (by simp)
 ·rw [if_neg c4] at H
  exact absurd H (by simp)

/-! ### spec_l1Cell: function 123 -/
def spec_l1Cell.f (s0_0 : List Int) (s0_1 : Int) : Option (Int × Int) := (spec_l1Next.f s0_0 s0_1 4).bind fun bt205 => ((spec_l1Next.f s0_0 bt205.2 4).bind fun bt207 => ((spec_l1Next.f s0_0 bt207.2 4).bind fun bt209 => ((spec_l1Next.f s0_0 bt209.2 5).bind fun bt211 => ((spec_l1Next.f s0_0 bt211.2 90000).bind fun bt213 => ((spec_l1Pick.f s0_0 bt213.2 (([bt205.1, bt207.1, bt209.1, wrap64 (-bt211.1), bt213.1] : List Int))).bind fun bt218 => (some (bt218.1, bt218.2)))))))
set_option maxHeartbeats 8000000 in
set_option maxRecDepth 100000 in
theorem spec_l1Cell.calls (g : Nat) (s0_0 : List Int) (s0_1 : Int) (r1 : Int) (r2 : Int) (w0 w : World) (hI : IsS106 w0 w g s0_0 s0_1) (hB : Below w0.heap.size w0 w) (h : spec_l1Cell.f s0_0 s0_1 = some (r1, r2)) :
  Calls Try.prog 123 #[.pointer (some ⟨g, 0, none⟩)] w fun e w' => e = .returned (.int .i64 r1) ∧ IsS106 w0 w' g s0_0 r2 ∧ Below w0.heap.size w0 w' ∧ KeepBut w w' g none := by
 have HI0 := Aside0.mk hI
 have HK := Aside0.mk (KeepBut.refl w g none)
 have HL := Aside0.mk hB.size
 clear hI
 have HW0 := Aside0.mk hB.size
 have HB := Aside0.mk hB
 clear hB
 have H : ((spec_l1Next.f s0_0 s0_1 4).bind fun bt205 => ((spec_l1Next.f s0_0 bt205.2 4).bind fun bt207 => ((spec_l1Next.f s0_0 bt207.2 4).bind fun bt209 => ((spec_l1Next.f s0_0 bt209.2 5).bind fun bt211 => ((spec_l1Next.f s0_0 bt211.2 90000).bind fun bt213 => ((spec_l1Pick.f s0_0 bt213.2 (([bt205.1, bt207.1, bt209.1, wrap64 (-bt211.1), bt213.1] : List Int))).bind fun bt218 => (some (bt218.1, bt218.2)))))))) = some (r1, r2) := h
 clear h
 obtain ⟨⟨t205, t206⟩, A2, H⟩ := bnd_ H
 try dsimp only at H
 obtain ⟨⟨t207, t208⟩, A3, H⟩ := bnd_ H
 try dsimp only at H
 obtain ⟨⟨t209, t210⟩, A4, H⟩ := bnd_ H
 try dsimp only at H
 obtain ⟨⟨t211, t212⟩, A5, H⟩ := bnd_ H
 try dsimp only at H
 obtain ⟨⟨t213, t214⟩, A6, H⟩ := bnd_ H
 try dsimp only at H
 obtain ⟨y215, hy_⟩ : ∃ y_ : List Int, y_ = (([t205, t207, t209, wrap64 (-t211), t213] : List Int)) := ⟨_, rfl⟩
 replace H : ((spec_l1Pick.f s0_0 t214 y215).bind fun bt218 => (some (bt218.1, bt218.2))) = some (r1, r2) := yb_
 have Ny215 := Aside0.mk hy_
 clear hy_
 obtain ⟨⟨t218, t219⟩, A7, H⟩ := bnd_ H
 try dsimp only at H
 simp only [Option.some.injEq, Prod.mk.injEq] at H
 obtain ⟨rfl, rfl⟩ := H
 go_enter Try.func123, Try.ntmps123
 go_wp2_with (first | (refine gl_ 66 (some 5) Try.func66 #[.pointer (some ⟨g, 0, none⟩), .int .i64 4] ?_; (with_reducible refine (spec_l1Next.calls g s0_0 s0_1 4 t205 t206 w0 _ ?side1 ?side2 A2.out).mono ?_); (case side1 => exact cI_ HI0.out); (case side2 => exact cB1_ (IsS106.ge HI0.out)); rintro e w8 ⟨rfl, hi, hb, hk⟩; refine ⟨_, rfl, ?_⟩; replace HK := Aside0.mk (KeepBut.trans b9_0 hk (.inl rfl)); replace HB := Aside0.mk (hb); replace HI0 := Aside0.mk (hi); (try clear hb); (try clear hb2); (try clear hk); (try clear hi)) | (refine gl_ 66 (some 7) Try.func66 #[.pointer (some ⟨g, 0, none⟩), .int .i64 4] ?_; (with_reducible refine (spec_l1Next.calls g s0_0 t206 4 t207 t208 w0 _ ?side1 ?side2 A3.out).mono ?_); (case side1 => exact cI_ HI0.out); (case side2 => exact cB1_ (IsS106.ge HI0.out)); rintro e w9 ⟨rfl, hi, hb, hk⟩; refine ⟨_, rfl, ?_⟩; replace HK := Aside0.mk (KeepBut.trans b9_0 hk (.inl rfl)); replace HB := Aside0.mk (hb); replace HI0 := Aside0.mk (hi); (try clear hb); (try clear hb2); (try clear hk); (try clear hi)) | (refine gl_ 66 (some 9) Try.func66 #[.pointer (some ⟨g, 0, none⟩), .int .i64 4] ?_; (with_reducible refine (spec_l1Next.calls g s0_0 t208 4 t209 t210 w0 _ ?side1 ?side2 A4.out).mono ?_); (case side1 => exact cI_ HI0.out); (case side2 => exact cB1_ (IsS106.ge HI0.out)); rintro e w10 ⟨rfl, hi, hb, hk⟩; refine ⟨_, rfl, ?_⟩; replace HK := Aside0.mk (KeepBut.trans b9_0 hk (.inl rfl)); replace HB := Aside0.mk (hb); replace HI0 := Aside0.mk (hi); (try clear hb); (try clear hb2); (try clear hk); (try clear hi)) | (refine gl_ 66 (some 11) Try.func66 #[.pointer (some ⟨g, 0, none⟩), .int .i64 5] ?_; (with_reducible refine (spec_l1Next.calls g s0_0 t210 5 t211 t212 w0 _ ?side1 ?side2 A5.out).mono ?_); (case side1 => exact cI_ HI0.out); (case side2 => exact cB1_ (IsS106.ge HI0.out)); rintro e w11 ⟨rfl, hi, hb, hk⟩; refine ⟨_, rfl, ?_⟩; replace HK := Aside0.mk (KeepBut.trans b9_0 hk (.inl rfl)); replace HB := Aside0.mk (hb); replace HI0 := Aside0.mk (hi); (try clear hb); (try clear hb2); (try clear hk); (try clear hi)) | (refine gl_ 66 (some 14) Try.func66 #[.pointer (some ⟨g, 0, none⟩), .int .i64 90000] ?_; (with_reducible refine (spec_l1Next.calls g s0_0 t212 90000 t213 t214 w0 _ ?side1 ?side2 A6.out).mono ?_); (case side1 => exact cI_ HI0.out); (case side2 => exact cB1_ (IsS106.ge HI0.out)); rintro e w12 ⟨rfl, hi, hb, hk⟩; refine ⟨_, rfl, ?_⟩; replace HK := Aside0.mk (KeepBut.trans b9_0 hk (.inl rfl)); replace HB := Aside0.mk (hb); replace HI0 := Aside0.mk (hi); (try clear hb); (try clear hb2); (try clear hk); (try clear hi)) | ((with_reducible refine gate_dst (N := 15) rfl ?_); refine Kd.R_lit (Kd.int .i64) _ 2 ?hg (N := 15) ?hd (xs := ([t205, t207, t209, wrap64 (-t211), t213] : List Int)) (inner := [.int .i64 t205, .int .i64 t207, .int .i64 t209, .int .i64 (wrap64 (-t211)), .int .i64 t213]) (ok := fun _ => True) (okp := fun _ => True) ?hr ?hp (fun _ hk => hk) trivial (Below.refl _ _) (Nat.le_refl _) (by simp) ?_; (case hd => rfl); (case hg => rfl); (case hr => first | (go_simp; done) | (go_simp; rfl)); (case hp => exact (Reps.one (show Kd.M (Kd.int .i64) _ _ _ t205 [.int .i64 t205] from rfl) (Reps.one (show Kd.M (Kd.int .i64) _ _ _ t207 [.int .i64 t207] from rfl) (Reps.one (show Kd.M (Kd.int .i64) _ _ _ t209 [.int .i64 t209] from rfl) (Reps.one (show Kd.M (Kd.int .i64) _ _ _ (wrap64 (-t211)) [.int .i64 (wrap64 (-t211))] from rfl) (Reps.one (show Kd.M (Kd.int .i64) _ _ _ t213 [.int .i64 t213] from rfl) (Reps.none _ _))))))); intro v216 w13 ho14 hb hg_ hnew_; clear hg_ hnew_; (first | rw [← Ny215.out] at ho14 | (simp only [Int.reduceToNat] at ho14; rw [← Ny215.out] at ho14)); have HO217 := Aside0.mk (Kd.R_lower ho14 (keep_size (w := w) (g := g) (row := none) b9_0)); replace HK := Aside0.mk (KeepBut.trans b9_0 (KeepBut.of_below hb g none) (.inl rfl)); replace HB := Aside0.mk (below_step b9_6 hb); replace HI0 := Aside0.mk (IsS106.below b9_3 hb); clear hb ho14; obtain ⟨Ao15, co15, eo15⟩ := Kd.R_slice HO217.out; subst eo15) | (refine gl_ 68 (some 16) Try.func68 #[.pointer (some ⟨g, 0, none⟩), .slice Ao15 y215.length co15] ?_; (with_reducible refine (spec_l1Pick.calls g s0_0 t214 _ _ y215 t218 t219 w0 _ ?side1 ?side2 ?side3 ?side4 ?side5 A7.out).mono ?_); (case side1 => exact cI_ HI0.out); (case side2 => exact cB1_ (IsS106.ge HI0.out)); (case side3 => exact cC_ ((Kd.R_reads' HO217.out).2.2)); (case side4 => exact (Kd.R_reads' HO217.out).2.1); (case side5 => exact (by exact far_slice (IsS106.own_ne HI0.out HO217.out (by decide)))); rintro e w16 ⟨rfl, hi, hb, hk⟩; refine ⟨_, rfl, ?_⟩; replace HO217 := Aside0.mk (Kd.R_mono (Kd.R_keep (IsS106.apart (show IsS106 w0 _ g s0_0 t214 from by repeat (first | (with_reducible first | exact HI0.out | apply IsS106.alloc | apply IsS106.drewN | apply IsS106.drew | apply IsS106.set_1) | exact HI0.out)) (cR_ HO217.out) (by decide)) hk (fun _ h => h.2)) (fun _ h => h.1)); replace HK := Aside0.mk (KeepBut.trans b9_0 hk (.inl rfl)); replace HB := Aside0.mk (hb); replace HI0 := Aside0.mk (hi); (try clear hb); (try clear hb2); (try clear hk); (try clear hi)))
 go_ret
 exact ⟨ce_, cI_ HI0.out, cB1_ (IsS106.ge HI0.out), cK_ HK.out⟩

/-! ### spec_l1Row: function 120 -/
def spec_l1Row.l0 : Nat → Int → List Int → List Int → Int → Option (List Int × Int)
 | 0, _, _, _, _ => none
 | k + 1, x1, x5, x1000, x1001 => if x1 > 0 then ((spec_l1Cell.f x1000 x1001).bind fun bt223 => (if x5.length < 17592186044416 then (spec_l1Row.l0 k (wrap64 (x1 - 1)) (x5 ++ [bt223.1]) x1000 bt223.2) else (none))) else (some (x5, x1001))
def spec_l1Row.f (k : Nat) (s0_0 : List Int) (s0_1 : Int) (a1 : Int) : Option (List Int × Int) := spec_l1Row.l0 k a1 (([] : List Int)) s0_0 s0_1
theorem spec_l1Row.mono_l : ∀ k, (∀ y0 y1 y2 y3, LeO (spec_l1Row.l0 k y0 y1 y2 y3) (spec_l1Row.l0 (k + 1) y0 y1 y2 y3))
 | 0 => fun _ _ _ _ r h => by simp [spec_l1Row.l0] at h
 | k + 1 => by
  have ih0 := spec_l1Row.mono_l k
  ·intro y0 y1 y2 y3
   unfold spec_l1Row.l0
   repeat' first
   | (with_reducible exact ih0 _ _ _ _)
   | (with_reducible exact LeO.refl _)
   | (with_reducible exact LeO.none _)
   | (with_reducible refine LeO.ite ?_ ?_)
   | (with_reducible refine LeO.bind ?_ (fun _ => ?_))
   | exact ih0 _ _ _ _
   | exact LeO.none _
   | refine LeO.ite ?_ ?_
   | refine LeO.bind ?_ (fun _ => ?_)
theorem spec_l1Row.mono : ∀ a0 a1 a2 k, LeO (spec_l1Row.f k a0 a1 a2) (spec_l1Row.f (k + 1) a0 a1 a2) := by
 intro a0 a1 a2 k
 have ih0 := spec_l1Row.mono_l k
 unfold spec_l1Row.f
 repeat' first
   | (with_reducible exact ih0 _ _ _ _)
   | (with_reducible exact LeO.refl _)
   | (with_reducible exact LeO.none _)
   | (with_reducible refine LeO.ite ?_ ?_)
   | (with_reducible refine LeO.bind ?_ (fun _ => ?_))
   | exact ih0 _ _ _ _
   | exact LeO.none _
   | refine LeO.ite ?_ ?_
   | refine LeO.bind ?_ (fun _ => ?_)
set_option maxHeartbeats 8000000 in
set_option maxRecDepth 100000 in
theorem spec_l1Row.calls (k : Nat) (g : Nat) (s0_0 : List Int) (s0_1 : Int) (a1 : Int) (r1 : List Int) (r2 : Int) (w0 w : World) (hI : IsS106 w0 w g s0_0 s0_1) (hB : Below w0.heap.size w0 w) (h : spec_l1Row.f k s0_0 s0_1 a1 = some (r1, r2)) :
  Calls Try.prog 120 #[.pointer (some ⟨g, 0, none⟩), .int .i64 a1] w fun e w' => ∃ v0_ : Value, e = .returned (v0_) ∧ Kd.R (Kd.int .i64) 2 w' w.heap.size (fun _ => True) v0_ r1 ∧ IsS106 w0 w' g s0_0 r2 ∧ Below w0.heap.size w0 w' ∧ KeepBut w w' g none := by
 have HI0 := Aside0.mk hI
 have HK := Aside0.mk (KeepBut.refl w g none)
 have HL := Aside0.mk hB.size
 clear hI
 have HW0 := Aside0.mk hB.size
 have HB := Aside0.mk hB
 clear hB
 have H : (spec_l1Row.l0 k a1 (([] : List Int)) s0_0 s0_1) = some (r1, r2) := h
 clear h
 obtain ⟨y220, hy_⟩ : ∃ y_ : List Int, y_ = (([] : List Int)) := ⟨_, rfl⟩
 replace H : (spec_l1Row.l0 k a1 y220 s0_0 s0_1) = some (r1, r2) := yb_
 have Ny220 := Aside0.mk hy_
 clear hy_
 have H' := Aside0.mk H
 clear H
 go_enter Try.func120, Try.ntmps120
 go_wp2_with (first | ((with_reducible refine gate_dst (N := 6) rfl ?_); refine Kd.R_lit (Kd.int .i64) _ 2 ?hg (N := 6) ?hd (xs := ([] : List Int)) (inner := []) (ok := fun _ => True) (okp := fun _ => True) ?hr ?hp (fun _ hk => hk) trivial (Below.refl _ _) (Nat.le_refl _) (by simp) ?_; (case hd => rfl); (case hg => rfl); (case hr => first | (go_simp; done) | (go_simp; rfl)); (case hp => exact (Reps.none _ _)); intro v221 w3 ho4 hb hg_ hnew_; clear hg_ hnew_; (first | rw [← Ny220.out] at ho4 | (simp only [Int.reduceToNat] at ho4; rw [← Ny220.out] at ho4)); have HO222 := Aside0.mk (Kd.R_lower ho4 (keep_size (w := w) (g := g) (row := none) b9_0)); replace HK := Aside0.mk (KeepBut.trans b9_0 (KeepBut.of_below hb g none) (.inl rfl)); replace HB := Aside0.mk (below_step b9_6 hb); replace HI0 := Aside0.mk (IsS106.below b9_3 hb); clear hb ho4))
 go_loopg [1, 5] k (fun kq v1 v5 w' => ∃ (x1_1 : Int) (x5_1 : List Int) (x1001_1 : Int), v1 = .int .i64 x1_1 ∧ Aside0 (spec_l1Row.l0 kq x1_1 x5_1 s0_0 x1001_1 = some (r1, r2)) ∧ Aside0 (kq ≤ k) ∧ Aside0 (Kd.R (Kd.int .i64) 2 w' w.heap.size (fun _ => True) v5 x5_1) ∧ Aside0 (IsS106 w0 w' g s0_0 x1001_1) ∧ Aside0 (KeepBut w w' g none) ∧ Aside0 (Below w0.heap.size w0 w'))
 case atStart => exact ⟨(a1), (y220), (s0_1), cs_, H', ⟨Nat.le_refl _⟩, ⟨cR_ HO222.out⟩, ⟨cI_ HI0.out⟩, ⟨cK_ HK.out⟩, ⟨cB1_ (IsS106.ge HI0.out)⟩⟩
 case round =>
  clear H'
  try clear c1
  try clear p2
  obtain ⟨x1_1, x5_1, x1001_1, rfl, HA, HK1, HO_5, HI0, HK, HB⟩ := hrel
  cases gk with
  | zero => exact absurd HA.out (by simp [spec_l1Row.l0])
  | succ k1 =>
   have H := HA.out
   clear HA
   simp only [spec_l1Row.l0] at H
   by_cases c5 : x1_1 > 0
   ·rw [if_pos c5] at H
    have c5b0 : decide (0 < x1_1) = true := decide_eq_true c5
    clear c5
    obtain ⟨⟨t223, t224⟩, A6, H⟩ := bnd_ H
    try dsimp only at H
    by_cases c7 : x5_1.length < 17592186044416
    ·rw [if_pos c7] at H
     have LMc7 := Aside0.mk c7
     clear c7
     obtain ⟨y225, hy_⟩ : ∃ y_ : List Int, y_ = (x5_1 ++ [t223]) := ⟨_, rfl⟩
     replace H : (spec_l1Row.l0 k1 (wrap64 (x1_1 - 1)) y225 s0_0 t224) = some (r1, r2) := yb_
     have Ny225 := Aside0.mk hy_
     clear hy_
     have H' := Aside0.mk H
     clear H
     go_wp2_with (first | (refine gl_ 123 (some 13) Try.func123 #[.pointer (some ⟨g, 0, none⟩)] ?_; (with_reducible refine (spec_l1Cell.calls g s0_0 x1001_1 t223 t224 w0 _ ?side1 ?side2 A6.out).mono ?_); (case side1 => exact cI_ HI0.out); (case side2 => exact cB1_ (IsS106.ge HI0.out)); rintro e w8 ⟨rfl, hi, hb, hk⟩; refine ⟨_, rfl, ?_⟩; replace HO_5 := Aside0.mk (Kd.R_mono (Kd.R_keep (IsS106.apart (show IsS106 w0 _ g s0_0 x1001_1 from by repeat (first | (with_reducible first | exact HI0.out | apply IsS106.alloc | apply IsS106.drewN | apply IsS106.drew | apply IsS106.set_1) | exact HI0.out)) (cR_ HO_5.out) (by decide)) hk (fun _ h => h.2)) (fun _ h => h.1)); replace HK := Aside0.mk (KeepBut.trans b9_0 hk (.inl rfl)); replace HB := Aside0.mk (hb); replace HI0 := Aside0.mk (hi); (try clear hb); (try clear hb2); (try clear hk); (try clear hi)) | ((with_reducible refine gate_builtin (b := .append) (xs := #[.tmp 11, .tmp 14]) rfl ?_); at_builtin; refine Kd.R_append (Kd.int .i64) w.heap.size rfl (.tmp 11) (.tmp 14) 40 2 (.int .i64 0) 8 rfl Try.underlying40 info2 rfl (by decide) (by omega) u5 x5_1 t223 [.int .i64 t223] (fun _ => True) (fun _ => False) rfl rfl ?aP (fun _ hk => hk.elim) ?aF ?aO (Below.refl _ _) ?aS ?aL ?_; (case aP => exact rfl); (case aF => exact (fun _ _ => trivial)); (case aO => exact (by exact cR_ HO_5.out)); (case aS => exact (by exact (keep_size (w := w) (g := g) (row := none) b9_0))); (case aL => exact co_ LMc7.out); intro v226 w9 ho hb hg hat; rw [← Ny225.out] at ho; replace HB := Aside0.mk (below_weaken b9_6 HL.out hb); replace HI0 := Aside0.mk (IsS106.grown b9_3 hg (IsS106.own_ne HI0.out HO_5.out (by decide))); replace HK := Aside0.mk (KeepBut.trans b9_0 (KeepBut.of_grown hg g) (Kd.R_base2 HO_5.out)); have HO227 := Aside0.mk (ho); clear HO_5; clear ho hb hg hat))
     go_roundg k1
     case measure => have := HK1.out; omega
     case rel => exact ⟨(wrap64 (x1_1 - 1)), (y225), (t224), cs_, H', ⟨co_ HK1.out⟩, ⟨cR_ HO227.out⟩, ⟨cI_ HI0.out⟩, ⟨cK_ HK.out⟩, ⟨cB1_ (IsS106.ge HI0.out)⟩⟩
    ·rw [if_neg c7] at H
     exact absurd H (by simp)
   ·rw [if_neg c5] at H
    have c5b0 : decide (0 < x1_1) = false := decide_eq_false c5
    clear c5
    simp only [Option.some.injEq, Prod.mk.injEq] at H
    obtain ⟨rfl, rfl⟩ := H
    go_wp2
    go_ret
    exact ⟨_, ce_, cR_ HO_5.out, cI_ HI0.out, cB1_ (IsS106.ge HI0.out), cK_ HK.out⟩

/-! ### spec_l2Entries: function 119 -/
def spec_l2Entries.l0 : Nat → Int → List (S42) → Int → List Int → Int → Option ((List (S42)) × Int)
 | 0, _, _, _, _, _ => none
 | k + 1, x1, x5, x6, x1000, x1001 => if x6 > 0 then ((spec_l1Row.f k x1000 x1001 x1).bind fun bt233 => ((spec_l1Next.f x1000 bt233.2 9).bind fun bt237 => ((spec_l1Pick.f x1000 bt237.2 (([1, 1, 2, (-1), wrap64 (bt237.1 - 4)] : List Int))).bind fun bt242 => (if x5.length < 4398046511104 then (spec_l2Entries.l0 k x1 (x5 ++ [(⟨bt233.1, bt242.1⟩ : S42)]) (wrap64 (x6 - 1)) x1000 bt242.2) else (none))))) else (some (x5, x1001))
def spec_l2Entries.f (k : Nat) (s0_0 : List Int) (s0_1 : Int) (a1 : Int) : Option ((List (S42)) × Int) := (spec_l1Next.f s0_0 s0_1 7).bind fun bt231 => (spec_l2Entries.l0 k a1 (([] : List (S42))) bt231.1 s0_0 bt231.2)
theorem spec_l2Entries.mono_l : ∀ k, (∀ y0 y1 y2 y3 y4, LeO (spec_l2Entries.l0 k y0 y1 y2 y3 y4) (spec_l2Entries.l0 (k + 1) y0 y1 y2 y3 y4))
 | 0 => fun _ _ _ _ _ r h => by simp [spec_l2Entries.l0] at h
 | k + 1 => by
  have ih0 := spec_l2Entries.mono_l k
  ·intro y0 y1 y2 y3 y4
   unfold spec_l2Entries.l0
   repeat' first
   | (with_reducible exact ih0 _ _ _ _ _)
   | (with_reducible exact spec_l1Row.mono _ _ _ _)
   | (with_reducible exact LeO.refl _)
   | (with_reducible exact LeO.none _)
   | (with_reducible refine LeO.ite ?_ ?_)
   | (with_reducible refine LeO.bind ?_ (fun _ => ?_))
   | exact ih0 _ _ _ _ _
   | exact spec_l1Row.mono _ _ _ _
   | exact LeO.none _
   | refine LeO.ite ?_ ?_
   | refine LeO.bind ?_ (fun _ => ?_)
theorem spec_l2Entries.mono : ∀ a0 a1 a2 k, LeO (spec_l2Entries.f k a0 a1 a2) (spec_l2Entries.f (k + 1) a0 a1 a2) := by
 intro a0 a1 a2 k
 have ih0 := spec_l2Entries.mono_l k
 unfold spec_l2Entries.f
 repeat' first
   | (with_reducible exact ih0 _ _ _ _ _)
   | (with_reducible exact spec_l1Row.mono _ _ _ _)
   | (with_reducible exact LeO.refl _)
   | (with_reducible exact LeO.none _)
   | (with_reducible refine LeO.ite ?_ ?_)
   | (with_reducible refine LeO.bind ?_ (fun _ => ?_))
   | exact ih0 _ _ _ _ _
   | exact spec_l1Row.mono _ _ _ _
   | exact LeO.none _
   | refine LeO.ite ?_ ?_
   | refine LeO.bind ?_ (fun _ => ?_)
set_option maxHeartbeats 8000000 in
set_option maxRecDepth 100000 in
theorem spec_l2Entries.calls (k : Nat) (g : Nat) (s0_0 : List Int) (s0_1 : Int) (a1 : Int) (r1 : List (S42)) (r2 : Int) (w0 w : World) (hI : IsS106 w0 w g s0_0 s0_1) (hB : Below w0.heap.size w0 w) (h : spec_l2Entries.f k s0_0 s0_1 a1 = some (r1, r2)) :
  Calls Try.prog 119 #[.pointer (some ⟨g, 0, none⟩), .int .i64 a1] w fun e w' => ∃ v0_ : Value, e = .returned (v0_) ∧ Kd.S k42 42 w' w.heap.size (fun _ => True) v0_ r1 ∧ IsS106 w0 w' g s0_0 r2 ∧ Below w0.heap.size w0 w' ∧ KeepBut w w' g none := by
 have hu42 := Try.underlying42
 have HI0 := Aside0.mk hI
 have HK := Aside0.mk (KeepBut.refl w g none)
 have HL := Aside0.mk hB.size
 clear hI
 have HW0 := Aside0.mk hB.size
 have HB := Aside0.mk hB
 clear hB
 have H : ((spec_l1Next.f s0_0 s0_1 7).bind fun bt231 => (spec_l2Entries.l0 k a1 (([] : List (S42))) bt231.1 s0_0 bt231.2)) = some (r1, r2) := h
 clear h
 obtain ⟨y228, hy_⟩ : ∃ y_ : List (S42), y_ = (([] : List (S42))) := ⟨_, rfl⟩
 replace H : ((spec_l1Next.f s0_0 s0_1 7).bind fun bt231 => (spec_l2Entries.l0 k a1 y228 bt231.1 s0_0 bt231.2)) = some (r1, r2) := yb_
 have Ny228 := Aside0.mk hy_
 clear hy_
 obtain ⟨⟨t231, t232⟩, A3, H⟩ := bnd_ H
 try dsimp only at H
 have H' := Aside0.mk H
 clear H
 go_enter Try.func119, Try.ntmps119
 go_wp2_with (first | ((with_reducible refine gate_dst (N := 7) rfl ?_); refine Kd.S_lit k42 _ 42 ?hg (N := 7) ?hd (xs := ([] : List (S42))) (inner := []) (ok := fun _ => True) (okp := fun _ => True) ?hr ?hp (fun _ hk => hk) trivial (Below.refl _ _) (Nat.le_refl _) (by simp) ?_; (case hd => rfl); (case hg => rfl); (case hr => first | (go_simp; done) | (go_simp; rfl)); (case hp => exact (Reps.none _ _)); intro v229 w4 ho5 hb hg_ hnew_; clear hg_ hnew_; (first | rw [← Ny228.out] at ho5 | (simp only [Int.reduceToNat] at ho5; rw [← Ny228.out] at ho5)); have HO230 := Aside0.mk (Kd.S_lower ho5 (keep_size (w := w) (g := g) (row := none) b9_0)); replace HK := Aside0.mk (KeepBut.trans b9_0 (KeepBut.of_below hb g none) (.inl rfl)); replace HB := Aside0.mk (below_step b9_6 hb); replace HI0 := Aside0.mk (IsS106.below b9_3 hb); clear hb ho5) | (refine gl_ 66 (some 9) Try.func66 #[.pointer (some ⟨g, 0, none⟩), .int .i64 7] ?_; (with_reducible refine (spec_l1Next.calls g s0_0 s0_1 7 t231 t232 w0 _ ?side1 ?side2 A3.out).mono ?_); (case side1 => exact cI_ HI0.out); (case side2 => exact cB1_ (IsS106.ge HI0.out)); rintro e w6 ⟨rfl, hi, hb, hk⟩; refine ⟨_, rfl, ?_⟩; replace HO230 := Aside0.mk (Kd.S_mono (Kd.S_keep (IsS106.apartS (show IsS106 w0 _ g s0_0 s0_1 from by repeat (first | (with_reducible first | exact HI0.out | apply IsS106.alloc | apply IsS106.drewN | apply IsS106.drew | apply IsS106.set_1) | exact HI0.out)) (cS_ HO230.out) (by decide)) hk (fun _ h => h.2)) (fun _ h => h.1)); replace HK := Aside0.mk (KeepBut.trans b9_0 hk (.inl rfl)); replace HB := Aside0.mk (hb); replace HI0 := Aside0.mk (hi); (try clear hb); (try clear hb2); (try clear hk); (try clear hi)))
 go_loopg [5, 6] k (fun kq v5 v6 w' => ∃ (x5_1 : List (S42)) (x6_1 : Int) (x1001_1 : Int), v6 = .int .i64 x6_1 ∧ Aside0 (spec_l2Entries.l0 kq a1 x5_1 x6_1 s0_0 x1001_1 = some (r1, r2)) ∧ Aside0 (kq ≤ k) ∧ Aside0 (Kd.S k42 42 w' w.heap.size (fun _ => True) v5 x5_1) ∧ Aside0 (IsS106 w0 w' g s0_0 x1001_1) ∧ Aside0 (KeepBut w w' g none) ∧ Aside0 (Below w0.heap.size w0 w'))
 case atStart => exact ⟨(y228), (t231), (t232), cs_, H', ⟨Nat.le_refl _⟩, ⟨cS_ HO230.out⟩, ⟨cI_ HI0.out⟩, ⟨cK_ HK.out⟩, ⟨cB1_ (IsS106.ge HI0.out)⟩⟩
 case round =>
  clear H'
  try clear c1
  try clear p2
  try clear c6
  obtain ⟨x5_1, x6_1, x1001_1, rfl, HA, HK1, HO_5, HI0, HK, HB⟩ := hrel
  cases gk with
  | zero => exact absurd HA.out (by simp [spec_l2Entries.l0])
  | succ k1 =>
   have H := HA.out
   clear HA
   simp only [spec_l2Entries.l0] at H
   by_cases c7 : x6_1 > 0
   ·rw [if_pos c7] at H
    have c7b0 : decide (0 < x6_1) = true := decide_eq_true c7
    clear c7
    obtain ⟨⟨t233, t236⟩, A8, H⟩ := bnd_ H
    try dsimp only at H
    obtain ⟨⟨t237, t238⟩, A9, H⟩ := bnd_ H
    try dsimp only at H
    obtain ⟨y239, hy_⟩ : ∃ y_ : List Int, y_ = (([1, 1, 2, (-1), wrap64 (t237 - 4)] : List Int)) := ⟨_, rfl⟩
    replace H : ((spec_l1Pick.f s0_0 t238 y239).bind fun bt242 => (if x5_1.length < 4398046511104 then (spec_l2Entries.l0 k1 a1 (x5_1 ++ [(⟨t233, bt242.1⟩ : S42)]) (wrap64 (x6_1 - 1)) s0_0 bt242.2) else (none))) = some (r1, r2) := yb_
    have Ny239 := Aside0.mk hy_
    clear hy_
    obtain ⟨⟨t242, t243⟩, A10, H⟩ := bnd_ H
    try dsimp only at H
    by_cases c11 : x5_1.length < 4398046511104
    ·rw [if_pos c11] at H
     have LMc11 := Aside0.mk c11
     clear c11
     obtain ⟨y244, hy_⟩ : ∃ y_ : List (S42), y_ = (x5_1 ++ [(⟨t233, t242⟩ : S42)]) := ⟨_, rfl⟩
     replace H : (spec_l2Entries.l0 k1 a1 y244 (wrap64 (x6_1 - 1)) s0_0 t243) = some (r1, r2) := yb_
     have Ny244 := Aside0.mk hy_
     clear hy_
     have H' := Aside0.mk H
     clear H
     go_wp2_with (first | (refine gl_ 120 (some 17) Try.func120 #[.pointer (some ⟨g, 0, none⟩), .int .i64 a1] ?_; (with_reducible refine (spec_l1Row.calls k1 g s0_0 x1001_1 a1 t233 t236 w0 _ ?side1 ?side2 A8.out).mono ?_); (case side1 => exact cI_ HI0.out); (case side2 => exact cB1_ (IsS106.ge HI0.out)); rintro e w12 ⟨v234, rfl, ho0, hi, hb, hk⟩; refine ⟨_, rfl, ?_⟩; replace HO_5 := Aside0.mk (Kd.S_mono (Kd.S_told (Kd.S_oldK (IsS106.apartS (show IsS106 w0 _ g s0_0 x1001_1 from by repeat (first | (with_reducible first | exact HI0.out | apply IsS106.alloc | apply IsS106.drewN | apply IsS106.drew | apply IsS106.set_1) | exact HI0.out)) (cS_ HO_5.out) (by decide)) hk) (Kd.R_base ho0)) (fun _ h_ => h_.1)); have HO235 := Aside0.mk (Kd.R_lower ho0 (keep_size (w := w) (g := g) (row := none) b9_0)); replace HK := Aside0.mk (KeepBut.trans b9_0 hk (.inl rfl)); replace HB := Aside0.mk (hb); replace HI0 := Aside0.mk (hi); (try clear hb); (try clear hb2); (try clear hk); (try clear hi); (try clear ho0)) | (refine gl_ 66 (some 20) Try.func66 #[.pointer (some ⟨g, 0, none⟩), .int .i64 9] ?_; (with_reducible refine (spec_l1Next.calls g s0_0 t236 9 t237 t238 w0 _ ?side1 ?side2 A9.out).mono ?_); (case side1 => exact cI_ HI0.out); (case side2 => exact cB1_ (IsS106.ge HI0.out)); rintro e w13 ⟨rfl, hi, hb, hk⟩; refine ⟨_, rfl, ?_⟩; replace HO_5 := Aside0.mk (Kd.S_mono (Kd.S_keep (IsS106.apartS (show IsS106 w0 _ g s0_0 t236 from by repeat (first | (with_reducible first | exact HI0.out | apply IsS106.alloc | apply IsS106.drewN | apply IsS106.drew | apply IsS106.set_1) | exact HI0.out)) (cS_ HO_5.out) (by decide)) hk (fun _ h => h.2)) (fun _ h => h.1)); replace HO235 := Aside0.mk (Kd.R_mono (Kd.R_keep (IsS106.apart (show IsS106 w0 _ g s0_0 t236 from by repeat (first | (with_reducible first | exact HI0.out | apply IsS106.alloc | apply IsS106.drewN | apply IsS106.drew | apply IsS106.set_1) | exact HI0.out)) (cR_ HO235.out) (by decide)) hk (fun _ h => h.2)) (fun _ h => h.1)); replace HK := Aside0.mk (KeepBut.trans b9_0 hk (.inl rfl)); replace HB := Aside0.mk (hb); replace HI0 := Aside0.mk (hi); (try clear hb); (try clear hb2); (try clear hk); (try clear hi)) | ((with_reducible refine gate_dst (N := 22) rfl ?_); refine Kd.R_lit (Kd.int .i64) _ 2 ?hg (N := 22) ?hd (xs := ([1, 1, 2, (-1), wrap64 (t237 - 4)] : List Int)) (inner := [.int .i64 1, .int .i64 1, .int .i64 2, .int .i64 (-1), .int .i64 (wrap64 (t237 - 4))]) (ok := fun _ => True) (okp := fun _ => True) ?hr ?hp (fun _ hk => hk) trivial (Below.refl _ _) (Nat.le_refl _) (by simp) ?_; (case hd => rfl); (case hg => rfl); (case hr => first | (go_simp; done) | (go_simp; rfl)); (case hp => exact (Reps.one (show Kd.M (Kd.int .i64) _ _ _ 1 [.int .i64 1] from rfl) (Reps.one (show Kd.M (Kd.int .i64) _ _ _ 1 [.int .i64 1] from rfl) (Reps.one (show Kd.M (Kd.int .i64) _ _ _ 2 [.int .i64 2] from rfl) (Reps.one (show Kd.M (Kd.int .i64) _ _ _ (-1) [.int .i64 (-1)] from rfl) (Reps.one (show Kd.M (Kd.int .i64) _ _ _ (wrap64 (t237 - 4)) [.int .i64 (wrap64 (t237 - 4))] from rfl) (Reps.none _ _))))))); intro v240 w14 ho15 hb hg_ hnew_; clear hg_ hnew_; (first | rw [← Ny239.out] at ho15 | (simp only [Int.reduceToNat] at ho15; rw [← Ny239.out] at ho15)); replace HO_5 := Aside0.mk (Kd.S_elder' (cS_ HO_5.out) (Kd.R_base ho15) hb); have HO241 := Aside0.mk (Kd.R_lower (Kd.R_new' ho15 (Kd.R_lt (cR_ HO235.out))) (keep_size (w := w) (g := g) (row := none) b9_0)); replace HO235 := Aside0.mk (Kd.R_elder' (cR_ HO235.out) (Kd.R_base ho15) hb); replace HK := Aside0.mk (KeepBut.trans b9_0 (KeepBut.of_below hb g none) (.inl rfl)); replace HB := Aside0.mk (below_step b9_6 hb); replace HI0 := Aside0.mk (IsS106.below b9_3 hb); clear hb ho15; obtain ⟨Ao16, co16, eo16⟩ := Kd.R_slice HO241.out; subst eo16) | (refine gl_ 68 (some 23) Try.func68 #[.pointer (some ⟨g, 0, none⟩), .slice Ao16 y239.length co16] ?_; (with_reducible refine (spec_l1Pick.calls g s0_0 t238 _ _ y239 t242 t243 w0 _ ?side1 ?side2 ?side3 ?side4 ?side5 A10.out).mono ?_); (case side1 => exact cI_ HI0.out); (case side2 => exact cB1_ (IsS106.ge HI0.out)); (case side3 => exact cC_ ((Kd.R_reads' HO241.out).2.2)); (case side4 => exact (Kd.R_reads' HO241.out).2.1); (case side5 => exact (by exact far_slice (IsS106.own_ne HI0.out HO241.out (by decide)))); rintro e w17 ⟨rfl, hi, hb, hk⟩; refine ⟨_, rfl, ?_⟩; replace HO_5 := Aside0.mk (Kd.S_mono (Kd.S_keep (IsS106.apartS (show IsS106 w0 _ g s0_0 t238 from by repeat (first | (with_reducible first | exact HI0.out | apply IsS106.alloc | apply IsS106.drewN | apply IsS106.drew | apply IsS106.set_1) | exact HI0.out)) (cS_ HO_5.out) (by decide)) hk (fun _ h => h.2)) (fun _ h => h.1)); replace HO235 := Aside0.mk (Kd.R_mono (Kd.R_keep (IsS106.apart (show IsS106 w0 _ g s0_0 t238 from by repeat (first | (with_reducible first | exact HI0.out | apply IsS106.alloc | apply IsS106.drewN | apply IsS106.drew | apply IsS106.set_1) | exact HI0.out)) (cR_ HO235.out) (by decide)) hk (fun _ h => h.2)) (fun _ h => h.1)); replace HO241 := Aside0.mk (Kd.R_mono (Kd.R_keep (IsS106.apart (show IsS106 w0 _ g s0_0 t238 from by repeat (first | (with_reducible first | exact HI0.out | apply IsS106.alloc | apply IsS106.drewN | apply IsS106.drew | apply IsS106.set_1) | exact HI0.out)) (cR_ HO241.out) (by decide)) hk (fun _ h => h.2)) (fun _ h => h.1)); replace HK := Aside0.mk (KeepBut.trans b9_0 hk (.inl rfl)); replace HB := Aside0.mk (hb); replace HI0 := Aside0.mk (hi); (try clear hb); (try clear hb2); (try clear hk); (try clear hi); obtain ⟨Ao18, co18, eo18⟩ := Kd.R_slice HO235.out; subst eo18) | ((with_reducible refine gate_builtin (b := .append) (xs := #[.tmp 14, .tmp 25]) rfl ?_); at_builtin; refine Kd.S_append k42 w.heap.size rfl (.tmp 14) (.tmp 25) 24 42 (.agg #[(.slice none 0 0), (.int .i64 0)]) 32 rfl Try.underlying24 info42 rfl (by decide) (by omega) u5 x5_1 (⟨t233, t242⟩ : S42) [.slice Ao18 t233.length co18, .int .i64 t242] (fun k_ => some k_ ≠ (.slice Ao16 y239.length co16 : Value).ownBlock) (fun k_ => some k_ = (.slice Ao18 t233.length co18 : Value).ownBlock) rfl rfl ?aP (fun k_ hk_ => ((Kd.R_mono (ok' := fun k_ => ((fun k_ => some k_ ≠ (.slice Ao16 y239.length co16 : Value).ownBlock)) k_ ∧ some k_ ≠ (u5 : Value).ownBlock) (Kd.R_apart' (HO235.out) (Kd.S_typed HO_5.out) (by decide)) (fun k_ hk => ⟨hk.1.2, hk.2⟩))).1 k_ hk_.symm) ?aF ?aO (Below.refl _ _) ?aS ?aL ?_; (case aP => exact (by exact k42_mkM _ _ _ (⟨t233, t242⟩ : S42) (Kd.R_mono (Kd.R_tight rfl (Kd.R_mono (ok' := fun k_ => ((fun k_ => some k_ ≠ (.slice Ao16 y239.length co16 : Value).ownBlock)) k_ ∧ some k_ ≠ (u5 : Value).ownBlock) (Kd.R_apart' (HO235.out) (Kd.S_typed HO_5.out) (by decide)) (fun k_ hk => ⟨hk.1.2, hk.2⟩))) (fun _ h_ => h_)))); (case aF => exact (by exact (fun k_ hk => Kd.fresh' (Kd.R_lt (cR_ HO241.out)) k_ hk))); (case aO => exact (by exact (by refine cS_ ?_; exact Kd.S_mono HO_5.out (fun k_ hk => ⟨hk.2, fun e_ => hk.1.2 e_⟩)))); (case aS => exact (by exact (keep_size (w := w) (g := g) (row := none) b9_0))); (case aL => exact co_ LMc11.out); intro v245 w19 ho hb hg hat; rw [← Ny244.out] at ho; replace HO241 := Aside0.mk (Kd.R_over' (cR_ HO241.out) (Kd.S_typed (cS_ HO_5.out)) (by decide) hg); replace HB := Aside0.mk (below_weaken b9_6 HL.out hb); replace HI0 := Aside0.mk (IsS106.grown b9_3 hg (IsS106.own_neS HI0.out HO_5.out (by decide))); replace HK := Aside0.mk (KeepBut.trans b9_0 (KeepBut.of_grown hg g) (Kd.S_base2 HO_5.out)); have HO246 := Aside0.mk (ho); clear HO_5; clear HO235; clear ho hb hg hat))
     go_roundg k1
     case measure => have := HK1.out; omega
     case rel => exact ⟨(y244), (wrap64 (x6_1 - 1)), (t243), cs_, H', ⟨co_ HK1.out⟩, ⟨by refine cS_ ?_; exact Kd.S_mono HO246.out (fun _ hk => trivial)⟩, ⟨cI_ HI0.out⟩, ⟨cK_ HK.out⟩, ⟨cB1_ (IsS106.ge HI0.out)⟩⟩
    ·rw [if_neg c11] at H
     exact absurd H (by simp)
   ·rw [if_neg c7] at H
    have c7b0 : decide (0 < x6_1) = false := decide_eq_false c7
    clear c7
    simp only [Option.some.injEq, Prod.mk.injEq] at H
    obtain ⟨rfl, rfl⟩ := H
    go_wp2
    go_ret
    exact ⟨_, ce_, cS_ HO_5.out, cI_ HI0.out, cB1_ (IsS106.ge HI0.out), cK_ HK.out⟩

/-! ### spec_l2Draw: function 103 -/
def spec_l2Draw.f (k : Nat) (s0_0 : List Int) (s0_1 : Int) (a1 : Int) : Option ((List (S42)) × Int) := (spec_l2Entries.f k s0_0 s0_1 a1).bind fun bt247 => ((spec_l2Set.f k bt247.1).bind fun bt251 => (some (bt251.1, bt247.2)))
theorem spec_l2Draw.mono : ∀ a0 a1 a2 k, LeO (spec_l2Draw.f k a0 a1 a2) (spec_l2Draw.f (k + 1) a0 a1 a2) := by
 intro a0 a1 a2 k
 unfold spec_l2Draw.f
 repeat' first
   | (with_reducible exact spec_l2Entries.mono _ _ _ _)
   | (with_reducible exact spec_l2Set.mono _ _)
   | (with_reducible exact LeO.refl _)
   | (with_reducible exact LeO.none _)
   | (with_reducible refine LeO.ite ?_ ?_)
   | (with_reducible refine LeO.bind ?_ (fun _ => ?_))
   | exact spec_l2Entries.mono _ _ _ _
   | exact spec_l2Set.mono _ _
   | exact LeO.none _
   | refine LeO.ite ?_ ?_
   | refine LeO.bind ?_ (fun _ => ?_)
set_option maxHeartbeats 8000000 in
set_option maxRecDepth 100000 in
theorem spec_l2Draw.calls (k : Nat) (g : Nat) (s0_0 : List Int) (s0_1 : Int) (a1 : Int) (r1 : List (S42)) (r2 : Int) (w0 w : World) (hI : IsS106 w0 w g s0_0 s0_1) (hB : Below w0.heap.size w0 w) (h : spec_l2Draw.f k s0_0 s0_1 a1 = some (r1, r2)) :
  Calls Try.prog 103 #[.pointer (some ⟨g, 0, none⟩), .int .i64 a1] w fun e w' => ∃ v0_ : Value, e = .returned (v0_) ∧ Kd.N k42 42 w' w.heap.size (fun k_ => (w.heap.size ≤ k_)) v0_ r1 ∧ IsS106 w0 w' g s0_0 r2 ∧ Below w0.heap.size w0 w' ∧ KeepBut w w' g none := by
 have HI0 := Aside0.mk hI
 have HK := Aside0.mk (KeepBut.refl w g none)
 have HL := Aside0.mk hB.size
 clear hI
 have HW0 := Aside0.mk hB.size
 have HB := Aside0.mk hB
 clear hB
 have H : ((spec_l2Entries.f k s0_0 s0_1 a1).bind fun bt247 => ((spec_l2Set.f k bt247.1).bind fun bt251 => (some (bt251.1, bt247.2)))) = some (r1, r2) := h
 clear h
 obtain ⟨⟨t247, t250⟩, A3, H⟩ := bnd_ H
 try dsimp only at H
 obtain ⟨⟨t251, t254⟩, A4, H⟩ := bnd_ H
 try dsimp only at H
 simp only [Option.some.injEq, Prod.mk.injEq] at H
 obtain ⟨rfl, rfl⟩ := H
 go_enter Try.func103, Try.ntmps103
 go_wp2_with (first | (refine gl_ 119 (some 10) Try.func119 #[.pointer (some ⟨g, 0, none⟩), .int .i64 a1] ?_; (with_reducible refine (spec_l2Entries.calls k g s0_0 s0_1 a1 t247 t250 w0 _ ?side1 ?side2 A3.out).mono ?_); (case side1 => exact cI_ HI0.out); (case side2 => exact cB1_ (IsS106.ge HI0.out)); rintro e w5 ⟨v248, rfl, ho0, hi, hb, hk⟩; refine ⟨_, rfl, ?_⟩; have HO249 := Aside0.mk (Kd.N_lower (Kd.N_mono (ok' := fun k_ => (w.heap.size ≤ k_) ∧ k_ ≠ g) (Kd.S_N (Kd.S_bound ho0)) (fun k_ hk_ => ⟨(Nat.le_trans (keep_size (w := w) (g := g) (row := none) b9_0) hk_.2.1), (IsS106.fresh b9_3 k_ hk_.2.1)⟩)) (keep_size (w := w) (g := g) (row := none) b9_0)); replace HK := Aside0.mk (KeepBut.trans b9_0 hk (.inl rfl)); replace HB := Aside0.mk (hb); replace HI0 := Aside0.mk (hi); (try clear hb); (try clear hb2); (try clear hk); (try clear hi); (try clear ho0); obtain ⟨Ao6, co6, eo6⟩ := Kd.N_slice HO249.out; subst eo6) | (refine gl_ 46 (some 11) Try.func46 #[.slice Ao6 t247.length co6] ?_; (with_reducible refine (spec_l2Set.calls k _ _ t247 t251 t254 _ ?side1 ?side2 A4.out).mono ?_); (case side1 => exact cC_ ((Kd.N_reads' HO249.out).2.2)); (case side2 => exact (Kd.N_reads' HO249.out).2.1); rintro e w7 ⟨v252, rfl, ho0, hb⟩; refine ⟨_, rfl, ?_⟩; have HO253 := Aside0.mk (Kd.N_lower (Kd.N_mono (ok' := fun k_ => (w.heap.size ≤ k_) ∧ some k_ ≠ (.slice Ao6 t247.length co6 : Value).ownBlock ∧ k_ ≠ g) ho0 (fun k_ hk_ => ⟨(Nat.le_trans (keep_size (w := w) (g := g) (row := none) b9_0) hk_), (Kd.fresh' (Kd.N_lt (cN_ HO249.out)) k_ hk_), (IsS106.fresh b9_3 k_ hk_)⟩)) (keep_size (w := w) (g := g) (row := none) b9_0)); replace HO249 := Aside0.mk (Kd.N_elder' (cN_ HO249.out) (Kd.N_base ho0) hb); replace HK := Aside0.mk (KeepBut.trans b9_0 (KeepBut.of_below hb g none) (.inl rfl)); replace HB := Aside0.mk (below_step b9_6 hb); replace HI0 := Aside0.mk (IsS106.below b9_3 hb); (try clear hb); (try clear hb2); (try clear hk); (try clear hi); (try clear ho0)))
 go_ret
 exact ⟨_, ce_, by refine cN_ ?_; exact Kd.N_mono HO253.out (fun _ hk => hk.1), cI_ HI0.out, cB1_ (IsS106.ge HI0.out), cK_ HK.out⟩

/-! ### spec_l1Chance: function 67 -/
def spec_l1Chance.f (s0_0 : List Int) (s0_1 : Int) (a1 : Int) : Option (Bool × Int) := (spec_l1Next.f s0_0 s0_1 a1).bind fun bt255 => (some ((bt255.1 == 0), bt255.2))
set_option maxHeartbeats 8000000 in
set_option maxRecDepth 100000 in
theorem spec_l1Chance.calls (g : Nat) (s0_0 : List Int) (s0_1 : Int) (a1 : Int) (r1 : Bool) (r2 : Int) (w0 w : World) (hI : IsS106 w0 w g s0_0 s0_1) (hB : Below w0.heap.size w0 w) (h : spec_l1Chance.f s0_0 s0_1 a1 = some (r1, r2)) :
  Calls Try.prog 67 #[.pointer (some ⟨g, 0, none⟩), .int .i64 a1] w fun e w' => e = .returned (.bool r1) ∧ IsS106 w0 w' g s0_0 r2 ∧ Below w0.heap.size w0 w' ∧ KeepBut w w' g none := by
 have HI0 := Aside0.mk hI
 have HK := Aside0.mk (KeepBut.refl w g none)
 have HL := Aside0.mk hB.size
 clear hI
 have HW0 := Aside0.mk hB.size
 have HB := Aside0.mk hB
 clear hB
 have H : ((spec_l1Next.f s0_0 s0_1 a1).bind fun bt255 => (some ((bt255.1 == 0), bt255.2))) = some (r1, r2) := h
 clear h
 obtain ⟨⟨t255, t256⟩, A3, H⟩ := bnd_ H
 try dsimp only at H
 simp only [Option.some.injEq, Prod.mk.injEq] at H
 obtain ⟨rfl, rfl⟩ := H
 go_enter Try.func67, Try.ntmps67
 go_wp2_with (first | (refine gl_ 66 (some 7) Try.func66 #[.pointer (some ⟨g, 0, none⟩), .int .i64 a1] ?_; (with_reducible refine (spec_l1Next.calls g s0_0 s0_1 a1 t255 t256 w0 _ ?side1 ?side2 A3.out).mono ?_); (case side1 => exact cI_ HI0.out); (case side2 => exact cB1_ (IsS106.ge HI0.out)); rintro e w4 ⟨rfl, hi, hb, hk⟩; refine ⟨_, rfl, ?_⟩; replace HK := Aside0.mk (KeepBut.trans b9_0 hk (.inl rfl)); replace HB := Aside0.mk (hb); replace HI0 := Aside0.mk (hi); (try clear hb); (try clear hb2); (try clear hk); (try clear hi)))
 go_ret
 exact ⟨ce_, cI_ HI0.out, cB1_ (IsS106.ge HI0.out), cK_ HK.out⟩

end Go.Proofs.Ythgmicingbjemaa.PFnGroups
