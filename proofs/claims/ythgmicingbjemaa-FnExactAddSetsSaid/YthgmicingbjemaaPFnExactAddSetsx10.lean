-- Written by fprint, a program of this session, out of Lean's own print of the translation. Lean checks it.
import Derived.Test.YthgmicingbjemaaPFnExactAddSetsx0
import Derived.Test.YthgmicingbjemaaPFnExactAddSetsx8
import Derived.Test.YthgmicingbjemaaPFnExactAddSetsx9
namespace Go.Proofs.Ythgmicingbjemaa.PFnExactAddSets
open Go.RowKit Go.Proofs.YthgmicingbjemaaW.PrintWords Go.Proofs.YthgmicingbjemaaW.PrintLast Go.Proofs.YthgmicingbjemaaW.PrintMore
attribute [local go_sem] max2_int min2_int max_two min_two max_three min_three max_four min_four   -- for this text's walks alone
set_option linter.unusedVariables false
set_option linter.unusedSimpArgs false

theorem b10_0 {p : Prop} (h : p := by repeat (first | (with_reducible first | exact HB.out | apply below_alloc | apply pw_below_drewN | apply below_drew1 | refine below_set ?_ GE231.out) | exact HB.out)) : p := h
theorem b10_1 {p : Prop} (h : p := by (with_reducible repeat (first | refine blk_drewN ?_ _ | refine blk_drew ?_ | refine blk_alloc ?_ _)); exact BK231.out) : p := h
theorem b10_2 {p : Prop} (h : p := by repeat (first | (with_reducible first | exact HB.out | apply below_alloc | apply pw_below_drewN | apply below_drew1) | exact HB.out)) : p := h
theorem b10_3 {p : Prop} (h : p := by (with_reducible repeat (first | apply Kd.V_alloc | apply Kd.V_drewN | apply Kd.V_drew)); exact HO0.out) : p := h
theorem b10_4 {p : Prop} (h : p := by (with_reducible repeat (first | apply Kd.V_alloc | apply Kd.V_drewN | apply Kd.V_drew)); exact HO1.out) : p := h
theorem b10_5 {p : Prop} (h : p := by (try simp only [List.map_toArray, List.map_cons, List.map_nil]); first | done | rfl | (simp only [List.length_drop, List.length_take]; rfl)) : p := h
theorem b10_6 {p : Prop} (h : p := by (with_reducible repeat (first | apply Kd.N_alloc | apply Kd.N_drewN | apply Kd.N_drew)); exact HO234.out) : p := h
/-! ### impl_setsFault: function 79 -/
def impl_setsFault.l0 : Nat → List (List (S42)) → Int → Int → Option (Int)
 | 0, _, _, _ => none
 | k + 1, x6, x7, x8 => if x8 < x7 then (if 0 ≤ x8 then (if x8 < (x6.length : Int) then ((impl_SetFault.f k (rd_L4 x6 x8)).bind fun t229 => (if t229 = 0 then (impl_setsFault.l0 k x6 x7 (wrap64 (x8 + 1))) else (some t229))) else (none)) else (none)) else (some 0)
def impl_setsFault.f (k : Nat) (l0 : List (List (S42))) : Option (Int) := impl_setsFault.l0 k l0 (l0.length : Int) 0
theorem impl_setsFault.mono_l : ∀ k, (∀ y0 y1 y2, LeO (impl_setsFault.l0 k y0 y1 y2) (impl_setsFault.l0 (k + 1) y0 y1 y2))
 | 0 => fun _ _ _ r h => by simp [impl_setsFault.l0] at h
 | k + 1 => by
  have ih0 := impl_setsFault.mono_l k
  ·intro y0 y1 y2
   unfold impl_setsFault.l0
   repeat' first
   | (with_reducible exact ih0 _ _ _)
   | (with_reducible exact impl_SetFault.mono _ _)
   | (with_reducible exact LeO.refl _)
   | (with_reducible exact LeO.none _)
   | (with_reducible refine LeO.ite ?_ ?_)
   | (with_reducible refine LeO.bind ?_ (fun _ => ?_))
   | exact ih0 _ _ _
   | exact impl_SetFault.mono _ _
   | exact LeO.none _
   | refine LeO.ite ?_ ?_
   | refine LeO.bind ?_ (fun _ => ?_)
theorem impl_setsFault.mono : ∀ a0 k, LeO (impl_setsFault.f k a0) (impl_setsFault.f (k + 1) a0) := by
 intro a0 k
 have ih0 := impl_setsFault.mono_l k
 unfold impl_setsFault.f
 repeat' first
   | (with_reducible exact ih0 _ _ _)
   | (with_reducible exact impl_SetFault.mono _ _)
   | (with_reducible exact LeO.refl _)
   | (with_reducible exact LeO.none _)
   | (with_reducible refine LeO.ite ?_ ?_)
   | (with_reducible refine LeO.bind ?_ (fun _ => ?_))
   | exact ih0 _ _ _
   | exact impl_SetFault.mono _ _
   | exact LeO.none _
   | refine LeO.ite ?_ ?_
   | refine LeO.bind ?_ (fun _ => ?_)
set_option maxHeartbeats 8000000 in
set_option maxRecDepth 100000 in
theorem impl_setsFault.calls (k : Nat) (A0 : Option Addr) (c0 : Nat) (l0 : List (List (S42))) (r : Int) (w : World) (hr0 : Kd.C (Kd.slice 42 k42) w A0 l0.length l0) (hc0 : l0.length ≤ c0) (h : impl_setsFault.f k l0 = some r) :
  Calls Try.prog 79 #[.slice A0 l0.length c0] w fun e w' => e = .returned (.int .i64 r) ∧ Below w.heap.size w w' := by
 have HR0 := Aside0.mk hr0
 have HC0 := Aside0.mk hc0
 clear hr0 hc0
 have HB := Aside0.mk (Below.refl w.heap.size w)
 have H : (impl_setsFault.l0 k l0 (l0.length : Int) 0) = some r := h
 clear h
 have H' := Aside0.mk H
 clear H
 go_enter Try.func79, Try.ntmps79
 go_wp2
 go_loopg [8] k (fun kq v8 w' => ∃ (x8_1 : Int), v8 = .int .i64 x8_1 ∧ Aside0 (impl_setsFault.l0 kq l0 (l0.length : Int) x8_1 = some r) ∧ Aside0 (kq ≤ k) ∧ Aside0 (Below w.heap.size w w'))
 case atStart => exact ⟨(0), (by first | rfl | (simp; done) | (simp [*]; done)), H', ⟨Nat.le_refl _⟩, ⟨by repeat (first | (with_reducible first | exact HB.out | apply below_alloc | apply pw_below_drewN | apply below_drew1) | exact HB.out)⟩⟩
 case round =>
  clear H'
  obtain ⟨x8_1, rfl, HA, HK1, HB⟩ := hrel
  cases gk with
  | zero => exact absurd HA.out (by simp [impl_setsFault.l0])
  | succ k1 =>
   have H := HA.out
   clear HA
   simp only [impl_setsFault.l0] at H
   by_cases c2 : x8_1 < (l0.length : Int)
   ·rw [if_pos c2] at H
    have c2b0 : decide (x8_1 < (l0.length : Int)) = true := decide_eq_true c2
    clear c2
    by_cases c3 : 0 ≤ x8_1
    ·rw [if_pos c3] at H
     have c3b0 : decide (0 ≤ x8_1) = true := decide_eq_true c3
     clear c3
     by_cases c4 : x8_1 < (l0.length : Int)
     ·rw [if_pos c4] at H
      have c4b0 : decide (x8_1 < (l0.length : Int)) = true := decide_eq_true c4
      clear c4
      replace H := Option.bind_eq_some_iff.mp H
      obtain ⟨t229, A50, H⟩ := H
      replace H : (if t229 = 0 then (impl_setsFault.l0 k1 l0 (l0.length : Int) (wrap64 (x8_1 + 1))) else (some t229)) = some r := H
      have A5 := Aside0.mk A50
      clear A50
      by_cases c6 : t229 = 0
      ·rw [if_pos c6] at H
       have c6b0 : (t229 == 0) = true := beq_iff_eq.mpr c6
       have c6b1 : (t229 != 0) = false := bne_eq_false_iff_eq.mpr c6
       clear c6
       have H' := Aside0.mk H
       clear H
       have p228 : 0 ≤ (x8_1 : Int) := of_decide_eq_true (by first | (with_reducible assumption) | assumption)
       have q228 : x8_1 < (l0.length : Int) := of_decide_eq_true (by first | (with_reducible assumption) | assumption)
       obtain ⟨ad228, A228_0, c228_0, e228, hx228_0, hl228_0, hi228_0⟩ := at_L4 HR0.out x8_1 p228 q228
       cases e228
       replace hx228_0 := (HB.out.cell (World.block_lt_of_cell? w _ hx228_0)).trans hx228_0
       have HR228_0 := Aside0.mk hi228_0
       have HC228_0 := Aside0.mk hl228_0
       clear hi228_0 hl228_0
       replace p228 := eq_true p228
       replace q228 := eq_true q228
       go_wp2_with (first | ((with_reducible refine gate_callee (f := 26) rfl ?_); refine goesL_ (some 13) rfl rfl Try.func26 (by kernel_rfl) rfl #[.slice A228_0 (rd_L4 l0 x8_1).length c228_0] rfl b10_5 ?_; (with_reducible refine (impl_SetFault.calls k1 _ _ (rd_L4 l0 x8_1) t229 _ ?side1 ?side2 A5.out).mono ?_); (case side1 => exact (by repeat (first | exact (Kd.C_below HR228_0.out HB.out) | (with_reducible refine Kd.C_alloc ?_ _) | (with_reducible refine Kd.C_drewN ?_ _) | (with_reducible refine Kd.C_drew ?_)))); (case side2 => exact HC228_0.out); rintro e w7 ⟨rfl, hb⟩; refine ⟨_, rfl, ?_⟩; have n0_ := Aside0.mk (below_step b10_2 hb); clear HB; have HB := n0_; clear n0_; (try clear hb); (try clear hb2); (try clear hk); (try clear hi)))
       go_roundg k1
       case measure => have := HK1.out; omega
       case rel => exact ⟨(wrap64 (x8_1 + 1)), (by first | rfl | (simp; done) | (simp [*]; done)), H', ⟨by have := HK1.out; omega⟩, ⟨by repeat (first | (with_reducible first | exact HB.out | apply below_alloc | apply pw_below_drewN | apply below_drew1) | exact HB.out)⟩⟩
      ·rw [if_neg c6] at H
       have c6b0 : (t229 == 0) = false := beq_eq_false_iff_ne.mpr c6
       have c6b1 : (t229 != 0) = true := bne_iff_ne.mpr c6
       obtain rfl := Option.some.inj H
       have p228 : 0 ≤ (x8_1 : Int) := of_decide_eq_true (by first | (with_reducible assumption) | assumption)
       have q228 : x8_1 < (l0.length : Int) := of_decide_eq_true (by first | (with_reducible assumption) | assumption)
       obtain ⟨ad228, A228_0, c228_0, e228, hx228_0, hl228_0, hi228_0⟩ := at_L4 HR0.out x8_1 p228 q228
       cases e228
       replace hx228_0 := (HB.out.cell (World.block_lt_of_cell? w _ hx228_0)).trans hx228_0
       have HR228_0 := Aside0.mk hi228_0
       have HC228_0 := Aside0.mk hl228_0
       clear hi228_0 hl228_0
       replace p228 := eq_true p228
       replace q228 := eq_true q228
       go_wp2_with (first | ((with_reducible refine gate_callee (f := 26) rfl ?_); refine goesL_ (some 13) rfl rfl Try.func26 (by kernel_rfl) rfl #[.slice A228_0 (rd_L4 l0 x8_1).length c228_0] rfl b10_5 ?_; (with_reducible refine (impl_SetFault.calls k1 _ _ (rd_L4 l0 x8_1) t229 _ ?side1 ?side2 A5.out).mono ?_); (case side1 => exact (by repeat (first | exact (Kd.C_below HR228_0.out HB.out) | (with_reducible refine Kd.C_alloc ?_ _) | (with_reducible refine Kd.C_drewN ?_ _) | (with_reducible refine Kd.C_drew ?_)))); (case side2 => exact HC228_0.out); rintro e w8 ⟨rfl, hb⟩; refine ⟨_, rfl, ?_⟩; have n0_ := Aside0.mk (below_step b10_2 hb); clear HB; have HB := n0_; clear n0_; (try clear hb); (try clear hb2); (try clear hk); (try clear hi)))
       go_ret
       exact ⟨by first | rfl | (simp [errW_none, errW_some] <;> rfl) | (simp [*, errW_none, errW_some] <;> rfl), by repeat (first | (with_reducible first | exact HB.out | apply below_alloc | apply pw_below_drewN | apply below_drew1) | exact HB.out)⟩
     ·rw [if_neg c4] at H
      exact absurd H (by simp)
    ·rw [if_neg c3] at H
     exact absurd H (by simp)
   ·rw [if_neg c2] at H
    have c2b0 : decide (x8_1 < (l0.length : Int)) = false := decide_eq_false c2
    clear c2
    obtain rfl := Option.some.inj H
    go_wp2
    go_ret
    exact ⟨by first | rfl | (simp [errW_none, errW_some] <;> rfl) | (simp [*, errW_none, errW_some] <;> rfl), by repeat (first | (with_reducible first | exact HB.out | apply below_alloc | apply pw_below_drewN | apply below_drew1) | exact HB.out)⟩

-- NOT PRINTED: function 112 (impl_Entry_112)

-- NOT PRINTED: function 80 (impl_Entry_80)

/-! ### impl_AddSets: function 34 -/
def impl_AddSets.f (k : Nat) (l0 : List (S42)) (l1 : List (S42)) : Option (Int × (List (S42))) := (impl_setsFault.f k (([l0, l1] : List (List (S42))))).bind fun t235 => (if t235 = 0 then ((if l0.length + l1.length < 4194304 then impl_summed.f (l0 ++ l1) else none).bind fun bt239 => (some (bt239.2, bt239.1))) else (some (t235, ([] : List (S42)))))
theorem impl_AddSets.mono : ∀ a0 a1 k, LeO (impl_AddSets.f k a0 a1) (impl_AddSets.f (k + 1) a0 a1) := by
 intro a0 a1 k
 unfold impl_AddSets.f
 repeat' first
   | (with_reducible exact impl_setsFault.mono _ _)
   | (with_reducible exact LeO.refl _)
   | (with_reducible exact LeO.none _)
   | (with_reducible refine LeO.ite ?_ ?_)
   | (with_reducible refine LeO.bind ?_ (fun _ => ?_))
   | exact impl_setsFault.mono _ _
   | exact LeO.none _
   | refine LeO.ite ?_ ?_
   | refine LeO.bind ?_ (fun _ => ?_)
set_option maxHeartbeats 8000000 in
set_option maxRecDepth 100000 in
theorem impl_AddSets.calls (k : Nat) (A0 : Option Addr) (c0 : Nat) (l0 : List (S42)) (A1 : Option Addr) (c1 : Nat) (l1 : List (S42)) (r1 : Int) (r2 : List (S42)) (w : World) (hr0 : Kd.C k42 w A0 l0.length l0) (hc0 : l0.length ≤ c0) (hr1 : Kd.C k42 w A1 l1.length l1) (hc1 : l1.length ≤ c1) (h : impl_AddSets.f k l0 l1 = some (r1, r2)) :
  Calls Try.prog 34 #[.slice A0 l0.length c0, .slice A1 l1.length c1] w fun e w' => ∃ v1_ : Value, e = .returned (.agg #[.int .i64 r1, v1_]) ∧ Kd.S k42 42 w' w.heap.size (fun _ => True) v1_ r2 ∧ Below w.heap.size w w' := by
 have huR_ := Try.underlying26
 have HO0 := Aside0.mk (show Kd.V k42 42 w w.heap.size (fun k_ => ((k_ < w.heap.size ∨ k_ < w.heap.size) ∨ w.heap.size ≤ k_)) (.slice A0 l0.length c0) l0 from Kd.V_mk hc0 (Kd.F_mono (Kd.C_F (show Kd.Heap k42 from Kd.heap_iso _ (Kd.heap_pair (Kd.heap_slice 2 (Kd.heap_int .i64)) (Kd.heap_int .i64))) hr0) (fun k_ hk => .inl (.inl hk))))
 have HO1 := Aside0.mk (show Kd.V k42 42 w w.heap.size (fun k_ => ((k_ < w.heap.size ∨ k_ < w.heap.size) ∨ w.heap.size ≤ k_)) (.slice A1 l1.length c1) l1 from Kd.V_mk hc1 (Kd.F_mono (Kd.C_F (show Kd.Heap k42 from Kd.heap_iso _ (Kd.heap_pair (Kd.heap_slice 2 (Kd.heap_int .i64)) (Kd.heap_int .i64))) hr1) (fun k_ hk => .inl (.inr hk))))
 have HB := Aside0.mk (Below.refl w.heap.size w)
 have H : ((impl_setsFault.f k (([l0, l1] : List (List (S42))))).bind fun t235 => (if t235 = 0 then ((if l0.length + l1.length < 4194304 then impl_summed.f (l0 ++ l1) else none).bind fun bt239 => (some (bt239.2, bt239.1))) else (some (t235, ([] : List (S42)))))) = some (r1, r2) := h
 clear h
 obtain ⟨y232, hy232⟩ : ∃ y_ : List (List (S42)), y_ = (([l0, l1] : List (List (S42)))) := ⟨_, rfl⟩
 replace H : ((impl_setsFault.f k y232).bind fun t235 => (if t235 = 0 then ((if l0.length + l1.length < 4194304 then impl_summed.f (l0 ++ l1) else none).bind fun bt239 => (some (bt239.2, bt239.1))) else (some (t235, ([] : List (S42)))))) = some (r1, r2) := by first | (rw [hy232]; with_reducible exact H) | (have H2_ := (Option.bind_some _ _).symm.trans H; rw [hy232]; with_reducible exact H2_) | (have H2_ := (Option.bind_some _ _).symm.trans H; with_reducible exact H2_) | with_reducible exact H | (rw [hy232]; exact H) | exact H
 have Ny232 := Aside0.mk hy232
 clear hy232
 replace H := Option.bind_eq_some_iff.mp H
 obtain ⟨t235, A30, H⟩ := H
 replace H : (if t235 = 0 then ((if l0.length + l1.length < 4194304 then impl_summed.f (l0 ++ l1) else none).bind fun bt239 => (some (bt239.2, bt239.1))) else (some (t235, ([] : List (S42))))) = some (r1, r2) := H
 have A3 := Aside0.mk A30
 clear A30
 by_cases c4 : t235 = 0
 ·rw [if_pos c4] at H
  have c4b0 : (t235 == 0) = true := beq_iff_eq.mpr c4
  have c4b1 : (t235 != 0) = false := bne_eq_false_iff_eq.mpr c4
  clear c4
  obtain ⟨y236, hy236⟩ : ∃ y_ : List (List (S42)), y_ = (([l0, l1] : List (List (S42)))) := ⟨_, rfl⟩
  replace H : ((if l0.length + l1.length < 4194304 then impl_summed.f (l0 ++ l1) else none).bind fun bt239 => (some (bt239.2, bt239.1))) = some (r1, r2) := by first | (rw [hy236]; with_reducible exact H) | (have H2_ := (Option.bind_some _ _).symm.trans H; rw [hy236]; with_reducible exact H2_) | (have H2_ := (Option.bind_some _ _).symm.trans H; with_reducible exact H2_) | with_reducible exact H | (rw [hy236]; exact H) | exact H
  have Ny236 := Aside0.mk hy236
  clear hy236
  replace H := Option.bind_eq_some_iff.mp H
  obtain ⟨⟨t239, t240⟩, A50, H⟩ := H
  replace H : (some (t240, t239)) = some (r1, r2) := H
  obtain ⟨hl_, A50⟩ : l0.length + l1.length < 4194304 ∧ impl_summed.f (l0 ++ l1) = some (t239, t240) := by
   by_cases c_ : l0.length + l1.length < 4194304
   ·rw [if_pos c_] at A50; exact ⟨c_, A50⟩
   ·rw [if_neg c_] at A50; exact absurd A50 (by simp)
  have HL_ := Aside0.mk hl_
  clear hl_
  have A5 := Aside0.mk A50
  clear A50
  simp only [Option.some.injEq, Prod.mk.injEq] at H
  obtain ⟨rfl, rfl⟩ := H
  go_enter Try.func34, Try.ntmps34
  go_wp2_with (first | ((with_reducible refine gate_dst (N := 4) rfl ?_); refine box_event ?hg (N := 4) ?hd (cs := #[.int .i64 0, .slice none 0 0]) (t := 26) ?hr ?_; (case hd => rfl); (case hg => rfl); (case hr => first | (go_simp; done) | (go_simp; rfl)); intro gb231 hg w6 hbox hb; have n0_ := Aside0.mk (Kd.V_below (Kd.V_elderB b10_3 gb231 (Nat.le_of_eq hg.symm)) hb); have n1_ := Aside0.mk (Kd.V_below (Kd.V_elderB b10_4 gb231 (Nat.le_of_eq hg.symm)) hb); have n2_ := Aside0.mk (below_step b10_2 hb); have n3_ := Aside0.mk (hbox); have n4_ := Aside0.mk ((by rw [hg]; exact (below_size b10_2) : w.heap.size ≤ gb231)); have n5_ := Aside0.mk ((by rw [hg]; exact (below_size b10_2) : w.heap.size ≤ gb231)); clear HO0; clear HO1; clear HB; have HO0 := n0_; have HO1 := n1_; have HB := n2_; have BK231 := n3_; have GW231 := n4_; have GE231 := n5_; clear n0_ n1_ n2_ n3_ n4_ n5_; clear hb hbox hg) | ((with_reducible refine gate_dst (N := 10) rfl ?_); refine Kd.N_lit (Kd.slice 42 k42) _ 24 ?hg (N' := 10) ?hd (xs := ([l0, l1] : List (List (S42)))) (inner := [.slice A0 l0.length c0, .slice A1 l1.length c1]) (ok := (fun k_ => ((k_ < w.heap.size ∨ k_ < w.heap.size) ∨ w.heap.size ≤ k_) ∧ k_ ≠ gb231)) (okp := (fun k_ => ((k_ < w.heap.size ∨ k_ < w.heap.size) ∨ w.heap.size ≤ k_) ∧ k_ ≠ gb231)) ?hr ?hp (fun _ hk => hk) ((show ∀ k_, w6.heap.size ≤ k_ → (fun k_ => ((k_ < w.heap.size ∨ k_ < w.heap.size) ∨ w.heap.size ≤ k_) ∧ k_ ≠ gb231) k_ from fun k_ hk => ⟨(.inr (Nat.le_trans (below_size b10_0) hk)), Kd.freshB (g := gb231) (o := .cells #[.int .i64 0, .slice none 0 0] 26 (0, 0)) b10_1 k_ hk⟩) _ (Nat.le_refl _)) (Below.refl _ _) (Nat.le_refl _) (by simp) ?_; (case hd => rfl); (case hg => rfl); (case hr => first | (go_simp; done) | (go_simp; rfl)); (case hp => exact (Reps.one (show Kd.FK (Kd.slice 42 k42) _ _ l0 [.slice A0 l0.length c0] from (Kd.FK_slice_mk (Kd.V_reads' (Kd.V_mono (ok' := (fun k_ => ((k_ < w.heap.size ∨ k_ < w.heap.size) ∨ w.heap.size ≤ k_) ∧ k_ ≠ gb231)) (HO0.out) (fun k_ hk => ⟨hk.1, hk.2⟩))).2.1 (Kd.V_F (Kd.V_mono (ok' := (fun k_ => ((k_ < w.heap.size ∨ k_ < w.heap.size) ∨ w.heap.size ≤ k_) ∧ k_ ≠ gb231)) (HO0.out) (fun k_ hk => ⟨hk.1, hk.2⟩))))) (Reps.one (show Kd.FK (Kd.slice 42 k42) _ _ l1 [.slice A1 l1.length c1] from (Kd.FK_slice_mk (Kd.V_reads' (Kd.V_mono (ok' := (fun k_ => ((k_ < w.heap.size ∨ k_ < w.heap.size) ∨ w.heap.size ≤ k_) ∧ k_ ≠ gb231)) (HO1.out) (fun k_ hk => ⟨hk.1, hk.2⟩))).2.1 (Kd.V_F (Kd.V_mono (ok' := (fun k_ => ((k_ < w.heap.size ∨ k_ < w.heap.size) ∨ w.heap.size ≤ k_) ∧ k_ ≠ gb231)) (HO1.out) (fun k_ hk => ⟨hk.1, hk.2⟩))))) (Reps.none _ _)))); intro v233 w7 ho8 hb hg_ hnew_; clear hg_ hnew_; (first | rw [← Ny232.out] at ho8 | (simp only [Int.reduceToNat] at ho8; rw [← Ny232.out] at ho8)); have n0_ := Aside0.mk (Kd.V_elder' b10_3 (Kd.N_base ho8) hb); have n1_ := Aside0.mk (Kd.V_elder' b10_4 (Kd.N_base ho8) hb); have n2_ := Aside0.mk (Kd.N_lower ho8 (below_size b10_0)); have n3_ := Aside0.mk (blk_below (g := gb231) (o := .cells #[.int .i64 0, .slice none 0 0] 26 (0, 0)) b10_1 hb); have n4_ := Aside0.mk (below_step b10_0 hb); clear HO0; clear HO1; clear BK231; clear HB; have HO0 := n0_; have HO1 := n1_; have HO234 := n2_; have BK231 := n3_; have HB := n4_; clear n0_ n1_ n2_ n3_ n4_; clear hb ho8; obtain ⟨Ao9, co9, eo9⟩ := Kd.N_slice HO234.out; subst eo9) | ((with_reducible refine gate_callee (f := 79) rfl ?_); refine goesL_ (some 11) rfl rfl Try.func79 (by kernel_rfl) rfl #[.slice Ao9 y232.length co9] rfl b10_5 ?_; (with_reducible refine (impl_setsFault.calls k _ _ y232 t235 _ ?side1 ?side2 A3.out).mono ?_); (case side1 => exact (by repeat (first | exact (Kd.N_reads' HO234.out).2.2 | (with_reducible refine Kd.C_alloc ?_ _) | (with_reducible refine Kd.C_drewN ?_ _) | (with_reducible refine Kd.C_drew ?_)))); (case side2 => exact (Kd.N_reads' HO234.out).2.1); rintro e w10 ⟨rfl, hb⟩; refine ⟨_, rfl, ?_⟩; have n0_ := Aside0.mk (Kd.V_below b10_3 hb); have n1_ := Aside0.mk (Kd.V_below b10_4 hb); have n2_ := Aside0.mk (Kd.N_below b10_6 hb); have n3_ := Aside0.mk (blk_below (g := gb231) (o := .cells #[.int .i64 0, .slice none 0 0] 26 (0, 0)) b10_1 hb); have n4_ := Aside0.mk (below_step b10_0 hb); clear HO0; clear HO1; clear HO234; clear BK231; clear HB; have HO0 := n0_; have HO1 := n1_; have HO234 := n2_; have BK231 := n3_; have HB := n4_; clear n0_ n1_ n2_ n3_ n4_; (try clear hb); (try clear hb2); (try clear hk); (try clear hi)) | ((with_reducible refine gate_dst (N := 19) rfl ?_); refine Kd.N_lit (Kd.slice 42 k42) _ 24 ?hg (N' := 19) ?hd (xs := ([l0, l1] : List (List (S42)))) (inner := [.slice A0 l0.length c0, .slice A1 l1.length c1]) (ok := (fun k_ => ((k_ < w.heap.size ∨ k_ < w.heap.size) ∨ w.heap.size ≤ k_) ∧ some k_ ≠ (.slice Ao9 y232.length co9 : Value).ownBlock ∧ k_ ≠ gb231)) (okp := (fun k_ => ((k_ < w.heap.size ∨ k_ < w.heap.size) ∨ w.heap.size ≤ k_) ∧ some k_ ≠ (.slice Ao9 y232.length co9 : Value).ownBlock ∧ k_ ≠ gb231)) ?hr ?hp (fun _ hk => hk) ((show ∀ k_, w10.heap.size ≤ k_ → (fun k_ => ((k_ < w.heap.size ∨ k_ < w.heap.size) ∨ w.heap.size ≤ k_) ∧ some k_ ≠ (.slice Ao9 y232.length co9 : Value).ownBlock ∧ k_ ≠ gb231) k_ from fun k_ hk => ⟨(.inr (Nat.le_trans (below_size b10_0) hk)), Kd.fresh' (Kd.N_lt b10_6) k_ hk, Kd.freshB (g := gb231) (o := .cells #[.int .i64 0, .slice none 0 0] 26 (0, 0)) b10_1 k_ hk⟩) _ (Nat.le_refl _)) (Below.refl _ _) (Nat.le_refl _) (by simp) ?_; (case hd => rfl); (case hg => rfl); (case hr => first | (go_simp; done) | (go_simp; rfl)); (case hp => exact (Reps.one (show Kd.FK (Kd.slice 42 k42) _ _ l0 [.slice A0 l0.length c0] from (Kd.FK_slice_mk (Kd.V_reads' (Kd.V_mono (ok' := (fun k_ => ((k_ < w.heap.size ∨ k_ < w.heap.size) ∨ w.heap.size ≤ k_) ∧ some k_ ≠ (.slice Ao9 y232.length co9 : Value).ownBlock ∧ k_ ≠ gb231)) (HO0.out) (fun k_ hk => ⟨hk.1.1, ⟨hk.2, hk.1.2⟩⟩))).2.1 (Kd.V_F (Kd.V_mono (ok' := (fun k_ => ((k_ < w.heap.size ∨ k_ < w.heap.size) ∨ w.heap.size ≤ k_) ∧ some k_ ≠ (.slice Ao9 y232.length co9 : Value).ownBlock ∧ k_ ≠ gb231)) (HO0.out) (fun k_ hk => ⟨hk.1.1, ⟨hk.2, hk.1.2⟩⟩))))) (Reps.one (show Kd.FK (Kd.slice 42 k42) _ _ l1 [.slice A1 l1.length c1] from (Kd.FK_slice_mk (Kd.V_reads' (Kd.V_mono (ok' := (fun k_ => ((k_ < w.heap.size ∨ k_ < w.heap.size) ∨ w.heap.size ≤ k_) ∧ some k_ ≠ (.slice Ao9 y232.length co9 : Value).ownBlock ∧ k_ ≠ gb231)) (HO1.out) (fun k_ hk => ⟨hk.1.1, ⟨hk.2, hk.1.2⟩⟩))).2.1 (Kd.V_F (Kd.V_mono (ok' := (fun k_ => ((k_ < w.heap.size ∨ k_ < w.heap.size) ∨ w.heap.size ≤ k_) ∧ some k_ ≠ (.slice Ao9 y232.length co9 : Value).ownBlock ∧ k_ ≠ gb231)) (HO1.out) (fun k_ hk => ⟨hk.1.1, ⟨hk.2, hk.1.2⟩⟩))))) (Reps.none _ _)))); intro v237 w11 ho12 hb hg_ hnew_; clear hg_ hnew_; (first | rw [← Ny236.out] at ho12 | (simp only [Int.reduceToNat] at ho12; rw [← Ny236.out] at ho12)); have n0_ := Aside0.mk (Kd.V_elder' b10_3 (Kd.N_base ho12) hb); have n1_ := Aside0.mk (Kd.V_elder' b10_4 (Kd.N_base ho12) hb); have n2_ := Aside0.mk (Kd.N_elder' b10_6 (Kd.N_base ho12) hb); have n3_ := Aside0.mk (Kd.N_lower ho12 (below_size b10_0)); have n4_ := Aside0.mk (blk_below (g := gb231) (o := .cells #[.int .i64 0, .slice none 0 0] 26 (0, 0)) b10_1 hb); have n5_ := Aside0.mk (below_step b10_0 hb); clear HO0; clear HO1; clear HO234; clear BK231; clear HB; have HO0 := n0_; have HO1 := n1_; have HO234 := n2_; have HO238 := n3_; have BK231 := n4_; have HB := n5_; clear n0_ n1_ n2_ n3_ n4_ n5_; clear hb ho12) | ((with_reducible refine gate_callee (f := 80) rfl ?_); obtain ⟨gq_, cq_, eq_, _, _, _⟩ := Kd.N_form HO238.out (by rw [Ny236.out]; exact Nat.zero_lt_succ _); subst eq_; refine goesL_ (some 20) rfl rfl Try.func80 (by kernel_rfl) rfl #[.slice (some ⟨gq_, 0, none⟩) y236.length cq_] rfl (by (try simp only [List.map_toArray, List.map_cons, List.map_nil]); first | done | rfl) ?_; have hsz_ : (Kd.sz k42) = 2 := rfl; (with_reducible refine (Concat.concatC (d := k42) (e := 42) (l0 := l0) (l1 := l1) hsz_ ?side1 ?side2).mono ?_); (case side1 => have z_ := (Kd.N_reads' HO238.out).2.2; rw [Ny236.out] at z_ ⊢; repeat (first | exact z_ | (with_reducible refine Kd.C_alloc ?_ _) | (with_reducible refine Kd.C_drewN ?_ _) | (with_reducible refine Kd.C_drew ?_))); (case side2 => have := HL_.out; omega); rintro e wq_ ⟨Aq_, cq2_, rfl, hcq_, hrq_, hb⟩; refine ⟨_, rfl, ?_⟩; have HRQ := Aside0.mk hrq_; have HCQ := Aside0.mk hcq_; have n0_ := Aside0.mk (Kd.V_below b10_3 hb); have n1_ := Aside0.mk (Kd.V_below b10_4 hb); have n2_ := Aside0.mk (Kd.N_below b10_6 hb); have n3_ := Aside0.mk (Kd.N_below (by (with_reducible repeat (first | apply Kd.N_alloc | apply Kd.N_drewN | apply Kd.N_drew)); exact HO238.out) hb); have n4_ := Aside0.mk (blk_below (g := gb231) (o := .cells #[.int .i64 0, .slice none 0 0] 26 (0, 0)) b10_1 hb); have n5_ := Aside0.mk (below_step b10_0 hb); clear HO0 HO1 HO234 HO238 BK231 HB hrq_ hcq_; have HO0 := n0_; have HO1 := n1_; have HO234 := n2_; have HO238 := n3_; have BK231 := n4_; have HB := n5_; clear n0_ n1_ n2_ n3_ n4_ n5_; (try clear hb)) | ((with_reducible refine gate_callee (f := 50) rfl ?_); refine goesL_ (some 21) rfl rfl Try.func50 (by kernel_rfl) rfl #[.slice Aq_ (l0 ++ l1).length cq2_] rfl b10_5 ?_; (with_reducible refine (impl_summed.calls _ _ (l0 ++ l1) t239 t240 _ ?side1 ?side2 A5.out).mono ?_); (case side1 => exact (by repeat (first | exact HRQ.out | (with_reducible refine Kd.C_alloc ?_ _) | (with_reducible refine Kd.C_drewN ?_ _) | (with_reducible refine Kd.C_drew ?_)))); (case side2 => exact HCQ.out); rintro e w13 ⟨v241, rfl, ho0, hb⟩; refine ⟨_, rfl, ?_⟩; have n0_ := Aside0.mk (Kd.V_elder' b10_3 (Kd.S_base ho0) hb); have n1_ := Aside0.mk (Kd.V_elder' b10_4 (Kd.S_base ho0) hb); have n2_ := Aside0.mk (Kd.N_elder' b10_6 (Kd.S_base ho0) hb); have n3_ := Aside0.mk (Kd.N_elder' (by (with_reducible repeat (first | apply Kd.N_alloc | apply Kd.N_drewN | apply Kd.N_drew)); exact HO238.out) (Kd.S_base ho0) hb); have n4_ := Aside0.mk (Kd.S_lower (Kd.S_mono (ok' := fun k_ => k_ ≠ gb231) (Kd.S_bound ho0) (fun k_ hk_ => Kd.freshB (g := gb231) (o := .cells #[.int .i64 0, .slice none 0 0] 26 (0, 0)) b10_1 k_ hk_.2.1)) (below_size b10_0)); have n5_ := Aside0.mk (blk_below (g := gb231) (o := .cells #[.int .i64 0, .slice none 0 0] 26 (0, 0)) b10_1 hb); have n6_ := Aside0.mk (below_step b10_0 hb); clear HO0; clear HO1; clear HO234; clear HO238; clear BK231; clear HB; have HO0 := n0_; have HO1 := n1_; have HO234 := n2_; have HO238 := n3_; have HO242 := n4_; have BK231 := n5_; have HB := n6_; clear n0_ n1_ n2_ n3_ n4_ n5_ n6_; (try clear hb); (try clear hb2); (try clear hk); (try clear hi); (try clear ho0); obtain ⟨Ao14, co14, eo14⟩ := Kd.S_slice HO242.out; subst eo14; obtain ⟨hcz15_0, hcz15_1, hfz15_0, hfz15_1⟩ := cells2 BK231.out))
  refine bodyPost_ret (results_cell_row rfl _ _ gb231 26 #[.int .i64 t240, .slice Ao14 t239.length co14] (0, 0) _ rfl (by (with_reducible repeat (first | refine blk_drewN ?_ _ | refine blk_drew ?_ | refine blk_alloc ?_ _)); refine blk_put (cs := #[.int .i64 t240, .slice none 0 0]) ?_ 1 _ rfl; (with_reducible repeat (first | refine blk_drewN ?_ _ | refine blk_drew ?_ | refine blk_alloc ?_ _)); refine blk_put (cs := #[.int .i64 0, .slice none 0 0]) ?_ 0 _ rfl; (with_reducible repeat (first | refine blk_drewN ?_ _ | refine blk_drew ?_ | refine blk_alloc ?_ _)); exact BK231.out) Try.underlying26 rfl (by kernel_rfl)) rfl ?_
  exact ⟨_, by first | rfl | (simp [errW_none, errW_some] <;> rfl) | (simp [*, errW_none, errW_some] <;> rfl), by (with_reducible repeat (first | apply Kd.S_alloc | apply Kd.S_drewN | apply Kd.S_drew)); exact Kd.S_mono (Kd.S_far (p := ⟨gb231, 1, none⟩) (Kd.S_far (p := ⟨gb231, 0, none⟩) HO242.out (fun _ hk => hk) (.int .i64 t240)) (fun _ hk => hk) (.slice Ao14 t239.length co14)) (fun _ _ => trivial), by repeat (first | (with_reducible first | exact HB.out | apply below_alloc | apply pw_below_drewN | apply below_drew1 | refine below_set ?_ GE231.out) | exact HB.out)⟩
 ·rw [if_neg c4] at H
  have c4b0 : (t235 == 0) = false := beq_eq_false_iff_ne.mpr c4
  have c4b1 : (t235 != 0) = true := bne_iff_ne.mpr c4
  simp only [Option.some.injEq, Prod.mk.injEq] at H
  obtain ⟨rfl, rfl⟩ := H
  go_enter Try.func34, Try.ntmps34
  go_wp2_with (first | ((with_reducible refine gate_dst (N := 4) rfl ?_); refine box_event ?hg (N := 4) ?hd (cs := #[.int .i64 0, .slice none 0 0]) (t := 26) ?hr ?_; (case hd => rfl); (case hg => rfl); (case hr => first | (go_simp; done) | (go_simp; rfl)); intro gb231 hg w16 hbox hb; have n0_ := Aside0.mk (Kd.V_below (Kd.V_elderB b10_3 gb231 (Nat.le_of_eq hg.symm)) hb); have n1_ := Aside0.mk (Kd.V_below (Kd.V_elderB b10_4 gb231 (Nat.le_of_eq hg.symm)) hb); have n2_ := Aside0.mk (below_step b10_2 hb); have n3_ := Aside0.mk (hbox); have n4_ := Aside0.mk ((by rw [hg]; exact (below_size b10_2) : w.heap.size ≤ gb231)); have n5_ := Aside0.mk ((by rw [hg]; exact (below_size b10_2) : w.heap.size ≤ gb231)); clear HO0; clear HO1; clear HB; have HO0 := n0_; have HO1 := n1_; have HB := n2_; have BK231 := n3_; have GW231 := n4_; have GE231 := n5_; clear n0_ n1_ n2_ n3_ n4_ n5_; clear hb hbox hg) | ((with_reducible refine gate_dst (N := 10) rfl ?_); refine Kd.N_lit (Kd.slice 42 k42) _ 24 ?hg (N' := 10) ?hd (xs := ([l0, l1] : List (List (S42)))) (inner := [.slice A0 l0.length c0, .slice A1 l1.length c1]) (ok := (fun k_ => ((k_ < w.heap.size ∨ k_ < w.heap.size) ∨ w.heap.size ≤ k_) ∧ k_ ≠ gb231)) (okp := (fun k_ => ((k_ < w.heap.size ∨ k_ < w.heap.size) ∨ w.heap.size ≤ k_) ∧ k_ ≠ gb231)) ?hr ?hp (fun _ hk => hk) ((show ∀ k_, w16.heap.size ≤ k_ → (fun k_ => ((k_ < w.heap.size ∨ k_ < w.heap.size) ∨ w.heap.size ≤ k_) ∧ k_ ≠ gb231) k_ from fun k_ hk => ⟨(.inr (Nat.le_trans (below_size b10_0) hk)), Kd.freshB (g := gb231) (o := .cells #[.int .i64 0, .slice none 0 0] 26 (0, 0)) b10_1 k_ hk⟩) _ (Nat.le_refl _)) (Below.refl _ _) (Nat.le_refl _) (by simp) ?_; (case hd => rfl); (case hg => rfl); (case hr => first | (go_simp; done) | (go_simp; rfl)); (case hp => exact (Reps.one (show Kd.FK (Kd.slice 42 k42) _ _ l0 [.slice A0 l0.length c0] from (Kd.FK_slice_mk (Kd.V_reads' (Kd.V_mono (ok' := (fun k_ => ((k_ < w.heap.size ∨ k_ < w.heap.size) ∨ w.heap.size ≤ k_) ∧ k_ ≠ gb231)) (HO0.out) (fun k_ hk => ⟨hk.1, hk.2⟩))).2.1 (Kd.V_F (Kd.V_mono (ok' := (fun k_ => ((k_ < w.heap.size ∨ k_ < w.heap.size) ∨ w.heap.size ≤ k_) ∧ k_ ≠ gb231)) (HO0.out) (fun k_ hk => ⟨hk.1, hk.2⟩))))) (Reps.one (show Kd.FK (Kd.slice 42 k42) _ _ l1 [.slice A1 l1.length c1] from (Kd.FK_slice_mk (Kd.V_reads' (Kd.V_mono (ok' := (fun k_ => ((k_ < w.heap.size ∨ k_ < w.heap.size) ∨ w.heap.size ≤ k_) ∧ k_ ≠ gb231)) (HO1.out) (fun k_ hk => ⟨hk.1, hk.2⟩))).2.1 (Kd.V_F (Kd.V_mono (ok' := (fun k_ => ((k_ < w.heap.size ∨ k_ < w.heap.size) ∨ w.heap.size ≤ k_) ∧ k_ ≠ gb231)) (HO1.out) (fun k_ hk => ⟨hk.1, hk.2⟩))))) (Reps.none _ _)))); intro v233 w17 ho18 hb hg_ hnew_; clear hg_ hnew_; (first | rw [← Ny232.out] at ho18 | (simp only [Int.reduceToNat] at ho18; rw [← Ny232.out] at ho18)); have n0_ := Aside0.mk (Kd.V_elder' b10_3 (Kd.N_base ho18) hb); have n1_ := Aside0.mk (Kd.V_elder' b10_4 (Kd.N_base ho18) hb); have n2_ := Aside0.mk (Kd.N_lower ho18 (below_size b10_0)); have n3_ := Aside0.mk (blk_below (g := gb231) (o := .cells #[.int .i64 0, .slice none 0 0] 26 (0, 0)) b10_1 hb); have n4_ := Aside0.mk (below_step b10_0 hb); clear HO0; clear HO1; clear BK231; clear HB; have HO0 := n0_; have HO1 := n1_; have HO234 := n2_; have BK231 := n3_; have HB := n4_; clear n0_ n1_ n2_ n3_ n4_; clear hb ho18; obtain ⟨Ao19, co19, eo19⟩ := Kd.N_slice HO234.out; subst eo19) | ((with_reducible refine gate_callee (f := 79) rfl ?_); refine goesL_ (some 11) rfl rfl Try.func79 (by kernel_rfl) rfl #[.slice Ao19 y232.length co19] rfl b10_5 ?_; (with_reducible refine (impl_setsFault.calls k _ _ y232 t235 _ ?side1 ?side2 A3.out).mono ?_); (case side1 => exact (by repeat (first | exact (Kd.N_reads' HO234.out).2.2 | (with_reducible refine Kd.C_alloc ?_ _) | (with_reducible refine Kd.C_drewN ?_ _) | (with_reducible refine Kd.C_drew ?_)))); (case side2 => exact (Kd.N_reads' HO234.out).2.1); rintro e w20 ⟨rfl, hb⟩; refine ⟨_, rfl, ?_⟩; have n0_ := Aside0.mk (Kd.V_below b10_3 hb); have n1_ := Aside0.mk (Kd.V_below b10_4 hb); have n2_ := Aside0.mk (Kd.N_below b10_6 hb); have n3_ := Aside0.mk (blk_below (g := gb231) (o := .cells #[.int .i64 0, .slice none 0 0] 26 (0, 0)) b10_1 hb); have n4_ := Aside0.mk (below_step b10_0 hb); clear HO0; clear HO1; clear HO234; clear BK231; clear HB; have HO0 := n0_; have HO1 := n1_; have HO234 := n2_; have BK231 := n3_; have HB := n4_; clear n0_ n1_ n2_ n3_ n4_; (try clear hb); (try clear hb2); (try clear hk); (try clear hi); obtain ⟨hcz21_0, hcz21_1, hfz21_0, hfz21_1⟩ := cells2 BK231.out))
  refine bodyPost_ret (results_cell_row rfl _ _ gb231 26 #[.int .i64 t235, .slice none 0 0] (0, 0) _ rfl (by (with_reducible repeat (first | refine blk_drewN ?_ _ | refine blk_drew ?_ | refine blk_alloc ?_ _)); refine blk_put (cs := #[.int .i64 t235, .slice none 0 0]) ?_ 1 _ rfl; (with_reducible repeat (first | refine blk_drewN ?_ _ | refine blk_drew ?_ | refine blk_alloc ?_ _)); refine blk_put (cs := #[.int .i64 0, .slice none 0 0]) ?_ 0 _ rfl; (with_reducible repeat (first | refine blk_drewN ?_ _ | refine blk_drew ?_ | refine blk_alloc ?_ _)); exact BK231.out) Try.underlying26 rfl (by kernel_rfl)) rfl ?_
  exact ⟨_, by first | rfl | (simp [errW_none, errW_some] <;> rfl) | (simp [*, errW_none, errW_some] <;> rfl), by first | exact Kd.S_nil _ _ _ _ _ | exact Kd.N_nil _ _ _ _ _ | exact Kd.V_nil _ _ _ _ _ | exact Kd.Q_nil _ _ _ _ _ | exact Kd.R_nil _ _ _ _ _, by repeat (first | (with_reducible first | exact HB.out | apply below_alloc | apply pw_below_drewN | apply below_drew1 | refine below_set ?_ GE231.out) | exact HB.out)⟩


-- NOT PRINTED: function 7 (laws_FnExactAddSets)

end Go.Proofs.Ythgmicingbjemaa.PFnExactAddSets
