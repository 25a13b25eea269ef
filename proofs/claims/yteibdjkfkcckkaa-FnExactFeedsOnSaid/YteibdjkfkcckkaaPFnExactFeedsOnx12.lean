-- Written by fprint, a program of this session, out of Lean's own print of the translation. Lean checks it.
import Derived.Test.YteibdjkfkcckkaaPFnExactFeedsOnx0
import Derived.Test.YteibdjkfkcckkaaPFnExactFeedsOnx1
import Derived.Test.YteibdjkfkcckkaaPFnExactFeedsOnx2
import Derived.Test.YteibdjkfkcckkaaPFnExactFeedsOnx6
import Derived.Test.YteibdjkfkcckkaaPFnExactFeedsOnx9
import Derived.Test.YteibdjkfkcckkaaPFnExactFeedsOnx11
namespace Go.Proofs.Yteibdjkfkcckkaa.PFnExactFeedsOn
open Go.RowKit Go.Proofs.YteibdjkfkcckkaaW.PrintWords Go.Proofs.YteibdjkfkcckkaaW.PrintLast Go.Proofs.YteibdjkfkcckkaaW.PrintMore
attribute [local go_sem] max2_int min2_int max_two min_two max_three min_three max_four min_four   -- for this text's walks alone
set_option linter.unusedVariables false
set_option linter.unusedSimpArgs false

theorem b12_0 {p : Prop} (h : p := by repeat (first | (with_reducible first | exact HB.out | apply below_alloc | apply pw_below_drewN | apply below_drew1) | exact HB.out)) : p := h
theorem b12_1 {p : Prop} (h : p := by (try simp only [List.map_toArray, List.map_cons, List.map_nil]); first | done | rfl | (simp only [List.length_drop, List.length_take]; rfl)) : p := h
theorem b12_2 {p : Prop} (h : p := by (with_reducible repeat (first | apply Kd.S_alloc | apply Kd.S_drewN | apply Kd.S_drew)); exact HO270.out) : p := h
theorem b12_3 {p : Prop} (h : p := by repeat (first | exact (Kd.C_below HR0.out HB.out) | (with_reducible refine Kd.C_alloc ?_ _) | (with_reducible refine Kd.C_drewN ?_ _) | (with_reducible refine Kd.C_drew ?_))) : p := h
theorem b12_4 {p : Prop} (h : p := by repeat (first | exact HR0.out | (with_reducible refine Kd.C_alloc ?_ _) | (with_reducible refine Kd.C_drewN ?_ _) | (with_reducible refine Kd.C_drew ?_))) : p := h
theorem b12_5 {p : Prop} (h : p := by (with_reducible repeat (first | apply Kd.S_alloc | apply Kd.S_drewN | apply Kd.S_drew)); exact HO274.out) : p := h
theorem b12_6 {p : Prop} (h : p := by repeat (first | exact (Kd.S_reads' HO274.out).2.2 | (with_reducible refine Kd.C_alloc ?_ _) | (with_reducible refine Kd.C_drewN ?_ _) | (with_reducible refine Kd.C_drew ?_))) : p := h
/-! ### impl_feeds: function 49 -/
/-- slices.IndexFunc over whole numbers, whatever function value. -/
def indexI.l0 (p : Int → Option Bool) : Nat → List Int → Int → Int → Option (Int)
 | 0, _, _, _ => none
 | k + 1, x0, x7, x8 => if x8 < x7 then (if 0 ≤ x8 then (if x8 < (x0.length : Int) then ((p (rd x0 x8)).bind fun t202 => (if t202 = true then (some x8) else (indexI.l0 p k x0 x7 (wrap64 (x8 + 1))))) else (none)) else (none)) else (some (-1))
def indexI.f (p : Int → Option Bool) (k : Nat) (l0 : List Int) : Option (Int) := indexI.l0 p k l0 (l0.length : Int) 0
theorem indexI.mono_l (p q : Int → Option Bool) (hp : ∀ x, LeO (p x) (q x)) : ∀ k, (∀ y0 y1 y2, LeO (indexI.l0 p k y0 y1 y2) (indexI.l0 q (k + 1) y0 y1 y2))
 | 0 => fun _ _ _ r h => by simp [indexI.l0] at h
 | k + 1 => by
  have ih0 := indexI.mono_l p q hp k
  intro y0 y1 y2
  unfold indexI.l0
  repeat' first
  | (with_reducible exact ih0 _ _ _)
  | (with_reducible exact LeO.refl _)
  | (with_reducible exact LeO.none _)
  | (with_reducible exact hp _)
  | (with_reducible refine LeO.ite ?_ ?_)
  | (with_reducible refine LeO.bind ?_ (fun _ => ?_))
/-- What is asked of the function value: at every whole number, in every world in which all that lay in w lies unturned. -/
abbrev FnI (P : Program) (g : Nat) (cap : Array Value) (p : Int → Option Bool) (w : World) : Prop :=
 ∀ (W : World) (x : Int) (b : Bool), Below w.heap.size w W → p x = some b → Calls P g (#[.int .i64 x] ++ cap) W fun e w' => e = .returned (.bool b) ∧ Below W.heap.size W w'
set_option maxHeartbeats 8000000 in
set_option maxRecDepth 100000 in
theorem indexI.calls (g : Nat) (gfn : Func) (hgf : Try.prog.funcs[g]? = some gfn) (hgn : (gfn.name == "runtime.NumGoroutine") = false) (hgb : gfn.body.isSome = true) (cap : Array Value) (p : Int → Option Bool) (k : Nat) (A0 : Option Addr) (c0 : Nat) (l0 : List Int) (r : Int) (w : World) (hp : FnI Try.prog g cap p w) (hr0 : Kd.C (Kd.int .i64) w A0 l0.length l0) (hc0 : l0.length ≤ c0) (h : indexI.f p k l0 = some r) :
  Calls Try.prog 94 #[.slice A0 l0.length c0, .func (.func g) #[] cap] w fun e w' => e = .returned (.int .i64 r) ∧ Below w.heap.size w w' := by
 have HR0 := Aside0.mk hr0
 have HC0 := Aside0.mk hc0
 have HP := Aside0.mk hp
 have HGF := Aside0.mk hgf
 have HGN := Aside0.mk hgn
 have HGB := Aside0.mk hgb
 clear hr0 hc0 hp hgf hgn hgb
 have HB := Aside0.mk (Below.refl w.heap.size w)
 have H : (indexI.l0 p k l0 (l0.length : Int) 0) = some r := h
 clear h
 have H' := Aside0.mk H
 clear H
 go_enter Try.func94, Try.ntmps94
 go_wp2
 go_loopg [8] k (fun kq v8 w' => ∃ (x8_1 : Int), v8 = .int .i64 x8_1 ∧ Aside0 (indexI.l0 p kq l0 (l0.length : Int) x8_1 = some r) ∧ Aside0 (kq ≤ k) ∧ Aside0 (Below w.heap.size w w'))
 case atStart => exact ⟨(0), (by first | rfl | (simp; done) | (simp [*]; done)), H', ⟨Nat.le_refl _⟩, ⟨by repeat (first | (with_reducible first | exact HB.out | apply below_alloc | apply pw_below_drewN | apply below_drew1) | exact HB.out)⟩⟩
 case round =>
  clear H'
  obtain ⟨x8_1, rfl, HA, HK1, HB⟩ := hrel
  cases gk with
  | zero => exact absurd HA.out (by simp [indexI.l0])
  | succ k1 =>
   have H := HA.out
   clear HA
   simp only [indexI.l0] at H
   by_cases c3 : x8_1 < (l0.length : Int)
   ·rw [if_pos c3] at H
    have c3b0 : decide (x8_1 < (l0.length : Int)) = true := decide_eq_true c3
    clear c3
    by_cases c4 : 0 ≤ x8_1
    ·rw [if_pos c4] at H
     have c4b0 : decide (0 ≤ x8_1) = true := decide_eq_true c4
     clear c4
     rw [if_pos (of_decide_eq_true c3b0)] at H
     replace H := Option.bind_eq_some_iff.mp H
     obtain ⟨t202, A60, H⟩ := H
     replace H : (if t202 = true then (some x8_1) else (indexI.l0 p k1 l0 (l0.length : Int) (wrap64 (x8_1 + 1)))) = some r := H
     have A6 := Aside0.mk A60
     clear A60
     have p201 : 0 ≤ (x8_1 : Int) := of_decide_eq_true (by first | (with_reducible assumption) | assumption)
     have q201 : x8_1 < (l0.length : Int) := of_decide_eq_true (by first | (with_reducible assumption) | assumption)
     obtain ⟨ad201, e201, hx201_0⟩ := Kd.at_int HR0.out x8_1 p201 q201
     cases e201
     replace hx201_0 := (HB.out.cell (World.block_lt_of_cell? w _ hx201_0)).trans hx201_0
     replace p201 := eq_true p201
     replace q201 := eq_true q201
     by_cases c7 : t202 = true
     ·subst c7
      have H1 : (some x8_1) = some r := by rw [if_pos rfl] at H; exact H
      clear H
      obtain rfl := Option.some.inj H1
      clear H1
      go_wp2_with (first | ((refine gate_fnc_ (f := g) (cap := cap) (by with_reducible rfl) (by rfl) ?_); refine goesC_ (some 16) rfl rfl HGF.out HGN.out HGB.out #[.int .i64 (rd l0 x8_1)] rfl (by rfl) b12_1 ?_; (with_reducible refine (HP.out _ (rd l0 x8_1) true HB.out A6.out).mono ?_); rintro e w8 ⟨rfl, hb⟩; refine ⟨_, rfl, ?_⟩; have n0_ := Aside0.mk (below_step HB.out hb); clear HB; have HB := n0_; clear n0_ hb))
      go_ret
      exact ⟨by first | rfl | (simp [*]; done), HB.out⟩
     ·replace c7 := Bool.eq_false_iff.mpr c7
      subst c7
      have H1 : (indexI.l0 p k1 l0 (l0.length : Int) (wrap64 (x8_1 + 1))) = some r := by rw [if_neg (show ¬ (false = true) by decide)] at H; exact H
      clear H
      have H' := Aside0.mk H1
      clear H1
      go_wp2_with (first | ((refine gate_fnc_ (f := g) (cap := cap) (by with_reducible rfl) (by rfl) ?_); refine goesC_ (some 16) rfl rfl HGF.out HGN.out HGB.out #[.int .i64 (rd l0 x8_1)] rfl (by rfl) b12_1 ?_; (with_reducible refine (HP.out _ (rd l0 x8_1) false HB.out A6.out).mono ?_); rintro e w8 ⟨rfl, hb⟩; refine ⟨_, rfl, ?_⟩; have n0_ := Aside0.mk (below_step HB.out hb); clear HB; have HB := n0_; clear n0_ hb))
      go_roundg k1
      case measure => have := HK1.out; omega
      case rel => exact ⟨(wrap64 (x8_1 + 1)), (by first | rfl | (simp; done) | (simp [*]; done)), H', ⟨by have := HK1.out; omega⟩, HB⟩
    ·rw [if_neg c4] at H
     exact absurd H (by simp)
   ·rw [if_neg c3] at H
    have c3b0 : decide (x8_1 < (l0.length : Int)) = false := decide_eq_false c3
    clear c3
    obtain rfl := Option.some.inj H
    go_wp2
    go_ret
    exact ⟨by first | rfl | (simp [*]; done), HB.out⟩
def containsI.f (p : Int → Option Bool) (k : Nat) (l0 : List Int) : Option (Bool) := (indexI.f p k l0).bind fun t => some (decide (t ≥ 0))
set_option maxHeartbeats 8000000 in
set_option maxRecDepth 100000 in
theorem containsI.calls (g : Nat) (gfn : Func) (hgf : Try.prog.funcs[g]? = some gfn) (hgn : (gfn.name == "runtime.NumGoroutine") = false) (hgb : gfn.body.isSome = true) (cap : Array Value) (p : Int → Option Bool) (k : Nat) (A0 : Option Addr) (c0 : Nat) (l0 : List Int) (r : Bool) (w : World) (hp : FnI Try.prog g cap p w) (hr0 : Kd.C (Kd.int .i64) w A0 l0.length l0) (hc0 : l0.length ≤ c0) (h : containsI.f p k l0 = some r) :
  Calls Try.prog 81 #[.slice A0 l0.length c0, .func (.func g) #[] cap] w fun e w' => e = .returned (.bool r) ∧ Below w.heap.size w w' := by
 obtain ⟨t, ht, hr⟩ := Option.bind_eq_some_iff.mp h
 obtain rfl := Option.some.inj hr
 have HR0 := Aside0.mk hr0
 have HC0 := Aside0.mk hc0
 have HP := Aside0.mk hp
 have HT := Aside0.mk ht
 have HGF := Aside0.mk hgf
 have HGN := Aside0.mk hgn
 have HGB := Aside0.mk hgb
 clear hr0 hc0 hp hgf hgn hgb ht hr h
 go_enter Try.func81, Try.ntmps81
 go_wp2_with (first | ((with_reducible refine gate_callee (f := 94) rfl ?_); refine goesL_ (some 7) rfl rfl Try.func94 (by kernel_rfl) rfl #[.slice A0 l0.length c0, .func (.func g) #[] cap] rfl b12_1 ?_; (with_reducible refine (indexI.calls g gfn HGF.out HGN.out HGB.out cap p k A0 c0 l0 t _ HP.out HR0.out HC0.out HT.out).mono ?_); rintro e w2 ⟨rfl, hb⟩; refine ⟨_, rfl, ?_⟩; have HB := Aside0.mk hb; clear hb))
 go_ret
 exact ⟨by first | rfl | (simp [*]; done), HB.out⟩
def impl_feeds.f : Nat → List (S58) → Int → Int → Option Bool
 | 0, _, _, _ => none
 | k + 1, l0, a1, a2 => if 0 ≤ a2 then (if a2 < (l0.length : Int) then ((impl_Node_reads.f ((rd_T58 l0 a2).f0) ((rd_T58 l0 a2).f1) ((rd_T58 l0 a2).f2) ((rd_T58 l0 a2).f3) ((rd_T58 l0 a2).f4) ((rd_T58 l0 a2).f5) ((rd_T58 l0 a2).f6)).bind fun xs => containsI.f (fun x => if x = a1 then some true else impl_feeds.f k l0 a1 x) k xs) else (none)) else (none)
theorem impl_feeds.mono_ : ∀ k a0 a1 a2, LeO (impl_feeds.f k a0 a1 a2) (impl_feeds.f (k + 1) a0 a1 a2)
 | 0 => fun _ _ _ r h => by simp [impl_feeds.f] at h
 | k + 1 => by
  intro a0 a1 a2
  have ih := impl_feeds.mono_ k
  rw [impl_feeds.f, impl_feeds.f]
  refine LeO.ite (LeO.ite (LeO.bind (LeO.refl _) fun xs => ?_) (LeO.refl _)) (LeO.refl _)
  unfold containsI.f indexI.f
  exact LeO.bind (indexI.mono_l _ _ (fun x => LeO.ite (LeO.refl _) (ih _ _ _)) k _ _ _) (fun _ => LeO.refl _)
theorem impl_feeds.mono : ∀ a0 a1 a2 k, LeO (impl_feeds.f k a0 a1 a2) (impl_feeds.f (k + 1) a0 a1 a2) := fun a0 a1 a2 k => impl_feeds.mono_ k a0 a1 a2
abbrev impl_feeds.Ih (k : Nat) : Prop := ∀ (A0 : Option Addr) (c0 : Nat) (l0 : List (S58)) (a1 : Int) (a2 : Int) (r : Bool) (w : World) (_hr0 : Kd.C k58 w A0 l0.length l0) (_hc0 : l0.length ≤ c0) (_h : impl_feeds.f k l0 a1 a2 = some r), Calls Try.prog 49 #[.slice A0 l0.length c0, .int .i64 a1, .int .i64 a2] w fun e w' => e = .returned (.bool r) ∧ Below w.heap.size w w'
set_option maxHeartbeats 8000000 in
set_option maxRecDepth 100000 in
theorem impl_feeds1.calls (k : Nat) (ih : impl_feeds.Ih k) (A0 : Option Addr) (c0 : Nat) (l0 : List (S58)) (a1 : Int) (x : Int) (g1 g2 : Nat) (b : Bool) (w : World) (hr : Kd.C k58 w A0 l0.length l0) (hc : l0.length ≤ c0) (hc1 : w.cell? ⟨g1, 0, none⟩ = some (.int .i64 a1)) (hc2 : w.cell? ⟨g2, 0, none⟩ = some (.slice A0 l0.length c0)) (h : (if x = a1 then some true else impl_feeds.f k l0 a1 x) = some b) :
  Calls Try.prog 82 #[.int .i64 x, .pointer (some ⟨g1, 0, none⟩), .pointer (some ⟨g2, 0, none⟩)] w fun e w' => e = .returned (.bool b) ∧ Below w.heap.size w w' := by
 have HR := Aside0.mk hr
 have HC := Aside0.mk hc
 have IH := Aside0.mk ih
 clear hr hc ih
 have HB := Aside0.mk (Below.refl w.heap.size w)
 by_cases c : x = a1
 ·rw [if_pos c] at h
  obtain rfl := Option.some.inj h
  have cb0 : (x == a1) = true := beq_iff_eq.mpr c
  have cb1 : (x != a1) = false := bne_eq_false_iff_eq.mpr c
  clear c h
  go_enter Try.func82, Try.ntmps82
  go_wp2
  go_ret
  exact ⟨by first | rfl | (simp [*]; done), by repeat (first | (with_reducible first | exact HB.out | apply below_alloc | apply pw_below_drewN | apply below_drew1) | exact HB.out)⟩
 ·rw [if_neg c] at h
  have cb0 : (x == a1) = false := beq_eq_false_iff_ne.mpr c
  have cb1 : (x != a1) = true := bne_iff_ne.mpr c
  have A6 := Aside0.mk h
  clear c h
  go_enter Try.func82, Try.ntmps82
  go_wp2_with (first | (go_at_call 49; (with_reducible refine (IH.out A0 c0 l0 a1 x b _ ?side1 HC.out A6.out).mono ?_); (case side1 => exact (by repeat (first | exact HR.out | (with_reducible refine Kd.C_alloc ?_ _) | (with_reducible refine Kd.C_drewN ?_ _) | (with_reducible refine Kd.C_drew ?_)))); rintro e w2 ⟨rfl, hb⟩; have n0_ := Aside0.mk (below_step b12_0 hb); clear HB; have HB := n0_; clear n0_ hb))
  go_ret
  exact ⟨by first | rfl | (simp [*]; done), by repeat (first | (with_reducible first | exact HB.out | apply below_alloc | apply pw_below_drewN | apply below_drew1) | exact HB.out)⟩
set_option maxHeartbeats 8000000 in
set_option maxRecDepth 100000 in
theorem impl_feeds.calls (k : Nat) : ∀ (A0 : Option Addr) (c0 : Nat) (l0 : List (S58)) (a1 : Int) (a2 : Int) (r : Bool) (w : World) (hr0 : Kd.C k58 w A0 l0.length l0) (hc0 : l0.length ≤ c0) (h : impl_feeds.f k l0 a1 a2 = some r),
  Calls Try.prog 49 #[.slice A0 l0.length c0, .int .i64 a1, .int .i64 a2] w fun e w' => e = .returned (.bool r) ∧ Below w.heap.size w w' := by
 induction k with
 | zero => intro A0 c0 l0 a1 a2 r w hr0 hc0 h; exact absurd h (by simp [impl_feeds.f])
 | succ k ih =>
  intro A0 c0 l0 a1 a2 r w hr0 hc0 h
  have IH := Aside0.mk (show impl_feeds.Ih k from ih)
  clear ih
  have hu := Try.underlying58
  have HR0 := Aside0.mk hr0
  have HC0 := Aside0.mk hc0
  clear hr0 hc0
  rw [impl_feeds.f] at h
  by_cases c4 : 0 ≤ a2
  ·rw [if_pos c4] at h
   have c4b0 : decide (0 ≤ a2) = true := decide_eq_true c4
   by_cases c5 : a2 < (l0.length : Int)
   ·rw [if_pos c5] at h
    have c5b0 : decide (a2 < (l0.length : Int)) = true := decide_eq_true c5
    obtain ⟨xs, h1, h2⟩ := Option.bind_eq_some_iff.mp h
    have H1 := Aside0.mk h1
    have H2 := Aside0.mk h2
    clear h h1 h2
    obtain ⟨ad, A6, c6, e_, hx0, hx1, hx2, hx3, hx4, hx5, hx6, hl6, hi6⟩ := at_T58 HR0.out a2 c4 c5
    cases e_
    have HI6 := Aside0.mk hi6
    have HL6 := Aside0.mk hl6
    clear hi6 hl6
    replace c4 := eq_true c4
    replace c5 := eq_true c5
    go_enter Try.func49, Try.ntmps49
    go_wp2_with (first | ((with_reducible refine gate_dst (N := 3) rfl ?_); refine box_event ?hg (N := 3) ?hd (cs := #[.slice (some ad) l0.length c0]) (t := 25) ?hr ?_; (case hd => rfl); (case hg => rfl); (case hr => first | (go_simp; done) | (go_simp; rfl)); intro gb3 hg w5 hbox hb; have HB := Aside0.mk hb; have HC3 := Aside0.mk (show w5.cell? ⟨gb3, 0, none⟩ = some (.slice (some ad) l0.length c0) from (blk_cell hbox 0).trans rfl); clear hbox hb hg) | ((with_reducible refine gate_dst (N := 4) rfl ?_); refine box_event ?hg (N := 4) ?hd (cs := #[.int .i64 a1]) (t := 2) ?hr ?_; (case hd => rfl); (case hg => rfl); (case hr => first | (go_simp; done) | (go_simp; rfl)); intro gb4 hg w6 hbox hb; have n0_ := Aside0.mk (below_step HB.out hb); clear HB; have HB := n0_; clear n0_; have hcz3 := pw_cell_below hb HC3.out; have HC4 := Aside0.mk (show w6.cell? ⟨gb4, 0, none⟩ = some (.int .i64 a1) from (blk_cell hbox 0).trans rfl); replace hx0 := (HB.out.cell (World.block_lt_of_cell? w _ hx0)).trans hx0; replace hx1 := (HB.out.cell (World.block_lt_of_cell? w _ hx1)).trans hx1; replace hx2 := (HB.out.cell (World.block_lt_of_cell? w _ hx2)).trans hx2; replace hx3 := (HB.out.cell (World.block_lt_of_cell? w _ hx3)).trans hx3; replace hx4 := (HB.out.cell (World.block_lt_of_cell? w _ hx4)).trans hx4; replace hx5 := (HB.out.cell (World.block_lt_of_cell? w _ hx5)).trans hx5; replace hx6 := (HB.out.cell (World.block_lt_of_cell? w _ hx6)).trans hx6; clear HC3 hbox hb hg) | ((with_reducible refine gate_callee (f := 77) rfl ?_); refine goesL_ (some 11) rfl rfl Try.func77 (by kernel_rfl) rfl #[.agg #[.int .i64 ((rd_T58 l0 a2).f0), .int .i64 ((rd_T58 l0 a2).f1), .int .i64 ((rd_T58 l0 a2).f2), .int .i64 ((rd_T58 l0 a2).f3), .int .i64 ((rd_T58 l0 a2).f4), .int .i64 ((rd_T58 l0 a2).f5), .slice A6 ((rd_T58 l0 a2).f6).length c6]] rfl b12_1 ?_; (with_reducible refine (impl_Node_reads.calls ((rd_T58 l0 a2).f0) ((rd_T58 l0 a2).f1) ((rd_T58 l0 a2).f2) ((rd_T58 l0 a2).f3) ((rd_T58 l0 a2).f4) ((rd_T58 l0 a2).f5) _ _ ((rd_T58 l0 a2).f6) xs _ (Kd.C_below HI6.out HB.out) HL6.out H1.out).mono ?_); rintro e w7 ⟨v, rfl, ho, hb⟩; obtain ⟨Ao, co, eo⟩ := Kd.R_slice ho; subst eo; refine ⟨_, rfl, ?_⟩; have HO := Aside0.mk ho; have n0_ := Aside0.mk (below_step HB.out hb); clear HB; have HB := n0_; clear n0_; have HC3 := Aside0.mk (pw_cell_below hb hcz3); have n1_ := Aside0.mk (pw_cell_below hb HC4.out); clear HC4; have HC4 := n1_; clear n1_ hcz3 hb ho) | ((with_reducible refine gate_callee (f := 81) rfl ?_); refine goesL_ (some 13) rfl rfl Try.func81 (by kernel_rfl) rfl #[.slice Ao xs.length co, .func (.func 82) #[] #[.pointer (some ⟨gb4, 0, none⟩), .pointer (some ⟨gb3, 0, none⟩)]] rfl b12_1 ?_; (with_reducible refine (containsI.calls 82 _ Try.func82 (by kernel_rfl) rfl #[.pointer (some ⟨gb4, 0, none⟩), .pointer (some ⟨gb3, 0, none⟩)] (fun x => if x = a1 then some true else impl_feeds.f k l0 a1 x) k Ao co xs r _ ?sidep (Kd.R_reads' HO.out).2.2 (Kd.R_reads' HO.out).2.1 H2.out).mono ?_); (case sidep => exact (fun W_ x_ b_ hb_ hp_ => impl_feeds1.calls k IH.out (some ad) c0 l0 a1 x_ gb4 gb3 b_ W_ (Kd.C_below HR0.out (below_step HB.out hb_)) HC0.out (pw_cell_below hb_ HC4.out) (pw_cell_below hb_ HC3.out) hp_)); rintro e w8 ⟨rfl, hb⟩; refine ⟨_, rfl, ?_⟩; have n0_ := Aside0.mk (below_step HB.out hb); clear HB; have HB := n0_; clear n0_ hb))
    go_ret
    exact ⟨by first | rfl | (simp [*]; done), HB.out⟩
   ·rw [if_neg c5] at h
    exact absurd h (by simp)
  ·rw [if_neg c4] at h
   exact absurd h (by simp)

/-! ### impl_FeedsOn: function 20 -/
def impl_FeedsOn.f (k : Nat) (l0 : List (S58)) (a1 : Int) (a2 : Int) : Option (Bool) := (impl_PlanFault.f k l0).bind fun t261 => (if t261 = 0 then ((impl_Node.f l0).bind fun t262 => ((impl_in.f a1 0 (wrap64 (t262 - 1))).bind fun t263 => (if t263 = true then ((impl_Node.f l0).bind fun t264 => ((impl_in.f a2 0 (wrap64 (t264 - 1))).bind fun t265 => (if t265 = true then ((impl_feeds.f k l0 a1 a2).bind fun t266 => (some t266)) else (some false)))) else (some false)))) else (some false))
theorem impl_FeedsOn.mono : ∀ a0 a1 a2 k, LeO (impl_FeedsOn.f k a0 a1 a2) (impl_FeedsOn.f (k + 1) a0 a1 a2) := by
 intro a0 a1 a2 k
 unfold impl_FeedsOn.f
 repeat' first
   | (with_reducible exact impl_PlanFault.mono _ _)
   | (with_reducible exact impl_feeds.mono _ _ _ _)
   | (with_reducible exact LeO.refl _)
   | (with_reducible exact LeO.none _)
   | (with_reducible refine LeO.ite ?_ ?_)
   | (with_reducible refine LeO.bind ?_ (fun _ => ?_))
   | exact impl_PlanFault.mono _ _
   | exact impl_feeds.mono _ _ _ _
   | exact LeO.none _
   | refine LeO.ite ?_ ?_
   | refine LeO.bind ?_ (fun _ => ?_)
set_option maxHeartbeats 8000000 in
set_option maxRecDepth 100000 in
theorem impl_FeedsOn.calls (k : Nat) (A0 : Option Addr) (c0 : Nat) (l0 : List (S58)) (a1 : Int) (a2 : Int) (r : Bool) (w : World) (hr0 : Kd.C k58 w A0 l0.length l0) (hc0 : l0.length ≤ c0) (h : impl_FeedsOn.f k l0 a1 a2 = some r) :
  Calls Try.prog 20 #[.slice A0 l0.length c0, .int .i64 a1, .int .i64 a2] w fun e w' => e = .returned (.bool r) ∧ Below w.heap.size w w' := by
 have HR0 := Aside0.mk hr0
 have HC0 := Aside0.mk hc0
 clear hr0 hc0
 have HB := Aside0.mk (Below.refl w.heap.size w)
 have H : ((impl_PlanFault.f k l0).bind fun t261 => (if t261 = 0 then ((impl_Node.f l0).bind fun t262 => ((impl_in.f a1 0 (wrap64 (t262 - 1))).bind fun t263 => (if t263 = true then ((impl_Node.f l0).bind fun t264 => ((impl_in.f a2 0 (wrap64 (t264 - 1))).bind fun t265 => (if t265 = true then ((impl_feeds.f k l0 a1 a2).bind fun t266 => (some t266)) else (some false)))) else (some false)))) else (some false))) = some r := h
 clear h
 replace H := Option.bind_eq_some_iff.mp H
 obtain ⟨t261, A40, H⟩ := H
 replace H : (if t261 = 0 then ((impl_Node.f l0).bind fun t262 => ((impl_in.f a1 0 (wrap64 (t262 - 1))).bind fun t263 => (if t263 = true then ((impl_Node.f l0).bind fun t264 => ((impl_in.f a2 0 (wrap64 (t264 - 1))).bind fun t265 => (if t265 = true then ((impl_feeds.f k l0 a1 a2).bind fun t266 => (some t266)) else (some false)))) else (some false)))) else (some false)) = some r := H
 have A4 := Aside0.mk A40
 clear A40
 by_cases c5 : t261 = 0
 ·rw [if_pos c5] at H
  have c5b0 : (t261 == 0) = true := beq_iff_eq.mpr c5
  have c5b1 : (t261 != 0) = false := bne_eq_false_iff_eq.mpr c5
  clear c5
  replace H := Option.bind_eq_some_iff.mp H
  obtain ⟨t262, A60, H⟩ := H
  replace H : ((impl_in.f a1 0 (wrap64 (t262 - 1))).bind fun t263 => (if t263 = true then ((impl_Node.f l0).bind fun t264 => ((impl_in.f a2 0 (wrap64 (t264 - 1))).bind fun t265 => (if t265 = true then ((impl_feeds.f k l0 a1 a2).bind fun t266 => (some t266)) else (some false)))) else (some false))) = some r := H
  have A6 := Aside0.mk A60
  clear A60
  replace H := Option.bind_eq_some_iff.mp H
  obtain ⟨t263, A70, H⟩ := H
  replace H : (if t263 = true then ((impl_Node.f l0).bind fun t264 => ((impl_in.f a2 0 (wrap64 (t264 - 1))).bind fun t265 => (if t265 = true then ((impl_feeds.f k l0 a1 a2).bind fun t266 => (some t266)) else (some false)))) else (some false)) = some r := H
  have A7 := Aside0.mk A70
  clear A70
  by_cases c8 : t263 = true
  ·subst c8
   have H1 : ((impl_Node.f l0).bind fun t264 => ((impl_in.f a2 0 (wrap64 (t264 - 1))).bind fun t265 => (if t265 = true then ((impl_feeds.f k l0 a1 a2).bind fun t266 => (some t266)) else (some false)))) = some r := by rw [if_pos rfl] at H; exact H
   clear H
   have H := H1
   clear H1
   replace H := Option.bind_eq_some_iff.mp H
   obtain ⟨t264, A90, H⟩ := H
   replace H : ((impl_in.f a2 0 (wrap64 (t264 - 1))).bind fun t265 => (if t265 = true then ((impl_feeds.f k l0 a1 a2).bind fun t266 => (some t266)) else (some false))) = some r := H
   have A9 := Aside0.mk A90
   cases Option.some.inj (A6.out.symm.trans A9.out)
   clear A90
   replace H := Option.bind_eq_some_iff.mp H
   obtain ⟨t265, A100, H⟩ := H
   replace H : (if t265 = true then ((impl_feeds.f k l0 a1 a2).bind fun t266 => (some t266)) else (some false)) = some r := H
   have A10 := Aside0.mk A100
   clear A100
   by_cases c11 : t265 = true
   ·subst c11
    have H1 : ((impl_feeds.f k l0 a1 a2).bind fun t266 => (some t266)) = some r := by rw [if_pos rfl] at H; exact H
    clear H
    have H := H1
    clear H1
    replace H := Option.bind_eq_some_iff.mp H
    obtain ⟨t266, A120, H⟩ := H
    replace H : (some t266) = some r := H
    have A12 := Aside0.mk A120
    clear A120
    obtain rfl := Option.some.inj H
    go_enter Try.func20, Try.ntmps20
    go_wp2_with (first | ((with_reducible refine gate_callee (f := 14) rfl ?_); refine goesL_ (some 8) rfl rfl Try.func14 (by kernel_rfl) rfl #[.slice A0 l0.length c0] rfl b12_1 ?_; (with_reducible refine (impl_PlanFault.calls k _ _ l0 t261 _ ?side1 ?side2 A4.out).mono ?_); (case side1 => exact b12_4); (case side2 => exact HC0.out); rintro e w13 ⟨rfl, hb⟩; refine ⟨_, rfl, ?_⟩; have n0_ := Aside0.mk (below_step b12_0 hb); clear HB; have HB := n0_; clear n0_; (try clear hb); (try clear hb2); (try clear hk); (try clear hi)) | (go_at_call 48; (with_reducible refine (impl_Node.calls _ _ l0 t262 _ ?side1 ?side2 A6.out).mono ?_); (case side1 => exact b12_3); (case side2 => exact HC0.out); rintro e w' ⟨rfl, ⟨nd, rfl⟩⟩) | (go_at_call 47; (with_reducible refine (impl_in.calls a1 0 (wrap64 (t262 - 1)) true _ A7.out).mono ?_); rintro e w' ⟨rfl, ⟨nd, rfl⟩⟩) | (go_at_call 48; (with_reducible refine (impl_Node.calls _ _ l0 t262 _ ?side1 ?side2 A9.out).mono ?_); (case side1 => exact (by repeat (first | exact (Kd.C_below HR0.out b12_0) | (with_reducible refine Kd.C_alloc ?_ _) | (with_reducible refine Kd.C_drewN ?_ _) | (with_reducible refine Kd.C_drew ?_)))); (case side2 => exact HC0.out); rintro e w' ⟨rfl, ⟨nd, rfl⟩⟩) | (go_at_call 47; (with_reducible refine (impl_in.calls a2 0 (wrap64 (t262 - 1)) true _ A10.out).mono ?_); rintro e w' ⟨rfl, ⟨nd, rfl⟩⟩) | (go_at_call 49; (with_reducible refine (impl_feeds.calls k _ _ l0 a1 a2 t266 _ ?side1 ?side2 A12.out).mono ?_); (case side1 => exact (by repeat (first | exact (Kd.C_below HR0.out b12_0) | (with_reducible refine Kd.C_alloc ?_ _) | (with_reducible refine Kd.C_drewN ?_ _) | (with_reducible refine Kd.C_drew ?_)))); (case side2 => exact HC0.out); rintro e w14 ⟨rfl, hb⟩; have n0_ := Aside0.mk (below_step b12_0 hb); clear HB; have HB := n0_; clear n0_; (try clear hb); (try clear hb2); (try clear hk); (try clear hi)))
    go_ret
    exact ⟨by first | rfl | (simp [errW_none, errW_some] <;> rfl) | (simp [*, errW_none, errW_some] <;> rfl), by repeat (first | (with_reducible first | exact HB.out | apply below_alloc | apply pw_below_drewN | apply below_drew1) | exact HB.out)⟩
   ·replace c11 := Bool.eq_false_iff.mpr c11
    subst c11
    have H1 : (some false) = some r := by rw [if_neg (show ¬ (false = true) by decide)] at H; exact H
    clear H
    have H := H1
    clear H1
    obtain rfl := Option.some.inj H
    go_enter Try.func20, Try.ntmps20
    go_wp2_with (first | ((with_reducible refine gate_callee (f := 14) rfl ?_); refine goesL_ (some 8) rfl rfl Try.func14 (by kernel_rfl) rfl #[.slice A0 l0.length c0] rfl b12_1 ?_; (with_reducible refine (impl_PlanFault.calls k _ _ l0 t261 _ ?side1 ?side2 A4.out).mono ?_); (case side1 => exact b12_4); (case side2 => exact HC0.out); rintro e w15 ⟨rfl, hb⟩; refine ⟨_, rfl, ?_⟩; have n0_ := Aside0.mk (below_step b12_0 hb); clear HB; have HB := n0_; clear n0_; (try clear hb); (try clear hb2); (try clear hk); (try clear hi)) | (go_at_call 48; (with_reducible refine (impl_Node.calls _ _ l0 t262 _ ?side1 ?side2 A6.out).mono ?_); (case side1 => exact b12_3); (case side2 => exact HC0.out); rintro e w' ⟨rfl, ⟨nd, rfl⟩⟩) | (go_at_call 47; (with_reducible refine (impl_in.calls a1 0 (wrap64 (t262 - 1)) true _ A7.out).mono ?_); rintro e w' ⟨rfl, ⟨nd, rfl⟩⟩) | (go_at_call 48; (with_reducible refine (impl_Node.calls _ _ l0 t262 _ ?side1 ?side2 A9.out).mono ?_); (case side1 => exact (by repeat (first | exact (Kd.C_below HR0.out b12_0) | (with_reducible refine Kd.C_alloc ?_ _) | (with_reducible refine Kd.C_drewN ?_ _) | (with_reducible refine Kd.C_drew ?_)))); (case side2 => exact HC0.out); rintro e w' ⟨rfl, ⟨nd, rfl⟩⟩) | (go_at_call 47; (with_reducible refine (impl_in.calls a2 0 (wrap64 (t262 - 1)) false _ A10.out).mono ?_); rintro e w' ⟨rfl, ⟨nd, rfl⟩⟩))
    go_ret
    exact ⟨by first | rfl | (simp [errW_none, errW_some] <;> rfl) | (simp [*, errW_none, errW_some] <;> rfl), by repeat (first | (with_reducible first | exact HB.out | apply below_alloc | apply pw_below_drewN | apply below_drew1) | exact HB.out)⟩
  ·replace c8 := Bool.eq_false_iff.mpr c8
   subst c8
   have H1 : (some false) = some r := by rw [if_neg (show ¬ (false = true) by decide)] at H; exact H
   clear H
   have H := H1
   clear H1
   obtain rfl := Option.some.inj H
   go_enter Try.func20, Try.ntmps20
   go_wp2_with (first | ((with_reducible refine gate_callee (f := 14) rfl ?_); refine goesL_ (some 8) rfl rfl Try.func14 (by kernel_rfl) rfl #[.slice A0 l0.length c0] rfl b12_1 ?_; (with_reducible refine (impl_PlanFault.calls k _ _ l0 t261 _ ?side1 ?side2 A4.out).mono ?_); (case side1 => exact b12_4); (case side2 => exact HC0.out); rintro e w16 ⟨rfl, hb⟩; refine ⟨_, rfl, ?_⟩; have n0_ := Aside0.mk (below_step b12_0 hb); clear HB; have HB := n0_; clear n0_; (try clear hb); (try clear hb2); (try clear hk); (try clear hi)) | (go_at_call 48; (with_reducible refine (impl_Node.calls _ _ l0 t262 _ ?side1 ?side2 A6.out).mono ?_); (case side1 => exact b12_3); (case side2 => exact HC0.out); rintro e w' ⟨rfl, ⟨nd, rfl⟩⟩) | (go_at_call 47; (with_reducible refine (impl_in.calls a1 0 (wrap64 (t262 - 1)) false _ A7.out).mono ?_); rintro e w' ⟨rfl, ⟨nd, rfl⟩⟩))
   go_ret
   exact ⟨by first | rfl | (simp [errW_none, errW_some] <;> rfl) | (simp [*, errW_none, errW_some] <;> rfl), by repeat (first | (with_reducible first | exact HB.out | apply below_alloc | apply pw_below_drewN | apply below_drew1) | exact HB.out)⟩
 ·rw [if_neg c5] at H
  have c5b0 : (t261 == 0) = false := beq_eq_false_iff_ne.mpr c5
  have c5b1 : (t261 != 0) = true := bne_iff_ne.mpr c5
  obtain rfl := Option.some.inj H
  go_enter Try.func20, Try.ntmps20
  go_wp2_with (first | ((with_reducible refine gate_callee (f := 14) rfl ?_); refine goesL_ (some 8) rfl rfl Try.func14 (by kernel_rfl) rfl #[.slice A0 l0.length c0] rfl b12_1 ?_; (with_reducible refine (impl_PlanFault.calls k _ _ l0 t261 _ ?side1 ?side2 A4.out).mono ?_); (case side1 => exact b12_4); (case side2 => exact HC0.out); rintro e w17 ⟨rfl, hb⟩; refine ⟨_, rfl, ?_⟩; have n0_ := Aside0.mk (below_step b12_0 hb); clear HB; have HB := n0_; clear n0_; (try clear hb); (try clear hb2); (try clear hk); (try clear hi)))
  go_ret
  exact ⟨by first | rfl | (simp [errW_none, errW_some] <;> rfl) | (simp [*, errW_none, errW_some] <;> rfl), by repeat (first | (with_reducible first | exact HB.out | apply below_alloc | apply pw_below_drewN | apply below_drew1) | exact HB.out)⟩

/-! ### laws_FnExactFeedsOn: function 5 -/
def laws_FnExactFeedsOn.f (k : Nat) (l0 : List (S56)) (a1 : Int) (a2 : Int) : Option (Bool) := (laws_szNodeS.f k l0 1048576).bind fun t267 => (if t267 < 0 then (some true) else ((laws_toNodeS.f k l0).bind fun t268 => ((spec_FeedsOn.f k t268 a1 a2).bind fun t271 => ((laws_toNodeS.f k l0).bind fun t272 => ((impl_FeedsOn.f k t272 a1 a2).bind fun t275 => (if (t275 != t271) = true then (some false) else ((laws_toNodeS.f k l0).bind fun t276 => ((laws_eqNodeS.f k t272 t276).bind fun t279 => (if t279 = true then (some true) else (some false))))))))))
theorem laws_FnExactFeedsOn.mono : ∀ a0 a1 a2 k, LeO (laws_FnExactFeedsOn.f k a0 a1 a2) (laws_FnExactFeedsOn.f (k + 1) a0 a1 a2) := by
 intro a0 a1 a2 k
 unfold laws_FnExactFeedsOn.f
 repeat' first
   | (with_reducible exact impl_FeedsOn.mono _ _ _ _)
   | (with_reducible exact laws_eqNodeS.mono _ _ _)
   | (with_reducible exact laws_szNodeS.mono _ _ _)
   | (with_reducible exact laws_toNodeS.mono _ _)
   | (with_reducible exact spec_FeedsOn.mono _ _ _ _)
   | (with_reducible exact LeO.refl _)
   | (with_reducible exact LeO.none _)
   | (with_reducible refine LeO.ite ?_ ?_)
   | (with_reducible refine LeO.bind ?_ (fun _ => ?_))
   | exact impl_FeedsOn.mono _ _ _ _
   | exact laws_eqNodeS.mono _ _ _
   | exact laws_szNodeS.mono _ _ _
   | exact laws_toNodeS.mono _ _
   | exact spec_FeedsOn.mono _ _ _ _
   | exact LeO.none _
   | refine LeO.ite ?_ ?_
   | refine LeO.bind ?_ (fun _ => ?_)
set_option maxHeartbeats 8000000 in
set_option maxRecDepth 100000 in
theorem laws_FnExactFeedsOn.calls (k : Nat) (A0 : Option Addr) (c0 : Nat) (l0 : List (S56)) (a1 : Int) (a2 : Int) (r : Bool) (w : World) (hr0 : Kd.C k56 w A0 l0.length l0) (hc0 : l0.length ≤ c0) (h : laws_FnExactFeedsOn.f k l0 a1 a2 = some r) :
  Calls Try.prog 5 #[.slice A0 l0.length c0, .int .i64 a1, .int .i64 a2] w fun e w' => e = .returned (.bool r) ∧ Below w.heap.size w w' := by
 have HR0 := Aside0.mk hr0
 have HC0 := Aside0.mk hc0
 clear hr0 hc0
 have HB := Aside0.mk (Below.refl w.heap.size w)
 have H : ((laws_szNodeS.f k l0 1048576).bind fun t267 => (if t267 < 0 then (some true) else ((laws_toNodeS.f k l0).bind fun t268 => ((spec_FeedsOn.f k t268 a1 a2).bind fun t271 => ((laws_toNodeS.f k l0).bind fun t272 => ((impl_FeedsOn.f k t272 a1 a2).bind fun t275 => (if (t275 != t271) = true then (some false) else ((laws_toNodeS.f k l0).bind fun t276 => ((laws_eqNodeS.f k t272 t276).bind fun t279 => (if t279 = true then (some true) else (some false))))))))))) = some r := h
 clear h
 replace H := Option.bind_eq_some_iff.mp H
 obtain ⟨t267, A40, H⟩ := H
 replace H : (if t267 < 0 then (some true) else ((laws_toNodeS.f k l0).bind fun t268 => ((spec_FeedsOn.f k t268 a1 a2).bind fun t271 => ((laws_toNodeS.f k l0).bind fun t272 => ((impl_FeedsOn.f k t272 a1 a2).bind fun t275 => (if (t275 != t271) = true then (some false) else ((laws_toNodeS.f k l0).bind fun t276 => ((laws_eqNodeS.f k t272 t276).bind fun t279 => (if t279 = true then (some true) else (some false)))))))))) = some r := H
 have A4 := Aside0.mk A40
 clear A40
 by_cases c5 : t267 < 0
 ·rw [if_pos c5] at H
  have c5b0 : decide (t267 < 0) = true := decide_eq_true c5
  clear c5
  obtain rfl := Option.some.inj H
  go_enter Try.func5, Try.ntmps5
  go_wp2_with (first | ((with_reducible refine gate_callee (f := 11) rfl ?_); refine goesL_ (some 13) rfl rfl Try.func11 (by kernel_rfl) rfl #[.slice A0 l0.length c0, .int .i64 1048576] rfl b12_1 ?_; (with_reducible refine (laws_szNodeS.calls k _ _ l0 1048576 t267 _ ?side1 ?side2 A4.out).mono ?_); (case side1 => exact b12_4); (case side2 => exact HC0.out); rintro e w6 ⟨rfl, hb⟩; refine ⟨_, rfl, ?_⟩; have n0_ := Aside0.mk (below_step b12_0 hb); clear HB; have HB := n0_; clear n0_; (try clear hb); (try clear hb2); (try clear hk); (try clear hi)))
  go_ret
  exact ⟨by first | rfl | (simp [errW_none, errW_some] <;> rfl) | (simp [*, errW_none, errW_some] <;> rfl), by repeat (first | (with_reducible first | exact HB.out | apply below_alloc | apply pw_below_drewN | apply below_drew1) | exact HB.out)⟩
 ·rw [if_neg c5] at H
  have c5b0 : decide (t267 < 0) = false := decide_eq_false c5
  clear c5
  replace H := Option.bind_eq_some_iff.mp H
  obtain ⟨t268, A70, H⟩ := H
  replace H : ((spec_FeedsOn.f k t268 a1 a2).bind fun t271 => ((laws_toNodeS.f k l0).bind fun t272 => ((impl_FeedsOn.f k t272 a1 a2).bind fun t275 => (if (t275 != t271) = true then (some false) else ((laws_toNodeS.f k l0).bind fun t276 => ((laws_eqNodeS.f k t272 t276).bind fun t279 => (if t279 = true then (some true) else (some false)))))))) = some r := H
  have A7 := Aside0.mk A70
  clear A70
  replace H := Option.bind_eq_some_iff.mp H
  obtain ⟨t271, A80, H⟩ := H
  replace H : ((laws_toNodeS.f k l0).bind fun t272 => ((impl_FeedsOn.f k t272 a1 a2).bind fun t275 => (if (t275 != t271) = true then (some false) else ((laws_toNodeS.f k l0).bind fun t276 => ((laws_eqNodeS.f k t272 t276).bind fun t279 => (if t279 = true then (some true) else (some false))))))) = some r := H
  have A8 := Aside0.mk A80
  clear A80
  replace H := Option.bind_eq_some_iff.mp H
  obtain ⟨t272, A90, H⟩ := H
  replace H : ((impl_FeedsOn.f k t272 a1 a2).bind fun t275 => (if (t275 != t271) = true then (some false) else ((laws_toNodeS.f k l0).bind fun t276 => ((laws_eqNodeS.f k t272 t276).bind fun t279 => (if t279 = true then (some true) else (some false)))))) = some r := H
  have A9 := Aside0.mk A90
  clear A90
  replace H := Option.bind_eq_some_iff.mp H
  obtain ⟨t275, A100, H⟩ := H
  replace H : (if (t275 != t271) = true then (some false) else ((laws_toNodeS.f k l0).bind fun t276 => ((laws_eqNodeS.f k t272 t276).bind fun t279 => (if t279 = true then (some true) else (some false))))) = some r := H
  have A10 := Aside0.mk A100
  clear A100
  by_cases c11 : (t275 != t271) = true
  ·rw [if_pos c11] at H
   have c11b0 : (t275 != t271) = true := c11
   (try (have c11b1 : decide (t275 = t271) = false := by simpa using c11))
   (try (have c11b2 : (t275 == t271) = false := by simpa using c11))
   (try (have c11b3 : ¬ (t275 = t271) := by simpa using c11))
   clear c11
   obtain rfl := Option.some.inj H
   go_enter Try.func5, Try.ntmps5
   go_wp2_with (first | ((with_reducible refine gate_callee (f := 11) rfl ?_); refine goesL_ (some 13) rfl rfl Try.func11 (by kernel_rfl) rfl #[.slice A0 l0.length c0, .int .i64 1048576] rfl b12_1 ?_; (with_reducible refine (laws_szNodeS.calls k _ _ l0 1048576 t267 _ ?side1 ?side2 A4.out).mono ?_); (case side1 => exact b12_4); (case side2 => exact HC0.out); rintro e w12 ⟨rfl, hb⟩; refine ⟨_, rfl, ?_⟩; have n0_ := Aside0.mk (below_step b12_0 hb); clear HB; have HB := n0_; clear n0_; (try clear hb); (try clear hb2); (try clear hk); (try clear hi)) | ((with_reducible refine gate_callee (f := 13) rfl ?_); refine goesL_ (some 17) rfl rfl Try.func13 (by kernel_rfl) rfl #[.slice A0 l0.length c0] rfl b12_1 ?_; (with_reducible refine (laws_toNodeS.calls k _ _ l0 t268 _ ?side1 ?side2 A7.out).mono ?_); (case side1 => exact b12_3); (case side2 => exact HC0.out); rintro e w13 ⟨v269, rfl, ho0, hb⟩; refine ⟨_, rfl, ?_⟩; have n0_ := Aside0.mk (Kd.S_lower ho0 (below_size b12_0)); have n1_ := Aside0.mk (below_step b12_0 hb); clear HB; have HO270 := n0_; have HB := n1_; clear n0_ n1_; (try clear hb); (try clear hb2); (try clear hk); (try clear hi); (try clear ho0); obtain ⟨Ao14, co14, eo14⟩ := Kd.S_slice HO270.out; subst eo14) | ((with_reducible refine gate_callee (f := 19) rfl ?_); refine goesL_ (some 20) rfl rfl Try.func19 (by kernel_rfl) rfl #[.slice Ao14 t268.length co14, .int .i64 a1, .int .i64 a2] rfl b12_1 ?_; (with_reducible refine (spec_FeedsOn.calls k _ _ t268 a1 a2 t271 _ ?side1 ?side2 A8.out).mono ?_); (case side1 => exact (by repeat (first | exact (Kd.S_reads' HO270.out).2.2 | (with_reducible refine Kd.C_alloc ?_ _) | (with_reducible refine Kd.C_drewN ?_ _) | (with_reducible refine Kd.C_drew ?_)))); (case side2 => exact (Kd.S_reads' HO270.out).2.1); rintro e w15 ⟨rfl, hb⟩; refine ⟨_, rfl, ?_⟩; have n0_ := Aside0.mk (Kd.S_below b12_2 hb); have n1_ := Aside0.mk (below_step b12_0 hb); clear HO270; clear HB; have HO270 := n0_; have HB := n1_; clear n0_ n1_; (try clear hb); (try clear hb2); (try clear hk); (try clear hi)) | ((with_reducible refine gate_callee (f := 13) rfl ?_); refine goesL_ (some 22) rfl rfl Try.func13 (by kernel_rfl) rfl #[.slice A0 l0.length c0] rfl b12_1 ?_; (with_reducible refine (laws_toNodeS.calls k _ _ l0 t272 _ ?side1 ?side2 A9.out).mono ?_); (case side1 => exact b12_3); (case side2 => exact HC0.out); rintro e w16 ⟨v273, rfl, ho0, hb⟩; refine ⟨_, rfl, ?_⟩; have n0_ := Aside0.mk (Kd.S_elder' b12_2 (Kd.S_base ho0) hb); have n1_ := Aside0.mk (Kd.S_lower (Kd.S_new' ho0 (Kd.S_lt b12_2)) (below_size b12_0)); have n2_ := Aside0.mk (below_step b12_0 hb); clear HO270; clear HB; have HO270 := n0_; have HO274 := n1_; have HB := n2_; clear n0_ n1_ n2_; (try clear hb); (try clear hb2); (try clear hk); (try clear hi); (try clear ho0); obtain ⟨Ao17, co17, eo17⟩ := Kd.S_slice HO274.out; subst eo17) | ((with_reducible refine gate_callee (f := 20) rfl ?_); refine goesL_ (some 26) rfl rfl Try.func20 (by kernel_rfl) rfl #[.slice Ao17 t272.length co17, .int .i64 a1, .int .i64 a2] rfl b12_1 ?_; (with_reducible refine (impl_FeedsOn.calls k _ _ t272 a1 a2 t275 _ ?side1 ?side2 A10.out).mono ?_); (case side1 => exact b12_6); (case side2 => exact (Kd.S_reads' HO274.out).2.1); rintro e w18 ⟨rfl, hb⟩; refine ⟨_, rfl, ?_⟩; have n0_ := Aside0.mk (Kd.S_below b12_2 hb); have n1_ := Aside0.mk (Kd.S_below b12_5 hb); have n2_ := Aside0.mk (below_step b12_0 hb); clear HO270; clear HO274; clear HB; have HO270 := n0_; have HO274 := n1_; have HB := n2_; clear n0_ n1_ n2_; (try clear hb); (try clear hb2); (try clear hk); (try clear hi)))
   go_ret
   exact ⟨by first | rfl | (simp [errW_none, errW_some] <;> rfl) | (simp [*, errW_none, errW_some] <;> rfl), by repeat (first | (with_reducible first | exact HB.out | apply below_alloc | apply pw_below_drewN | apply below_drew1) | exact HB.out)⟩
  ·rw [if_neg c11] at H
   have c11b0 : (t275 != t271) = false := by simpa using c11
   (try (have c11b1 : decide (t275 = t271) = true := by simpa using c11))
   (try (have c11b2 : (t275 == t271) = true := by simpa using c11))
   clear c11
   replace H := Option.bind_eq_some_iff.mp H
   obtain ⟨t276, A190, H⟩ := H
   replace H : ((laws_eqNodeS.f k t272 t276).bind fun t279 => (if t279 = true then (some true) else (some false))) = some r := H
   have A19 := Aside0.mk A190
   clear A190
   replace H := Option.bind_eq_some_iff.mp H
   obtain ⟨t279, A200, H⟩ := H
   replace H : (if t279 = true then (some true) else (some false)) = some r := H
   have A20 := Aside0.mk A200
   clear A200
   by_cases c21 : t279 = true
   ·subst c21
    have H1 : (some true) = some r := by rw [if_pos rfl] at H; exact H
    clear H
    have H := H1
    clear H1
    obtain rfl := Option.some.inj H
    go_enter Try.func5, Try.ntmps5
    go_wp2_with (first | ((with_reducible refine gate_callee (f := 11) rfl ?_); refine goesL_ (some 13) rfl rfl Try.func11 (by kernel_rfl) rfl #[.slice A0 l0.length c0, .int .i64 1048576] rfl b12_1 ?_; (with_reducible refine (laws_szNodeS.calls k _ _ l0 1048576 t267 _ ?side1 ?side2 A4.out).mono ?_); (case side1 => exact b12_4); (case side2 => exact HC0.out); rintro e w22 ⟨rfl, hb⟩; refine ⟨_, rfl, ?_⟩; have n0_ := Aside0.mk (below_step b12_0 hb); clear HB; have HB := n0_; clear n0_; (try clear hb); (try clear hb2); (try clear hk); (try clear hi)) | ((with_reducible refine gate_callee (f := 13) rfl ?_); refine goesL_ (some 17) rfl rfl Try.func13 (by kernel_rfl) rfl #[.slice A0 l0.length c0] rfl b12_1 ?_; (with_reducible refine (laws_toNodeS.calls k _ _ l0 t268 _ ?side1 ?side2 A7.out).mono ?_); (case side1 => exact b12_3); (case side2 => exact HC0.out); rintro e w23 ⟨v269, rfl, ho0, hb⟩; refine ⟨_, rfl, ?_⟩; have n0_ := Aside0.mk (Kd.S_lower ho0 (below_size b12_0)); have n1_ := Aside0.mk (below_step b12_0 hb); clear HB; have HO270 := n0_; have HB := n1_; clear n0_ n1_; (try clear hb); (try clear hb2); (try clear hk); (try clear hi); (try clear ho0); obtain ⟨Ao24, co24, eo24⟩ := Kd.S_slice HO270.out; subst eo24) | ((with_reducible refine gate_callee (f := 19) rfl ?_); refine goesL_ (some 20) rfl rfl Try.func19 (by kernel_rfl) rfl #[.slice Ao24 t268.length co24, .int .i64 a1, .int .i64 a2] rfl b12_1 ?_; (with_reducible refine (spec_FeedsOn.calls k _ _ t268 a1 a2 t271 _ ?side1 ?side2 A8.out).mono ?_); (case side1 => exact (by repeat (first | exact (Kd.S_reads' HO270.out).2.2 | (with_reducible refine Kd.C_alloc ?_ _) | (with_reducible refine Kd.C_drewN ?_ _) | (with_reducible refine Kd.C_drew ?_)))); (case side2 => exact (Kd.S_reads' HO270.out).2.1); rintro e w25 ⟨rfl, hb⟩; refine ⟨_, rfl, ?_⟩; have n0_ := Aside0.mk (Kd.S_below b12_2 hb); have n1_ := Aside0.mk (below_step b12_0 hb); clear HO270; clear HB; have HO270 := n0_; have HB := n1_; clear n0_ n1_; (try clear hb); (try clear hb2); (try clear hk); (try clear hi)) | ((with_reducible refine gate_callee (f := 13) rfl ?_); refine goesL_ (some 22) rfl rfl Try.func13 (by kernel_rfl) rfl #[.slice A0 l0.length c0] rfl b12_1 ?_; (with_reducible refine (laws_toNodeS.calls k _ _ l0 t272 _ ?side1 ?side2 A9.out).mono ?_); (case side1 => exact b12_3); (case side2 => exact HC0.out); rintro e w26 ⟨v273, rfl, ho0, hb⟩; refine ⟨_, rfl, ?_⟩; have n0_ := Aside0.mk (Kd.S_elder' b12_2 (Kd.S_base ho0) hb); have n1_ := Aside0.mk (Kd.S_lower (Kd.S_new' ho0 (Kd.S_lt b12_2)) (below_size b12_0)); have n2_ := Aside0.mk (below_step b12_0 hb); clear HO270; clear HB; have HO270 := n0_; have HO274 := n1_; have HB := n2_; clear n0_ n1_ n2_; (try clear hb); (try clear hb2); (try clear hk); (try clear hi); (try clear ho0); obtain ⟨Ao27, co27, eo27⟩ := Kd.S_slice HO274.out; subst eo27) | ((with_reducible refine gate_callee (f := 20) rfl ?_); refine goesL_ (some 26) rfl rfl Try.func20 (by kernel_rfl) rfl #[.slice Ao27 t272.length co27, .int .i64 a1, .int .i64 a2] rfl b12_1 ?_; (with_reducible refine (impl_FeedsOn.calls k _ _ t272 a1 a2 t275 _ ?side1 ?side2 A10.out).mono ?_); (case side1 => exact b12_6); (case side2 => exact (Kd.S_reads' HO274.out).2.1); rintro e w28 ⟨rfl, hb⟩; refine ⟨_, rfl, ?_⟩; have n0_ := Aside0.mk (Kd.S_below b12_2 hb); have n1_ := Aside0.mk (Kd.S_below b12_5 hb); have n2_ := Aside0.mk (below_step b12_0 hb); clear HO270; clear HO274; clear HB; have HO270 := n0_; have HO274 := n1_; have HB := n2_; clear n0_ n1_ n2_; (try clear hb); (try clear hb2); (try clear hk); (try clear hi)) | ((with_reducible refine gate_callee (f := 13) rfl ?_); refine goesL_ (some 32) rfl rfl Try.func13 (by kernel_rfl) rfl #[.slice A0 l0.length c0] rfl b12_1 ?_; (with_reducible refine (laws_toNodeS.calls k _ _ l0 t276 _ ?side1 ?side2 A19.out).mono ?_); (case side1 => exact b12_3); (case side2 => exact HC0.out); rintro e w29 ⟨v277, rfl, ho0, hb⟩; refine ⟨_, rfl, ?_⟩; have n0_ := Aside0.mk (Kd.S_elder' b12_2 (Kd.S_base ho0) hb); have n1_ := Aside0.mk (Kd.S_elder' b12_5 (Kd.S_base ho0) hb); have n2_ := Aside0.mk (Kd.S_lower (Kd.S_new' (Kd.S_new' ho0 (Kd.S_lt b12_2)) (Kd.S_lt b12_5)) (below_size b12_0)); have n3_ := Aside0.mk (below_step b12_0 hb); clear HO270; clear HO274; clear HB; have HO270 := n0_; have HO274 := n1_; have HO278 := n2_; have HB := n3_; clear n0_ n1_ n2_ n3_; (try clear hb); (try clear hb2); (try clear hk); (try clear hi); (try clear ho0); obtain ⟨Ao30, co30, eo30⟩ := Kd.S_slice HO278.out; subst eo30) | ((with_reducible refine gate_callee (f := 15) rfl ?_); refine goesL_ (some 33) rfl rfl Try.func15 (by kernel_rfl) rfl #[.slice Ao27 t272.length co27, .slice Ao30 t276.length co30] rfl b12_1 ?_; (with_reducible refine (laws_eqNodeS.calls k _ _ t272 _ _ t276 true _ ?side1 ?side2 ?side3 ?side4 A20.out).mono ?_); (case side1 => exact b12_6); (case side2 => exact (Kd.S_reads' HO274.out).2.1); (case side3 => exact (by repeat (first | exact (Kd.S_reads' HO278.out).2.2 | (with_reducible refine Kd.C_alloc ?_ _) | (with_reducible refine Kd.C_drewN ?_ _) | (with_reducible refine Kd.C_drew ?_)))); (case side4 => exact (Kd.S_reads' HO278.out).2.1); rintro e w31 ⟨rfl, hb⟩; refine ⟨_, rfl, ?_⟩; have n0_ := Aside0.mk (Kd.S_below b12_2 hb); have n1_ := Aside0.mk (Kd.S_below b12_5 hb); have n2_ := Aside0.mk (Kd.S_below (by (with_reducible repeat (first | apply Kd.S_alloc | apply Kd.S_drewN | apply Kd.S_drew)); exact HO278.out) hb); have n3_ := Aside0.mk (below_step b12_0 hb); clear HO270; clear HO274; clear HO278; clear HB; have HO270 := n0_; have HO274 := n1_; have HO278 := n2_; have HB := n3_; clear n0_ n1_ n2_ n3_; (try clear hb); (try clear hb2); (try clear hk); (try clear hi)))
    go_ret
    exact ⟨by first | rfl | (simp [errW_none, errW_some] <;> rfl) | (simp [*, errW_none, errW_some] <;> rfl), by repeat (first | (with_reducible first | exact HB.out | apply below_alloc | apply pw_below_drewN | apply below_drew1) | exact HB.out)⟩
   ·replace c21 := Bool.eq_false_iff.mpr c21
    subst c21
    have H1 : (some false) = some r := by rw [if_neg (show ¬ (false = true) by decide)] at H; exact H
    clear H
    have H := H1
    clear H1
    obtain rfl := Option.some.inj H
    go_enter Try.func5, Try.ntmps5
    go_wp2_with (first | ((with_reducible refine gate_callee (f := 11) rfl ?_); refine goesL_ (some 13) rfl rfl Try.func11 (by kernel_rfl) rfl #[.slice A0 l0.length c0, .int .i64 1048576] rfl b12_1 ?_; (with_reducible refine (laws_szNodeS.calls k _ _ l0 1048576 t267 _ ?side1 ?side2 A4.out).mono ?_); (case side1 => exact b12_4); (case side2 => exact HC0.out); rintro e w32 ⟨rfl, hb⟩; refine ⟨_, rfl, ?_⟩; have n0_ := Aside0.mk (below_step b12_0 hb); clear HB; have HB := n0_; clear n0_; (try clear hb); (try clear hb2); (try clear hk); (try clear hi)) | ((with_reducible refine gate_callee (f := 13) rfl ?_); refine goesL_ (some 17) rfl rfl Try.func13 (by kernel_rfl) rfl #[.slice A0 l0.length c0] rfl b12_1 ?_; (with_reducible refine (laws_toNodeS.calls k _ _ l0 t268 _ ?side1 ?side2 A7.out).mono ?_); (case side1 => exact b12_3); (case side2 => exact HC0.out); rintro e w33 ⟨v269, rfl, ho0, hb⟩; refine ⟨_, rfl, ?_⟩; have n0_ := Aside0.mk (Kd.S_lower ho0 (below_size b12_0)); have n1_ := Aside0.mk (below_step b12_0 hb); clear HB; have HO270 := n0_; have HB := n1_; clear n0_ n1_; (try clear hb); (try clear hb2); (try clear hk); (try clear hi); (try clear ho0); obtain ⟨Ao34, co34, eo34⟩ := Kd.S_slice HO270.out; subst eo34) | ((with_reducible refine gate_callee (f := 19) rfl ?_); refine goesL_ (some 20) rfl rfl Try.func19 (by kernel_rfl) rfl #[.slice Ao34 t268.length co34, .int .i64 a1, .int .i64 a2] rfl b12_1 ?_; (with_reducible refine (spec_FeedsOn.calls k _ _ t268 a1 a2 t271 _ ?side1 ?side2 A8.out).mono ?_); (case side1 => exact (by repeat (first | exact (Kd.S_reads' HO270.out).2.2 | (with_reducible refine Kd.C_alloc ?_ _) | (with_reducible refine Kd.C_drewN ?_ _) | (with_reducible refine Kd.C_drew ?_)))); (case side2 => exact (Kd.S_reads' HO270.out).2.1); rintro e w35 ⟨rfl, hb⟩; refine ⟨_, rfl, ?_⟩; have n0_ := Aside0.mk (Kd.S_below b12_2 hb); have n1_ := Aside0.mk (below_step b12_0 hb); clear HO270; clear HB; have HO270 := n0_; have HB := n1_; clear n0_ n1_; (try clear hb); (try clear hb2); (try clear hk); (try clear hi)) | ((with_reducible refine gate_callee (f := 13) rfl ?_); refine goesL_ (some 22) rfl rfl Try.func13 (by kernel_rfl) rfl #[.slice A0 l0.length c0] rfl b12_1 ?_; (with_reducible refine (laws_toNodeS.calls k _ _ l0 t272 _ ?side1 ?side2 A9.out).mono ?_); (case side1 => exact b12_3); (case side2 => exact HC0.out); rintro e w36 ⟨v273, rfl, ho0, hb⟩; refine ⟨_, rfl, ?_⟩; have n0_ := Aside0.mk (Kd.S_elder' b12_2 (Kd.S_base ho0) hb); have n1_ := Aside0.mk (Kd.S_lower (Kd.S_new' ho0 (Kd.S_lt b12_2)) (below_size b12_0)); have n2_ := Aside0.mk (below_step b12_0 hb); clear HO270; clear HB; have HO270 := n0_; have HO274 := n1_; have HB := n2_; clear n0_ n1_ n2_; (try clear hb); (try clear hb2); (try clear hk); (try clear hi); (try clear ho0); obtain ⟨Ao37, co37, eo37⟩ := Kd.S_slice HO274.out; subst eo37) | ((with_reducible refine gate_callee (f := 20) rfl ?_); refine goesL_ (some 26) rfl rfl Try.func20 (by kernel_rfl) rfl #[.slice Ao37 t272.length co37, .int .i64 a1, .int .i64 a2] rfl b12_1 ?_; (with_reducible refine (impl_FeedsOn.calls k _ _ t272 a1 a2 t275 _ ?side1 ?side2 A10.out).mono ?_); (case side1 => exact b12_6); (case side2 => exact (Kd.S_reads' HO274.out).2.1); rintro e w38 ⟨rfl, hb⟩; refine ⟨_, rfl, ?_⟩; have n0_ := Aside0.mk (Kd.S_below b12_2 hb); have n1_ := Aside0.mk (Kd.S_below b12_5 hb); have n2_ := Aside0.mk (below_step b12_0 hb); clear HO270; clear HO274; clear HB; have HO270 := n0_; have HO274 := n1_; have HB := n2_; clear n0_ n1_ n2_; (try clear hb); (try clear hb2); (try clear hk); (try clear hi)) | ((with_reducible refine gate_callee (f := 13) rfl ?_); refine goesL_ (some 32) rfl rfl Try.func13 (by kernel_rfl) rfl #[.slice A0 l0.length c0] rfl b12_1 ?_; (with_reducible refine (laws_toNodeS.calls k _ _ l0 t276 _ ?side1 ?side2 A19.out).mono ?_); (case side1 => exact b12_3); (case side2 => exact HC0.out); rintro e w39 ⟨v277, rfl, ho0, hb⟩; refine ⟨_, rfl, ?_⟩; have n0_ := Aside0.mk (Kd.S_elder' b12_2 (Kd.S_base ho0) hb); have n1_ := Aside0.mk (Kd.S_elder' b12_5 (Kd.S_base ho0) hb); have n2_ := Aside0.mk (Kd.S_lower (Kd.S_new' (Kd.S_new' ho0 (Kd.S_lt b12_2)) (Kd.S_lt b12_5)) (below_size b12_0)); have n3_ := Aside0.mk (below_step b12_0 hb); clear HO270; clear HO274; clear HB; have HO270 := n0_; have HO274 := n1_; have HO278 := n2_; have HB := n3_; clear n0_ n1_ n2_ n3_; (try clear hb); (try clear hb2); (try clear hk); (try clear hi); (try clear ho0); obtain ⟨Ao40, co40, eo40⟩ := Kd.S_slice HO278.out; subst eo40) | ((with_reducible refine gate_callee (f := 15) rfl ?_); refine goesL_ (some 33) rfl rfl Try.func15 (by kernel_rfl) rfl #[.slice Ao37 t272.length co37, .slice Ao40 t276.length co40] rfl b12_1 ?_; (with_reducible refine (laws_eqNodeS.calls k _ _ t272 _ _ t276 false _ ?side1 ?side2 ?side3 ?side4 A20.out).mono ?_); (case side1 => exact b12_6); (case side2 => exact (Kd.S_reads' HO274.out).2.1); (case side3 => exact (by repeat (first | exact (Kd.S_reads' HO278.out).2.2 | (with_reducible refine Kd.C_alloc ?_ _) | (with_reducible refine Kd.C_drewN ?_ _) | (with_reducible refine Kd.C_drew ?_)))); (case side4 => exact (Kd.S_reads' HO278.out).2.1); rintro e w41 ⟨rfl, hb⟩; refine ⟨_, rfl, ?_⟩; have n0_ := Aside0.mk (Kd.S_below b12_2 hb); have n1_ := Aside0.mk (Kd.S_below b12_5 hb); have n2_ := Aside0.mk (Kd.S_below (by (with_reducible repeat (first | apply Kd.S_alloc | apply Kd.S_drewN | apply Kd.S_drew)); exact HO278.out) hb); have n3_ := Aside0.mk (below_step b12_0 hb); clear HO270; clear HO274; clear HO278; clear HB; have HO270 := n0_; have HO274 := n1_; have HO278 := n2_; have HB := n3_; clear n0_ n1_ n2_ n3_; (try clear hb); (try clear hb2); (try clear hk); (try clear hi)))
    go_ret
    exact ⟨by first | rfl | (simp [errW_none, errW_some] <;> rfl) | (simp [*, errW_none, errW_some] <;> rfl), by repeat (first | (with_reducible first | exact HB.out | apply below_alloc | apply pw_below_drewN | apply below_drew1) | exact HB.out)⟩

/-- THE ONE PURE STATEMENT of laws_FnExactFeedsOn. -/
def laws_FnExactFeedsOn.Pure : Prop := ∀ (l0 : List (S56)) (a1 : Int) (a2 : Int), (fun l : List (S56) => l.length ≤ maxLen ∧ ∀ y ∈ l, (fun x : S56 => (fun x : Int => (Lit.int .i64 x).wf = true) x.f0 ∧ (fun x : Int => (Lit.int .i64 x).wf = true) x.f1 ∧ (fun x : Int => (Lit.int .i64 x).wf = true) x.f2 ∧ (fun x : Int => (Lit.int .i64 x).wf = true) x.f3 ∧ (fun x : Int => (Lit.int .i64 x).wf = true) x.f4 ∧ (fun x : Int => (Lit.int .i64 x).wf = true) x.f5 ∧ (fun l : List Int => l.length ≤ maxLen ∧ ∀ y ∈ l, (fun x : Int => (Lit.int .i64 x).wf = true) y) x.f6) y) l0 → l0.length * 72 ≤ 140737488351232 → (Lit.int .i64 a1).wf = true → (Lit.int .i64 a2).wf = true → ∃ k, laws_FnExactFeedsOn.f k l0 a1 a2 = some true

end Go.Proofs.Yteibdjkfkcckkaa.PFnExactFeedsOn
