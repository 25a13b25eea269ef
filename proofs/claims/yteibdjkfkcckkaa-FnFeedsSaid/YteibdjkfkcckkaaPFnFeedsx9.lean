-- Written by fprint, a program of this session, out of Lean's own print of the translation. Lean checks it.
import Derived.Test.YteibdjkfkcckkaaDense
import Derived.Test.YteibdjkfkcckkaaPFnFeedsx0
import Derived.Test.YteibdjkfkcckkaaPFnFeedsx4
import Derived.Test.YteibdjkfkcckkaaPFnFeedsx6
import Derived.Test.YteibdjkfkcckkaaPFnFeedsx8
namespace Go.Proofs.Yteibdjkfkcckkaa.PFnFeeds
open Go.RowKit Go.Proofs.YteibdjkfkcckkaaW.PrintWords Go.Proofs.YteibdjkfkcckkaaW.PrintLast Go.Proofs.YteibdjkfkcckkaaW.PrintMore
attribute [local go_sem] max2_int min2_int max_two min_two max_three min_three max_four min_four   -- for this text's walks alone
set_option linter.unusedVariables false
set_option linter.unusedSimpArgs false

theorem q9_0 {p : Prop} (h : p := by first | rfl | (simp [*]; done)) : p := h
/-! ### impl_feeds: function 49 -/
/-- slices.IndexFunc over whole numbers, whatever function value. -/
def indexI.l0 (p : Int → Option Bool) : Nat → List Int → Int → Int → Option (Int)
 | 0, _, _, _ => none
 | k + 1, x0, x7, x8 => if x8 < x7 then (if 0 ≤ x8 then (if x8 < (x0.length : Int) then ((p (rd x0 x8)).bind fun t202 => (if t202 = true then (some x8) else (indexI.l0 p k x0 x7 (wrap64 (x8 + 1))))) else (none)) else (none)) else (some (-1))
def indexI.f (p : Int → Option Bool) (k : Nat) (l0 : List Int) : Option (Int) := indexI.l0 p k l0 (l0.length : Int) 0
theorem indexI.mono_l (p q : Int → Option Bool) (hp : ∀ x, LeO (p x) (q x)) : ∀ k, (∀ y0 y1 y2, LeO (indexI.l0 p k y0 y1 y2) (indexI.l0 q (k + 1) y0 y1 y2))
 | 0 => fun _ _ _ r h => by simp [indexI.l0] at h
 | k + 1 => by
  have ih0 := indexI.mono_l p q hp k
  intro y0 y1 y2
  unfold indexI.l0
  repeat' first
  | (with_reducible exact ih0 _ _ _)
  | (with_reducible exact LeO.refl _)
  | (with_reducible exact LeO.none _)
  | (with_reducible exact hp _)
  | (with_reducible refine LeO.ite ?_ ?_)
  | (with_reducible refine LeO.bind ?_ (fun _ => ?_))
/-- What is asked of the function value: at every whole number, in every world in which all that lay in w lies unturned. -/
abbrev FnI (P : Program) (g : Nat) (cap : Array Value) (p : Int → Option Bool) (w : World) : Prop :=
 ∀ (W : World) (x : Int) (b : Bool), Below w.heap.size w W → p x = some b → Calls P g (#[.int .i64 x] ++ cap) W fun e w' => e = .returned (.bool b) ∧ Below W.heap.size W w'
set_option maxHeartbeats 8000000 in
set_option maxRecDepth 100000 in
theorem indexI.calls (g : Nat) (gfn : Func) (hgf : Try.prog.funcs[g]? = some gfn) (hgn : (gfn.name == "runtime.NumGoroutine") = false) (hgb : gfn.body.isSome = true) (cap : Array Value) (p : Int → Option Bool) (k : Nat) (A0 : Option Addr) (c0 : Nat) (l0 : List Int) (r : Int) (w : World) (hp : FnI Try.prog g cap p w) (hr0 : Kd.C (Kd.int .i64) w A0 l0.length l0) (hc0 : l0.length ≤ c0) (h : indexI.f p k l0 = some r) :
  Calls Try.prog 94 #[.slice A0 l0.length c0, .func (.func g) #[] cap] w fun e w' => e = .returned (.int .i64 r) ∧ Below w.heap.size w w' := by
 have HR0 := Aside0.mk hr0
 have HC0 := Aside0.mk hc0
 have HP := Aside0.mk hp
 have HGF := Aside0.mk hgf
 have HGN := Aside0.mk hgn
 have HGB := Aside0.mk hgb
 clear hr0 hc0 hp hgf hgn hgb
 have HB := Aside0.mk (Below.refl w.heap.size w)
 have H : (indexI.l0 p k l0 (l0.length : Int) 0) = some r := h
 clear h
 have H' := Aside0.mk H
 clear H
 go_enter Try.func94, Try.ntmps94
 go_wp2
 go_loopg [8] k (fun kq v8 w' => ∃ (x8_1 : Int), v8 = .int .i64 x8_1 ∧ Aside0 (indexI.l0 p kq l0 (l0.length : Int) x8_1 = some r) ∧ Aside0 (kq ≤ k) ∧ Aside0 (Below w.heap.size w w'))
 case atStart => exact ⟨(0), cs_, H', ⟨Nat.le_refl _⟩, ⟨cB0_⟩⟩
 case round =>
  clear H'
  obtain ⟨x8_1, rfl, HA, HK1, HB⟩ := hrel
  cases gk with
  | zero => exact absurd HA.out (by simp [indexI.l0])
  | succ k1 =>
   have H := HA.out
   clear HA
   simp only [indexI.l0] at H
   by_cases c3 : x8_1 < (l0.length : Int)
   rotate_left
   ·rw [if_neg c3] at H
    have c3b0 : decide (x8_1 < (l0.length : Int)) = false := decide_eq_false c3
    clear c3
    obtain rfl := Option.some.inj H
    go_wp2
    go_ret
    exact ⟨q9_0, HB.out⟩
   rw [if_pos c3] at H
   have c3b0 : decide (x8_1 < (l0.length : Int)) = true := decide_eq_true c3
   clear c3
   by_cases c4 : 0 ≤ x8_1
   rotate_left
   ·rw [if_neg c4] at H
    exact absurd H (by simp)
   rw [if_pos c4] at H
   have c4b0 : decide (0 ≤ x8_1) = true := decide_eq_true c4
   clear c4
   rw [if_pos (of_decide_eq_true c3b0)] at H
   obtain ⟨t202, A6, H⟩ := bnd_ H
   try dsimp only at H
   have p201 : 0 ≤ (x8_1 : Int) := of_decide_eq_true ca_
   have q201 : x8_1 < (l0.length : Int) := of_decide_eq_true ca_
   obtain ⟨ad201, e201, hx201_0⟩ := Kd.at_int HR0.out x8_1 p201 q201
   cases e201
   replace hx201_0 := (HB.out.cell (World.block_lt_of_cell? w _ hx201_0)).trans hx201_0
   replace p201 := eq_true p201
   replace q201 := eq_true q201
   by_cases c7 : t202 = true
   ·subst c7
    have H1 : (some x8_1) = some r := by rw [if_pos rfl] at H; exact H
    clear H
    obtain rfl := Option.some.inj H1
    clear H1
    go_wp2_with (first | ((refine gate_fnc_ (f := g) (cap := cap) (by with_reducible rfl) (by rfl) ?_); refine goesC_ (some 16) rfl rfl HGF.out HGN.out HGB.out #[.int .i64 (rd l0 x8_1)] rfl (by rfl) cx_ ?_; (with_reducible refine (HP.out _ (rd l0 x8_1) true HB.out A6.out).mono ?_); rintro e w8 ⟨rfl, hb⟩; refine ⟨_, rfl, ?_⟩; have n0_ := Aside0.mk (below_step HB.out hb); clear HB; have HB := n0_; clear n0_ hb))
    go_ret
    exact ⟨q9_0, HB.out⟩
   replace c7 := Bool.eq_false_iff.mpr c7
   subst c7
   have H1 : (indexI.l0 p k1 l0 (l0.length : Int) (wrap64 (x8_1 + 1))) = some r := by rw [if_neg (show ¬ (false = true) by decide)] at H; exact H
   clear H
   have H' := Aside0.mk H1
   clear H1
   go_wp2_with (first | ((refine gate_fnc_ (f := g) (cap := cap) (by with_reducible rfl) (by rfl) ?_); refine goesC_ (some 16) rfl rfl HGF.out HGN.out HGB.out #[.int .i64 (rd l0 x8_1)] rfl (by rfl) cx_ ?_; (with_reducible refine (HP.out _ (rd l0 x8_1) false HB.out A6.out).mono ?_); rintro e w8 ⟨rfl, hb⟩; refine ⟨_, rfl, ?_⟩; have n0_ := Aside0.mk (below_step HB.out hb); clear HB; have HB := n0_; clear n0_ hb))
   go_roundg k1
   case measure => have := HK1.out; omega
   case rel => exact ⟨(wrap64 (x8_1 + 1)), cs_, H', ⟨co_ HK1.out⟩, HB⟩
def containsI.f (p : Int → Option Bool) (k : Nat) (l0 : List Int) : Option (Bool) := (indexI.f p k l0).bind fun t => some (decide (t ≥ 0))
set_option maxHeartbeats 8000000 in
set_option maxRecDepth 100000 in
theorem containsI.calls (g : Nat) (gfn : Func) (hgf : Try.prog.funcs[g]? = some gfn) (hgn : (gfn.name == "runtime.NumGoroutine") = false) (hgb : gfn.body.isSome = true) (cap : Array Value) (p : Int → Option Bool) (k : Nat) (A0 : Option Addr) (c0 : Nat) (l0 : List Int) (r : Bool) (w : World) (hp : FnI Try.prog g cap p w) (hr0 : Kd.C (Kd.int .i64) w A0 l0.length l0) (hc0 : l0.length ≤ c0) (h : containsI.f p k l0 = some r) :
  Calls Try.prog 81 #[.slice A0 l0.length c0, .func (.func g) #[] cap] w fun e w' => e = .returned (.bool r) ∧ Below w.heap.size w w' := by
 obtain ⟨t, ht, hr⟩ := Option.bind_eq_some_iff.mp h
 obtain rfl := Option.some.inj hr
 have HR0 := Aside0.mk hr0
 have HC0 := Aside0.mk hc0
 have HP := Aside0.mk hp
 have HT := Aside0.mk ht
 have HGF := Aside0.mk hgf
 have HGN := Aside0.mk hgn
 have HGB := Aside0.mk hgb
 clear hr0 hc0 hp hgf hgn hgb ht hr h
 go_enter Try.func81, Try.ntmps81
 go_wp2_with (first | (refine gl_ 94 (some 7) Try.func94 #[.slice A0 l0.length c0, .func (.func g) #[] cap] ?_; (with_reducible refine (indexI.calls g gfn HGF.out HGN.out HGB.out cap p k A0 c0 l0 t _ HP.out HR0.out HC0.out HT.out).mono ?_); rintro e w2 ⟨rfl, hb⟩; refine ⟨_, rfl, ?_⟩; have HB := Aside0.mk hb; clear hb))
 go_ret
 exact ⟨q9_0, HB.out⟩
def impl_feeds.f : Nat → List (S58) → Int → Int → Option Bool
 | 0, _, _, _ => none
 | k + 1, l0, a1, a2 => if 0 ≤ a2 then (if a2 < (l0.length : Int) then ((impl_Node_reads.f ((rd_T58 l0 a2).f0) ((rd_T58 l0 a2).f1) ((rd_T58 l0 a2).f2) ((rd_T58 l0 a2).f3) ((rd_T58 l0 a2).f4) ((rd_T58 l0 a2).f5) ((rd_T58 l0 a2).f6)).bind fun xs => containsI.f (fun x => if x = a1 then some true else impl_feeds.f k l0 a1 x) k xs) else (none)) else (none)
theorem impl_feeds.mono_ : ∀ k a0 a1 a2, LeO (impl_feeds.f k a0 a1 a2) (impl_feeds.f (k + 1) a0 a1 a2)
 | 0 => fun _ _ _ r h => by simp [impl_feeds.f] at h
 | k + 1 => by
  intro a0 a1 a2
  have ih := impl_feeds.mono_ k
  rw [impl_feeds.f, impl_feeds.f]
  refine LeO.ite (LeO.ite (LeO.bind (LeO.refl _) fun xs => ?_) (LeO.refl _)) (LeO.refl _)
  unfold containsI.f indexI.f
  exact LeO.bind (indexI.mono_l _ _ (fun x => LeO.ite (LeO.refl _) (ih _ _ _)) k _ _ _) (fun _ => LeO.refl _)
theorem impl_feeds.mono : ∀ a0 a1 a2 k, LeO (impl_feeds.f k a0 a1 a2) (impl_feeds.f (k + 1) a0 a1 a2) := fun a0 a1 a2 k => impl_feeds.mono_ k a0 a1 a2
abbrev impl_feeds.Ih (k : Nat) : Prop := ∀ (A0 : Option Addr) (c0 : Nat) (l0 : List (S58)) (a1 : Int) (a2 : Int) (r : Bool) (w : World) (_hr0 : Kd.C k58 w A0 l0.length l0) (_hc0 : l0.length ≤ c0) (_h : impl_feeds.f k l0 a1 a2 = some r), Calls Try.prog 49 #[.slice A0 l0.length c0, .int .i64 a1, .int .i64 a2] w fun e w' => e = .returned (.bool r) ∧ Below w.heap.size w w'
set_option maxHeartbeats 8000000 in
set_option maxRecDepth 100000 in
theorem impl_feeds1.calls (k : Nat) (ih : impl_feeds.Ih k) (A0 : Option Addr) (c0 : Nat) (l0 : List (S58)) (a1 : Int) (x : Int) (g1 g2 : Nat) (b : Bool) (w : World) (hr : Kd.C k58 w A0 l0.length l0) (hc : l0.length ≤ c0) (hc1 : w.cell? ⟨g1, 0, none⟩ = some (.int .i64 a1)) (hc2 : w.cell? ⟨g2, 0, none⟩ = some (.slice A0 l0.length c0)) (h : (if x = a1 then some true else impl_feeds.f k l0 a1 x) = some b) :
  Calls Try.prog 82 #[.int .i64 x, .pointer (some ⟨g1, 0, none⟩), .pointer (some ⟨g2, 0, none⟩)] w fun e w' => e = .returned (.bool b) ∧ Below w.heap.size w w' := by
 have HR := Aside0.mk hr
 have HC := Aside0.mk hc
 have IH := Aside0.mk ih
 clear hr hc ih
 have HB := Aside0.mk (Below.refl w.heap.size w)
 by_cases c : x = a1
 ·rw [if_pos c] at h
  obtain rfl := Option.some.inj h
  have cb0 : (x == a1) = true := beq_iff_eq.mpr c
  have cb1 : (x != a1) = false := bne_eq_false_iff_eq.mpr c
  clear c h
  go_enter Try.func82, Try.ntmps82
  go_wp2
  go_ret
  exact ⟨q9_0, cB0_⟩
 rw [if_neg c] at h
 have cb0 : (x == a1) = false := beq_eq_false_iff_ne.mpr c
 have cb1 : (x != a1) = true := bne_iff_ne.mpr c
 have A6 := Aside0.mk h
 clear c h
 go_enter Try.func82, Try.ntmps82
 go_wp2_with (first | (go_at_call 49; (with_reducible refine (IH.out A0 c0 l0 a1 x b _ ?side1 HC.out A6.out).mono ?_); (case side1 => exact cC_ HR.out); rintro e w2 ⟨rfl, hb⟩; have n0_ := Aside0.mk (below_step cB0_ hb); clear HB; have HB := n0_; clear n0_ hb))
 go_ret
 exact ⟨q9_0, cB0_⟩
set_option maxHeartbeats 8000000 in
set_option maxRecDepth 100000 in
theorem impl_feeds.calls (k : Nat) : ∀ (A0 : Option Addr) (c0 : Nat) (l0 : List (S58)) (a1 : Int) (a2 : Int) (r : Bool) (w : World) (hr0 : Kd.C k58 w A0 l0.length l0) (hc0 : l0.length ≤ c0) (h : impl_feeds.f k l0 a1 a2 = some r),
  Calls Try.prog 49 #[.slice A0 l0.length c0, .int .i64 a1, .int .i64 a2] w fun e w' => e = .returned (.bool r) ∧ Below w.heap.size w w' := by
 induction k with
 | zero => intro A0 c0 l0 a1 a2 r w hr0 hc0 h; exact absurd h (by simp [impl_feeds.f])
 | succ k ih =>
  intro A0 c0 l0 a1 a2 r w hr0 hc0 h
  have IH := Aside0.mk (show impl_feeds.Ih k from ih)
  clear ih
  have hu := Try.underlying58
  have HR0 := Aside0.mk hr0
  have HC0 := Aside0.mk hc0
  clear hr0 hc0
  rw [impl_feeds.f] at h
  by_cases c4 : 0 ≤ a2
  rotate_left
  ·rw [if_neg c4] at h
   exact absurd h (by simp)
  rw [if_pos c4] at h
  have c4b0 : decide (0 ≤ a2) = true := decide_eq_true c4
  by_cases c5 : a2 < (l0.length : Int)
  rotate_left
  ·rw [if_neg c5] at h
   exact absurd h (by simp)
  rw [if_pos c5] at h
  have c5b0 : decide (a2 < (l0.length : Int)) = true := decide_eq_true c5
  obtain ⟨xs, h1, h2⟩ := Option.bind_eq_some_iff.mp h
  have H1 := Aside0.mk h1
  have H2 := Aside0.mk h2
  clear h h1 h2
  obtain ⟨ad, A6, c6, e_, hx0, hx1, hx2, hx3, hx4, hx5, hx6, hl6, hi6⟩ := at_T58 HR0.out a2 c4 c5
  cases e_
  have HI6 := Aside0.mk hi6
  have HL6 := Aside0.mk hl6
  clear hi6 hl6
  replace c4 := eq_true c4
  replace c5 := eq_true c5
  go_enter Try.func49, Try.ntmps49
  go_wp2_with (first | (refine bx_ 3 #[.slice (some ad) l0.length c0] 25 ?_; intro gb3 hg w5 hbox hb; have HB := Aside0.mk hb; have HC3 := Aside0.mk (show w5.cell? ⟨gb3, 0, none⟩ = some (.slice (some ad) l0.length c0) from (blk_cell hbox 0).trans rfl); clear hbox hb hg) | (refine bx_ 4 #[.int .i64 a1] 2 ?_; intro gb4 hg w6 hbox hb; replace HB := Aside0.mk (below_step HB.out hb); have hcz3 := pw_cell_below hb HC3.out; have HC4 := Aside0.mk (show w6.cell? ⟨gb4, 0, none⟩ = some (.int .i64 a1) from (blk_cell hbox 0).trans rfl); replace hx0 := (HB.out.cell (World.block_lt_of_cell? w _ hx0)).trans hx0; replace hx1 := (HB.out.cell (World.block_lt_of_cell? w _ hx1)).trans hx1; replace hx2 := (HB.out.cell (World.block_lt_of_cell? w _ hx2)).trans hx2; replace hx3 := (HB.out.cell (World.block_lt_of_cell? w _ hx3)).trans hx3; replace hx4 := (HB.out.cell (World.block_lt_of_cell? w _ hx4)).trans hx4; replace hx5 := (HB.out.cell (World.block_lt_of_cell? w _ hx5)).trans hx5; replace hx6 := (HB.out.cell (World.block_lt_of_cell? w _ hx6)).trans hx6; clear HC3 hbox hb hg) | (refine gl_ 77 (some 11) Try.func77 #[.agg #[.int .i64 ((rd_T58 l0 a2).f0), .int .i64 ((rd_T58 l0 a2).f1), .int .i64 ((rd_T58 l0 a2).f2), .int .i64 ((rd_T58 l0 a2).f3), .int .i64 ((rd_T58 l0 a2).f4), .int .i64 ((rd_T58 l0 a2).f5), .slice A6 ((rd_T58 l0 a2).f6).length c6]] ?_; (with_reducible refine (impl_Node_reads.calls ((rd_T58 l0 a2).f0) ((rd_T58 l0 a2).f1) ((rd_T58 l0 a2).f2) ((rd_T58 l0 a2).f3) ((rd_T58 l0 a2).f4) ((rd_T58 l0 a2).f5) _ _ ((rd_T58 l0 a2).f6) xs _ (Kd.C_below HI6.out HB.out) HL6.out H1.out).mono ?_); rintro e w7 ⟨v, rfl, ho, hb⟩; obtain ⟨Ao, co, eo⟩ := Kd.R_slice ho; subst eo; refine ⟨_, rfl, ?_⟩; have HO := Aside0.mk ho; replace HB := Aside0.mk (below_step HB.out hb); have HC3 := Aside0.mk (pw_cell_below hb hcz3); have n1_ := Aside0.mk (pw_cell_below hb HC4.out); clear HC4; have HC4 := n1_; clear n1_ hcz3 hb ho) | (refine gl_ 81 (some 13) Try.func81 #[.slice Ao xs.length co, .func (.func 82) #[] #[.pointer (some ⟨gb4, 0, none⟩), .pointer (some ⟨gb3, 0, none⟩)]] ?_; (with_reducible refine (containsI.calls 82 _ Try.func82 (by kernel_rfl) rfl #[.pointer (some ⟨gb4, 0, none⟩), .pointer (some ⟨gb3, 0, none⟩)] (fun x => if x = a1 then some true else impl_feeds.f k l0 a1 x) k Ao co xs r _ ?sidep (Kd.R_reads' HO.out).2.2 (Kd.R_reads' HO.out).2.1 H2.out).mono ?_); (case sidep => exact (fun W_ x_ b_ hb_ hp_ => impl_feeds1.calls k IH.out (some ad) c0 l0 a1 x_ gb4 gb3 b_ W_ (Kd.C_below HR0.out (below_step HB.out hb_)) HC0.out (pw_cell_below hb_ HC4.out) (pw_cell_below hb_ HC3.out) hp_)); rintro e w8 ⟨rfl, hb⟩; refine ⟨_, rfl, ?_⟩; have n0_ := Aside0.mk (below_step HB.out hb); clear HB; have HB := n0_; clear n0_ hb))
  go_ret
  exact ⟨q9_0, HB.out⟩

/-! ### impl_FeedsOn: function 20 -/
def impl_FeedsOn.f (k : Nat) (l0 : List (S58)) (a1 : Int) (a2 : Int) : Option (Bool) := (impl_PlanFault.f k l0).bind fun t212 => (if t212 = 0 then ((impl_Node.f l0).bind fun t213 => ((impl_in.f a1 0 (wrap64 (t213 - 1))).bind fun t214 => (if t214 = true then ((impl_Node.f l0).bind fun t215 => ((impl_in.f a2 0 (wrap64 (t215 - 1))).bind fun t216 => (if t216 = true then ((impl_feeds.f k l0 a1 a2).bind fun t217 => (some t217)) else (some false)))) else (some false)))) else (some false))
theorem impl_FeedsOn.mono : ∀ a0 a1 a2 k, LeO (impl_FeedsOn.f k a0 a1 a2) (impl_FeedsOn.f (k + 1) a0 a1 a2) := by
 intro a0 a1 a2 k
 unfold impl_FeedsOn.f
 repeat' first
   | (with_reducible exact impl_PlanFault.mono _ _)
   | (with_reducible exact impl_feeds.mono _ _ _ _)
   | (with_reducible exact LeO.refl _)
   | (with_reducible exact LeO.none _)
   | (with_reducible refine LeO.ite ?_ ?_)
   | (with_reducible refine LeO.bind ?_ (fun _ => ?_))
   | exact impl_PlanFault.mono _ _
   | exact impl_feeds.mono _ _ _ _
   | exact LeO.none _
   | refine LeO.ite ?_ ?_
   | refine LeO.bind ?_ (fun _ => ?_)
set_option maxHeartbeats 8000000 in
set_option maxRecDepth 100000 in
theorem impl_FeedsOn.calls (k : Nat) (A0 : Option Addr) (c0 : Nat) (l0 : List (S58)) (a1 : Int) (a2 : Int) (r : Bool) (w : World) (hr0 : Kd.C k58 w A0 l0.length l0) (hc0 : l0.length ≤ c0) (h : impl_FeedsOn.f k l0 a1 a2 = some r) :
  Calls Try.prog 20 #[.slice A0 l0.length c0, .int .i64 a1, .int .i64 a2] w fun e w' => e = .returned (.bool r) ∧ Below w.heap.size w w' := by
 have HR0 := Aside0.mk hr0
 have HC0 := Aside0.mk hc0
 clear hr0 hc0
 have HB := Aside0.mk (Below.refl w.heap.size w)
 have H : ((impl_PlanFault.f k l0).bind fun t212 => (if t212 = 0 then ((impl_Node.f l0).bind fun t213 => ((impl_in.f a1 0 (wrap64 (t213 - 1))).bind fun t214 => (if t214 = true then ((impl_Node.f l0).bind fun t215 => ((impl_in.f a2 0 (wrap64 (t215 - 1))).bind fun t216 => (if t216 = true then ((impl_feeds.f k l0 a1 a2).bind fun t217 => (some t217)) else (some false)))) else (some false)))) else (some false))) = some r := h
 clear h
 obtain ⟨t212, A4, H⟩ := bnd_ H
 try dsimp only at H
 by_cases c5 : t212 = 0
 rotate_left
 ·rw [if_neg c5] at H
  have c5b0 : (t212 == 0) = false := beq_eq_false_iff_ne.mpr c5
  have c5b1 : (t212 != 0) = true := bne_iff_ne.mpr c5
  obtain rfl := Option.some.inj H
  go_enter Try.func20, Try.ntmps20
  go_wp2_with (first | (refine gl_ 14 (some 8) Try.func14 #[.slice A0 l0.length c0] ?_; (with_reducible refine (impl_PlanFault.calls k _ _ l0 t212 _ ?side1 ?side2 A4.out).mono ?_); (case side1 => exact cC_ HR0.out); (case side2 => exact HC0.out); rintro e w17 ⟨rfl, hb⟩; refine ⟨_, rfl, ?_⟩; replace HB := Aside0.mk (below_step cB0_ hb); (try clear hb); (try clear hb2); (try clear hk); (try clear hi)))
  go_ret
  exact ⟨ce_, cB0_⟩
 rw [if_pos c5] at H
 have c5b0 : (t212 == 0) = true := beq_iff_eq.mpr c5
 have c5b1 : (t212 != 0) = false := bne_eq_false_iff_eq.mpr c5
 clear c5
 obtain ⟨t213, A6, H⟩ := bnd_ H
 try dsimp only at H
 obtain ⟨t214, A7, H⟩ := bnd_ H
 try dsimp only at H
 by_cases c8 : t214 = true
 rotate_left
 ·replace c8 := Bool.eq_false_iff.mpr c8
  subst c8
  rw [if_neg (show ¬ (false = true) by decide)] at H
  obtain rfl := Option.some.inj H
  go_enter Try.func20, Try.ntmps20
  go_wp2_with (first | (refine gl_ 14 (some 8) Try.func14 #[.slice A0 l0.length c0] ?_; (with_reducible refine (impl_PlanFault.calls k _ _ l0 t212 _ ?side1 ?side2 A4.out).mono ?_); (case side1 => exact cC_ HR0.out); (case side2 => exact HC0.out); rintro e w16 ⟨rfl, hb⟩; refine ⟨_, rfl, ?_⟩; replace HB := Aside0.mk (below_step cB0_ hb); (try clear hb); (try clear hb2); (try clear hk); (try clear hi)) | (go_at_call 48; (with_reducible refine (impl_Node.calls _ _ l0 t213 _ ?side1 ?side2 A6.out).mono ?_); (case side1 => exact cC_ (Kd.C_below HR0.out HB.out)); (case side2 => exact HC0.out); rintro e w' ⟨rfl, ⟨nd, rfl⟩⟩) | (go_at_call 47; (with_reducible refine (impl_in.calls a1 0 (wrap64 (t213 - 1)) false _ A7.out).mono ?_); rintro e w' ⟨rfl, ⟨nd, rfl⟩⟩))
  go_ret
  exact ⟨ce_, cB0_⟩
 subst c8
 rw [if_pos rfl] at H
 replace H := Option.bind_eq_some_iff.mp H
 obtain ⟨t215, A90, H⟩ := H
 replace H : ((impl_in.f a2 0 (wrap64 (t215 - 1))).bind fun t216 => (if t216 = true then ((impl_feeds.f k l0 a1 a2).bind fun t217 => (some t217)) else (some false))) = some r := H
 have A9 := Aside0.mk A90
 cases Option.some.inj (A6.out.symm.trans A9.out)
 clear A90
 obtain ⟨t216, A10, H⟩ := bnd_ H
 try dsimp only at H
 by_cases c11 : t216 = true
 ·subst c11
  rw [if_pos rfl] at H
  obtain ⟨t217, A12, H⟩ := bnd_ H
  try dsimp only at H
  obtain rfl := Option.some.inj H
  go_enter Try.func20, Try.ntmps20
  go_wp2_with (first | (refine gl_ 14 (some 8) Try.func14 #[.slice A0 l0.length c0] ?_; (with_reducible refine (impl_PlanFault.calls k _ _ l0 t212 _ ?side1 ?side2 A4.out).mono ?_); (case side1 => exact cC_ HR0.out); (case side2 => exact HC0.out); rintro e w13 ⟨rfl, hb⟩; refine ⟨_, rfl, ?_⟩; replace HB := Aside0.mk (below_step cB0_ hb); (try clear hb); (try clear hb2); (try clear hk); (try clear hi)) | (go_at_call 48; (with_reducible refine (impl_Node.calls _ _ l0 t213 _ ?side1 ?side2 A6.out).mono ?_); (case side1 => exact cC_ (Kd.C_below HR0.out HB.out)); (case side2 => exact HC0.out); rintro e w' ⟨rfl, ⟨nd, rfl⟩⟩) | (go_at_call 47; (with_reducible refine (impl_in.calls a1 0 (wrap64 (t213 - 1)) true _ A7.out).mono ?_); rintro e w' ⟨rfl, ⟨nd, rfl⟩⟩) | (go_at_call 48; (with_reducible refine (impl_Node.calls _ _ l0 t213 _ ?side1 ?side2 A9.out).mono ?_); (case side1 => exact cC_ (Kd.C_below HR0.out cB0_)); (case side2 => exact HC0.out); rintro e w' ⟨rfl, ⟨nd, rfl⟩⟩) | (go_at_call 47; (with_reducible refine (impl_in.calls a2 0 (wrap64 (t213 - 1)) true _ A10.out).mono ?_); rintro e w' ⟨rfl, ⟨nd, rfl⟩⟩) | (go_at_call 49; (with_reducible refine (impl_feeds.calls k _ _ l0 a1 a2 t217 _ ?side1 ?side2 A12.out).mono ?_); (case side1 => exact cC_ (Kd.C_below HR0.out cB0_)); (case side2 => exact HC0.out); rintro e w14 ⟨rfl, hb⟩; replace HB := Aside0.mk (below_step cB0_ hb); (try clear hb); (try clear hb2); (try clear hk); (try clear hi)))
  go_ret
  exact ⟨ce_, cB0_⟩
 replace c11 := Bool.eq_false_iff.mpr c11
 subst c11
 rw [if_neg (show ¬ (false = true) by decide)] at H
 obtain rfl := Option.some.inj H
 go_enter Try.func20, Try.ntmps20
 go_wp2_with (first | (refine gl_ 14 (some 8) Try.func14 #[.slice A0 l0.length c0] ?_; (with_reducible refine (impl_PlanFault.calls k _ _ l0 t212 _ ?side1 ?side2 A4.out).mono ?_); (case side1 => exact cC_ HR0.out); (case side2 => exact HC0.out); rintro e w15 ⟨rfl, hb⟩; refine ⟨_, rfl, ?_⟩; replace HB := Aside0.mk (below_step cB0_ hb); (try clear hb); (try clear hb2); (try clear hk); (try clear hi)) | (go_at_call 48; (with_reducible refine (impl_Node.calls _ _ l0 t213 _ ?side1 ?side2 A6.out).mono ?_); (case side1 => exact cC_ (Kd.C_below HR0.out HB.out)); (case side2 => exact HC0.out); rintro e w' ⟨rfl, ⟨nd, rfl⟩⟩) | (go_at_call 47; (with_reducible refine (impl_in.calls a1 0 (wrap64 (t213 - 1)) true _ A7.out).mono ?_); rintro e w' ⟨rfl, ⟨nd, rfl⟩⟩) | (go_at_call 48; (with_reducible refine (impl_Node.calls _ _ l0 t213 _ ?side1 ?side2 A9.out).mono ?_); (case side1 => exact cC_ (Kd.C_below HR0.out cB0_)); (case side2 => exact HC0.out); rintro e w' ⟨rfl, ⟨nd, rfl⟩⟩) | (go_at_call 47; (with_reducible refine (impl_in.calls a2 0 (wrap64 (t213 - 1)) false _ A10.out).mono ?_); rintro e w' ⟨rfl, ⟨nd, rfl⟩⟩))
 go_ret
 exact ⟨ce_, cB0_⟩

/-! ### laws_lwBig: function 23 -/
def laws_lwBig.f (l0 : List Int) : Option (Bool) := some (decide ((l0.length : Int) > 1048576))
set_option maxHeartbeats 8000000 in
set_option maxRecDepth 100000 in
theorem laws_lwBig.calls (A0 : Option Addr) (c0 : Nat) (l0 : List Int) (r : Bool) (w : World) (hr0 : Kd.C (Kd.int .u8) w A0 l0.length l0) (hc0 : l0.length ≤ c0) (h : laws_lwBig.f l0 = some r) :
  Calls Try.prog 23 #[.slice A0 l0.length c0] w fun e w' => e = .returned (.bool r) ∧ Drawn0 w w' := by
 have HR0 := Aside0.mk hr0
 have HC0 := Aside0.mk hc0
 clear hr0 hc0
 have H : (some (decide ((l0.length : Int) > 1048576))) = some r := h
 clear h
 obtain rfl := Option.some.inj H
 go_enter Try.func23, Try.ntmps23
 go_wp2
 go_ret
 exact ⟨cs_, cD_⟩

/-- A state of type 91 at block g of W; what its slices lead to came in by w0. -/
def IsS91 (w0 W : World) (g : Nat) (f0 : List Int) (f1 : Int) : Prop := ∃ A0 c0, W.heap[g]? = some (.cells #[.slice A0 f0.length c0, .int .i64 f1] 91 (0, 0)) ∧ w0.heap.size ≤ g ∧ Kd.C (Kd.int .u8) w0 A0 f0.length f0
theorem IsS91.grown {w0 W : World} {g : Nat} {f0 : List Int} {f1 : Int} {W1 : World} {row : Option Nat} (h : IsS91 w0 W g f0 f1) (hw : W.grownBy W1 row) (hne : some g ≠ row) : IsS91 w0 W1 g f0 f1 := by
 obtain ⟨A0, c0, hb, hg, hr0⟩ := h
 exact ⟨A0, c0, blk_grown hb hw hne, hg, hr0⟩
theorem IsS91.own_neN {w0 W : World} {g : Nat} {f0 : List Int} {f1 : Int} {α : Type} {d : Kd α} {e : Nat} {base : Nat} {ok : Nat → Prop} {v : Value} {xs : List α} (h : IsS91 w0 W g f0 f1) (ho : Kd.N d e W base ok v xs) (ht : e ≠ 91) : some g ≠ v.ownBlock := by
 obtain ⟨A0, c0, hb, hg, hr0⟩ := h
 exact Kd.N_ne ho hb ht
theorem IsS91.fresh {w0 W : World} {g : Nat} {f0 : List Int} {f1 : Int} (h : IsS91 w0 W g f0 f1) : ∀ k, W.heap.size ≤ k → k ≠ g := by
 obtain ⟨A0, c0, hb, hg, hr0⟩ := h
 exact Kd.freshB hb
theorem IsS91.kept {w0 W : World} {g : Nat} {f0 : List Int} {f1 : Int} {W1 : World} {S : Nat → Prop} (h : IsS91 w0 W g f0 f1) (hk : Kept W W1 S) (hne : ¬ S g) : IsS91 w0 W1 g f0 f1 := by
 obtain ⟨A0, c0, hb, hg, hr0⟩ := h
 exact ⟨A0, c0, blk_kept hb hk hne, hg, hr0⟩
theorem IsS91.below {w0 W : World} {g : Nat} {f0 : List Int} {f1 : Int} {W1 : World} (h : IsS91 w0 W g f0 f1) (hw : Below W.heap.size W W1) : IsS91 w0 W1 g f0 f1 := h.grown (grown_of_below hw none) (by simp)
theorem IsS91.alloc {w0 W : World} {g : Nat} {f0 : List Int} {f1 : Int} (h : IsS91 w0 W g f0 f1) (o : Obj) : IsS91 w0 (W.alloc o) g f0 f1 := h.below (below_alloc (Below.refl _ _) o)
theorem IsS91.drewN {w0 W : World} {g : Nat} {f0 : List Int} {f1 : Int} (h : IsS91 w0 W g f0 f1) (m : Nat) : IsS91 w0 (W.drewN m) g f0 f1 := h
theorem IsS91.drew {w0 W : World} {g : Nat} {f0 : List Int} {f1 : Int} (h : IsS91 w0 W g f0 f1) : IsS91 w0 W.drew g f0 f1 := h
theorem IsS91.at_ {w0 W : World} {g : Nat} {f0 : List Int} {f1 : Int} {w' : World} {m : Nat} (hq : W.drewN m = w') (h : IsS91 w0 W g f0 f1) : IsS91 w0 w' g f0 f1 := by subst hq; exact IsS91.drewN h m
theorem IsS91.apart {w0 W : World} {g : Nat} {f0 : List Int} {f1 : Int} {α : Type} {d : Kd α} {e : Nat} {base : Nat} {ok : Nat → Prop} {v : Value} {xs : List α} (h : IsS91 w0 W g f0 f1) (ho : d.R e W base ok v xs) (ht : ∀ q, q ∈ e :: d.E → q ≠ 91) : d.R e W base (fun k => ok k ∧ k ≠ g) v xs := by
 obtain ⟨A0, c0, hb, hg, hr0⟩ := h
 exact Kd.R_types ho hb ht
theorem IsS91.own_ne {w0 W : World} {g : Nat} {f0 : List Int} {f1 : Int} {α : Type} {d : Kd α} {e : Nat} {base : Nat} {ok : Nat → Prop} {v : Value} {xs : List α} (h : IsS91 w0 W g f0 f1) (ho : d.R e W base ok v xs) (ht : e ≠ 91) : some g ≠ v.ownBlock := by
 obtain ⟨A0, c0, hb, hg, hr0⟩ := h
 exact Kd.R_ne ho hb ht
theorem IsS91.apartQ {w0 W : World} {g : Nat} {f0 : List Int} {f1 : Int} {α : Type} {d : Kd α} {e : Nat} {base : Nat} {ok : Nat → Prop} {v : Value} {xs : List α} (h : IsS91 w0 W g f0 f1) (ho : d.Q e W base ok v xs) (ht : ∀ q, q ∈ e :: d.E → q ≠ 91) : d.Q e W base (fun k => ok k ∧ k ≠ g) v xs := by
 obtain ⟨A0, c0, hb, hg, hr0⟩ := h
 exact Kd.Q_types ho hb ht
theorem IsS91.own_neQ {w0 W : World} {g : Nat} {f0 : List Int} {f1 : Int} {α : Type} {d : Kd α} {e : Nat} {base : Nat} {ok : Nat → Prop} {v : Value} {xs : List α} (h : IsS91 w0 W g f0 f1) (ho : d.Q e W base ok v xs) (ht : e ≠ 91) : some g ≠ v.ownBlock := by
 obtain ⟨A0, c0, hb, hg, hr0⟩ := h
 exact Kd.Q_ne ho hb ht
theorem IsS91.apartS {w0 W : World} {g : Nat} {f0 : List Int} {f1 : Int} {α : Type} {d : Kd α} {e : Nat} {base : Nat} {ok : Nat → Prop} {v : Value} {xs : List α} (h : IsS91 w0 W g f0 f1) (ho : d.S e W base ok v xs) (ht : ∀ q, q ∈ e :: d.E → q ≠ 91) : d.S e W base (fun k => ok k ∧ k ≠ g) v xs := by
 obtain ⟨A0, c0, hb, hg, hr0⟩ := h
 exact Kd.S_types ho hb ht
theorem IsS91.own_neS {w0 W : World} {g : Nat} {f0 : List Int} {f1 : Int} {α : Type} {d : Kd α} {e : Nat} {base : Nat} {ok : Nat → Prop} {v : Value} {xs : List α} (h : IsS91 w0 W g f0 f1) (ho : d.S e W base ok v xs) (ht : e ≠ 91) : some g ≠ v.ownBlock := by
 obtain ⟨A0, c0, hb, hg, hr0⟩ := h
 exact Kd.S_ne ho hb ht
theorem IsS91.lt {w0 W : World} {g : Nat} {f0 : List Int} {f1 : Int} (h : IsS91 w0 W g f0 f1) : g < W.heap.size := by
 obtain ⟨A0, c0, hb, hg, hr0⟩ := h
 exact blk_lt hb
theorem IsS91.ge {w0 W : World} {g : Nat} {f0 : List Int} {f1 : Int} (h : IsS91 w0 W g f0 f1) : w0.heap.size ≤ g := by
 obtain ⟨A0, c0, hb, hg, hr0⟩ := h
 exact hg
theorem IsS91.ne_blk {w0 W : World} {g : Nat} {f0 : List Int} {f1 : Int} {a : Nat} {cs : Array Value} {t : TypeId} {fr : Nat × Nat} (h : IsS91 w0 W g f0 f1) (hb2 : W.heap[a]? = some (.cells cs t fr)) (ht : t ≠ 91) : g ≠ a := by
 obtain ⟨A0, c0, hb, hg, hr0⟩ := h
 rintro rfl
 rw [hb] at hb2
 injection hb2 with hb2
 injection hb2 with _ ht2
 exact ht ht2.symm
theorem IsS91.far {w0 W : World} {g : Nat} {f0 : List Int} {f1 : Int} {p : Addr} (h : IsS91 w0 W g f0 f1) (hne : g ≠ p.block) (u : Value) : IsS91 w0 (W.setCell p u) g f0 f1 := by
 obtain ⟨A0, c0, hb, hg, hr0⟩ := h
 exact ⟨A0, c0, blk_far hb hne u, hg, hr0⟩
theorem cellS91_0 {W : World} {g : Nat} {A0 : Option Addr} {c0 : Nat} {f0 : List Int} {f1 : Int} (h : W.heap[g]? = some (.cells #[.slice A0 f0.length c0, .int .i64 f1] 91 (0, 0))) : W.cell? ⟨g, 0, none⟩ = some (.slice A0 f0.length c0) := (blk_cell h 0).trans rfl
theorem cellS91_1 {W : World} {g : Nat} {A0 : Option Addr} {c0 : Nat} {f0 : List Int} {f1 : Int} (h : W.heap[g]? = some (.cells #[.slice A0 f0.length c0, .int .i64 f1] 91 (0, 0))) : W.cell? ⟨g, 1, none⟩ = some (.int .i64 f1) := (blk_cell h 1).trans rfl
theorem IsS91.set_1 {w0 W : World} {g : Nat} {f0 : List Int} {f1 : Int} (h : IsS91 w0 W g f0 f1) (x : Int) : IsS91 w0 (W.setCell ⟨g, 1, none⟩ (.int .i64 x)) g f0 x := by
 obtain ⟨A0, c0, hb, hg, hr0⟩ := h
 exact ⟨A0, c0, by simpa using blk_set hb 1 (.int .i64 x), hg, hr0⟩
theorem IsS91.new (w0 W : World) (A0 : Option Addr) (c0 : Nat) (f0 : List Int) (f1 : Int) (hB : Below w0.heap.size w0 W) (hr0 : Kd.C (Kd.int .u8) w0 A0 f0.length f0) : IsS91 w0 (W.alloc (.cells #[.slice A0 f0.length c0, .int .i64 f1] 91)) W.heap.size f0 f1 := ⟨A0, c0, by simpa using heap_alloc_new W _, hB.size, hr0⟩

theorem cI_ {q p : Prop} (x : q) (h : q → p := by intro x_; repeat (first | (with_reducible first | exact x_ | apply IsS91.alloc | apply IsS91.drewN | apply IsS91.drew | apply IsS91.set_1) | exact x_)) : p := h x
/-! ### spec_l1Source: function 52 -/
def spec_l1Source.f (l0 : List Int) : Option (List Int × Int) := some (l0, 0)
set_option maxHeartbeats 8000000 in
set_option maxRecDepth 100000 in
theorem spec_l1Source.calls (A0 : Option Addr) (c0 : Nat) (l0 : List Int) (r1 : List Int) (r2 : Int) (w0 w : World) (hB : Below w0.heap.size w0 w) (hr0 : Kd.C (Kd.int .u8) w0 A0 l0.length l0) (hc0 : l0.length ≤ c0) (h : spec_l1Source.f l0 = some (r1, r2)) :
  Calls Try.prog 52 #[.slice A0 l0.length c0] w fun e w' => ∃ g_ : Nat, e = .returned (.pointer (some ⟨g_, 0, none⟩)) ∧ IsS91 w0 w' g_ r1 r2 ∧ Below w0.heap.size w0 w' ∧ Below w.heap.size w w' := by
 have hu91 := Try.underlying91
 have HR0 := Aside0.mk hr0
 have HC0 := Aside0.mk hc0
 clear hr0 hc0
 have HBW := Aside0.mk (Below.refl w.heap.size w)
 have HW0 := Aside0.mk hB.size
 have HB := Aside0.mk hB
 clear hB
 have H : (some (l0, 0)) = some (r1, r2) := h
 clear h
 simp only [Option.some.injEq, Prod.mk.injEq] at H
 obtain ⟨rfl, rfl⟩ := H
 go_enter Try.func52, Try.ntmps52
 go_wp2_with (first | (refine bx_ 5 #[.slice A0 l0.length c0, .int .i64 0] 91 ?_; intro gb218 hg w2 hbox hb; replace HB := Aside0.mk (below_step cB0_ hb); have BK218 := Aside0.mk (hbox); have GW218 := Aside0.mk ((by rw [hg]; exact (below_size (by repeat (first | (with_reducible first | exact HBW.out | apply below_alloc | apply pw_below_drewN | apply below_drew1) | exact HBW.out))) : w.heap.size ≤ gb218)); have GE218 := Aside0.mk ((Nat.le_trans HW0.out (by rw [hg]; exact (below_size (by repeat (first | (with_reducible first | exact HBW.out | apply below_alloc | apply pw_below_drewN | apply below_drew1) | exact HBW.out))) : w.heap.size ≤ gb218) : w0.heap.size ≤ gb218)); replace HBW := Aside0.mk (below_step HBW.out hb); clear hb hbox hg))
 go_ret
 exact ⟨_, rfl, (show IsS91 w0 _ gb218 l0 0 from ⟨_, _, cO_ BK218.out, GE218.out, HR0.out⟩), cB1_ GE218.out, by repeat (first | (with_reducible first | exact HBW.out | apply below_alloc | apply pw_below_drewN | apply below_drew1 | refine below_set ?_ GW218.out) | exact HBW.out)⟩

/-! ### spec_l1Next: function 55 -/
def spec_l1Next.f (s0_0 : List Int) (s0_1 : Int) (a1 : Int) : Option (Int × Int) := if a1 < 1 then (some (0, wrap64 (s0_1 + 1))) else (if (s0_0.length : Int) = 0 then (if a1 = 0 then (none) else (some (Int.tmod (wrap64 ((wrap64 ((wrap64 (s0_1 + 1)) - 1)) * 7)) a1, wrap64 (s0_1 + 1)))) else (if 0 ≤ (Int.tmod (wrap64 ((wrap64 (s0_1 + 1)) - 1)) (s0_0.length : Int)) then (if (Int.tmod (wrap64 ((wrap64 (s0_1 + 1)) - 1)) (s0_0.length : Int)) < (s0_0.length : Int) then (if a1 > 200 then (if 0 ≤ (Int.tmod (wrap64 ((wrap64 ((wrap64 (s0_1 + 1)) - 1)) + 1)) (s0_0.length : Int)) then (if (Int.tmod (wrap64 ((wrap64 ((wrap64 (s0_1 + 1)) - 1)) + 1)) (s0_0.length : Int)) < (s0_0.length : Int) then (if a1 = 0 then (none) else (some (Int.tmod (wrap64 ((wrap64 ((wrap64 ((wrap64 ((wrap64 (rd s0_0 (Int.tmod (wrap64 ((wrap64 (s0_1 + 1)) - 1)) (s0_0.length : Int)))) + (wrap64 ((wrap64 (Int.tdiv (wrap64 ((wrap64 (s0_1 + 1)) - 1)) (s0_0.length : Int))) * 37)))) * 251)) + (wrap64 ((wrap64 (rd s0_0 (Int.tmod (wrap64 ((wrap64 ((wrap64 (s0_1 + 1)) - 1)) + 1)) (s0_0.length : Int)))) * 13)))) + (wrap64 ((wrap64 (s0_1 + 1)) - 1)))) a1, wrap64 (s0_1 + 1)))) else (none)) else (none)) else (if a1 = 0 then (none) else (some (Int.tmod (wrap64 ((wrap64 (rd s0_0 (Int.tmod (wrap64 ((wrap64 (s0_1 + 1)) - 1)) (s0_0.length : Int)))) + (wrap64 ((wrap64 (Int.tdiv (wrap64 ((wrap64 (s0_1 + 1)) - 1)) (s0_0.length : Int))) * 37)))) a1, wrap64 (s0_1 + 1))))) else (none)) else (none)))
set_option maxHeartbeats 8000000 in
set_option maxRecDepth 100000 in
theorem spec_l1Next.calls (g : Nat) (s0_0 : List Int) (s0_1 : Int) (a1 : Int) (r1 : Int) (r2 : Int) (w0 w : World) (hI : IsS91 w0 w g s0_0 s0_1) (hB : Below w0.heap.size w0 w) (h : spec_l1Next.f s0_0 s0_1 a1 = some (r1, r2)) :
  Calls Try.prog 55 #[.pointer (some ⟨g, 0, none⟩), .int .i64 a1] w fun e w' => e = .returned (.int .i64 r1) ∧ IsS91 w0 w' g s0_0 r2 ∧ Below w0.heap.size w0 w' ∧ KeepBut w w' g none := by
 have HI0 := Aside0.mk hI
 have HK := Aside0.mk (KeepBut.refl w g none)
 have HL := Aside0.mk hB.size
 clear hI
 have HW0 := Aside0.mk hB.size
 have HB := Aside0.mk hB
 clear hB
 have H : (if a1 < 1 then (some (0, wrap64 (s0_1 + 1))) else (if (s0_0.length : Int) = 0 then (if a1 = 0 then (none) else (some (Int.tmod (wrap64 ((wrap64 ((wrap64 (s0_1 + 1)) - 1)) * 7)) a1, wrap64 (s0_1 + 1)))) else (if 0 ≤ (Int.tmod (wrap64 ((wrap64 (s0_1 + 1)) - 1)) (s0_0.length : Int)) then (if (Int.tmod (wrap64 ((wrap64 (s0_1 + 1)) - 1)) (s0_0.length : Int)) < (s0_0.length : Int) then (if a1 > 200 then (if 0 ≤ (Int.tmod (wrap64 ((wrap64 ((wrap64 (s0_1 + 1)) - 1)) + 1)) (s0_0.length : Int)) then (if (Int.tmod (wrap64 ((wrap64 ((wrap64 (s0_1 + 1)) - 1)) + 1)) (s0_0.length : Int)) < (s0_0.length : Int) then (if a1 = 0 then (none) else (some (Int.tmod (wrap64 ((wrap64 ((wrap64 ((wrap64 ((wrap64 (rd s0_0 (Int.tmod (wrap64 ((wrap64 (s0_1 + 1)) - 1)) (s0_0.length : Int)))) + (wrap64 ((wrap64 (Int.tdiv (wrap64 ((wrap64 (s0_1 + 1)) - 1)) (s0_0.length : Int))) * 37)))) * 251)) + (wrap64 ((wrap64 (rd s0_0 (Int.tmod (wrap64 ((wrap64 ((wrap64 (s0_1 + 1)) - 1)) + 1)) (s0_0.length : Int)))) * 13)))) + (wrap64 ((wrap64 (s0_1 + 1)) - 1)))) a1, wrap64 (s0_1 + 1)))) else (none)) else (none)) else (if a1 = 0 then (none) else (some (Int.tmod (wrap64 ((wrap64 (rd s0_0 (Int.tmod (wrap64 ((wrap64 (s0_1 + 1)) - 1)) (s0_0.length : Int)))) + (wrap64 ((wrap64 (Int.tdiv (wrap64 ((wrap64 (s0_1 + 1)) - 1)) (s0_0.length : Int))) * 37)))) a1, wrap64 (s0_1 + 1))))) else (none)) else (none)))) = some (r1, r2) := h
 clear h
 by_cases c3 : a1 < 1
 ·rw [if_pos c3] at H
  have c3b0 : decide (a1 < 1) = true := decide_eq_true c3
  clear c3
  simp only [Option.some.injEq, Prod.mk.injEq] at H
  obtain ⟨rfl, rfl⟩ := H
  obtain ⟨ASz4_0, cSz4_0, HGz4, hgz4, HSz4_0⟩ := HI0.out
  have hcz4_0 := cellS91_0 HGz4
  have hcz4_1 := cellS91_1 HGz4
  have hfz4_1 := blk_frozen HGz4 1
  clear HGz4 hgz4
  go_enter Try.func55, Try.ntmps55
  go_wp2
  repeat (go_quiet (fail); try go_wp2)
  go_ret
  exact ⟨ce_, cI_ HI0.out, cB1_ (IsS91.ge HI0.out), cK_ HK.out⟩
 rw [if_neg c3] at H
 have c3b0 : decide (a1 < 1) = false := decide_eq_false c3
 clear c3
 by_cases c5 : (s0_0.length : Int) = 0
 ·rw [if_pos c5] at H
  have c5b0 : ((s0_0.length : Int) == 0) = true := beq_iff_eq.mpr c5
  have c5b1 : ((s0_0.length : Int) != 0) = false := bne_eq_false_iff_eq.mpr c5
  clear c5
  by_cases c6 : a1 = 0
  ·rw [if_pos c6] at H
   exact absurd H (by simp)
  rw [if_neg c6] at H
  have c6b0 : (a1 == 0) = false := beq_eq_false_iff_ne.mpr c6
  have c6b1 : (a1 != 0) = true := bne_iff_ne.mpr c6
  simp only [Option.some.injEq, Prod.mk.injEq] at H
  obtain ⟨rfl, rfl⟩ := H
  obtain ⟨ASz7_0, cSz7_0, HGz7, hgz7, HSz7_0⟩ := HI0.out
  have hcz7_0 := cellS91_0 HGz7
  have hcz7_1 := cellS91_1 HGz7
  have hfz7_1 := blk_frozen HGz7 1
  clear HGz7 hgz7
  go_enter Try.func55, Try.ntmps55
  go_wp2
  repeat (go_quiet (fail); try go_wp2)
  go_ret
  exact ⟨ce_, cI_ HI0.out, cB1_ (IsS91.ge HI0.out), cK_ HK.out⟩
 rw [if_neg c5] at H
 have c5b0 : ((s0_0.length : Int) == 0) = false := beq_eq_false_iff_ne.mpr c5
 have c5b1 : ((s0_0.length : Int) != 0) = true := bne_iff_ne.mpr c5
 have c5b2 : ¬ (s0_0 = []) := fun h_ => c5 (by rw [h_]; rfl)
 obtain ⟨ji8, hji8⟩ : ∃ j_ : Int, (Int.tmod (wrap64 ((wrap64 (s0_1 + 1)) - 1)) (s0_0.length : Int)) = j_ := ⟨_, rfl⟩
 replace H : (if 0 ≤ (ji8) then (if (ji8) < (s0_0.length : Int) then (if a1 > 200 then (if 0 ≤ (Int.tmod (wrap64 ((wrap64 ((wrap64 (s0_1 + 1)) - 1)) + 1)) (s0_0.length : Int)) then (if (Int.tmod (wrap64 ((wrap64 ((wrap64 (s0_1 + 1)) - 1)) + 1)) (s0_0.length : Int)) < (s0_0.length : Int) then (if a1 = 0 then (none) else (some (Int.tmod (wrap64 ((wrap64 ((wrap64 ((wrap64 ((wrap64 (rd s0_0 (ji8))) + (wrap64 ((wrap64 (Int.tdiv (wrap64 ((wrap64 (s0_1 + 1)) - 1)) (s0_0.length : Int))) * 37)))) * 251)) + (wrap64 ((wrap64 (rd s0_0 (Int.tmod (wrap64 ((wrap64 ((wrap64 (s0_1 + 1)) - 1)) + 1)) (s0_0.length : Int)))) * 13)))) + (wrap64 ((wrap64 (s0_1 + 1)) - 1)))) a1, wrap64 (s0_1 + 1)))) else (none)) else (none)) else (if a1 = 0 then (none) else (some (Int.tmod (wrap64 ((wrap64 (rd s0_0 (ji8))) + (wrap64 ((wrap64 (Int.tdiv (wrap64 ((wrap64 (s0_1 + 1)) - 1)) (s0_0.length : Int))) * 37)))) a1, wrap64 (s0_1 + 1))))) else (none)) else (none)) = some (r1, r2) := by first | (rw [hji8] at H; exact H) | (simp only [hji8] at H ⊢; exact H)
 by_cases c9 : 0 ≤ (ji8)
 rotate_left
 ·rw [if_neg c9] at H
  exact absurd H (by simp)
 rw [if_pos c9] at H
 have c9b0 : decide (0 ≤ (ji8)) = true := decide_eq_true c9
 clear c9
 by_cases c10 : (ji8) < (s0_0.length : Int)
 rotate_left
 ·rw [if_neg c10] at H
  exact absurd H (by simp)
 rw [if_pos c10] at H
 have c10b0 : decide ((ji8) < (s0_0.length : Int)) = true := decide_eq_true c10
 clear c10
 by_cases c11 : a1 > 200
 rotate_left
 ·rw [if_neg c11] at H
  have c11b0 : decide (200 < a1) = false := decide_eq_false c11
  clear c11
  by_cases c17 : a1 = 0
  ·rw [if_pos c17] at H
   exact absurd H (by simp)
  rw [if_neg c17] at H
  have c17b0 : (a1 == 0) = false := beq_eq_false_iff_ne.mpr c17
  have c17b1 : (a1 != 0) = true := bne_iff_ne.mpr c17
  simp only [Option.some.injEq, Prod.mk.injEq] at H
  obtain ⟨rfl, rfl⟩ := H
  obtain ⟨ASz18_0, cSz18_0, HGz18, hgz18, HSz18_0⟩ := HI0.out
  have hcz18_0 := cellS91_0 HGz18
  have hcz18_1 := cellS91_1 HGz18
  have hfz18_1 := blk_frozen HGz18 1
  clear HGz18 hgz18
  have p219 : 0 ≤ ((ji8) : Int) := of_decide_eq_true ca_
  have q219 : (ji8) < (s0_0.length : Int) := of_decide_eq_true ca_
  obtain ⟨ad219, e219, hx219_0⟩ := Kd.at_int HSz18_0 (ji8) p219 q219
  cases e219
  have hn219_0 : ad219.block ≠ g := Nat.ne_of_lt (Nat.lt_of_lt_of_le (by have := World.block_lt_of_cell? _ _ hx219_0; first | rwa [add_block] at this | exact this) (IsS91.ge HI0.out))
  replace hx219_0 := pw_cell_below HB.out hx219_0
  replace hx219_0 := (cell_far (p := ⟨g, 1, none⟩) (by first | (rw [add_block]; exact hn219_0) | (show (Addr.add _ _).block ≠ _; rw [add_block]; exact hn219_0) | exact hn219_0) (.int .i64 (wrap64 (s0_1 + 1)))).trans hx219_0
  (try have hy219_0 := fun (n_ : Nat) => (show (((w.drewN n_).setCell ⟨g, 1, none⟩ (.int .i64 (wrap64 (s0_1 + 1))))).cell? _ = some _ from hx219_0))
  clear hn219_0
  replace p219 := eq_true p219
  replace q219 := eq_true q219
  go_enter Try.func55, Try.ntmps55
  go_wp2
  repeat (go_quiet (fail); try go_wp2)
  go_ret
  exact ⟨by first | rfl | (simp [errW_none, errW_some] <;> rfl) | (simp only [← hji8]; first | rfl | (simp [errW_none, errW_some] <;> rfl)) | (simp [*, errW_none, errW_some] <;> rfl), cI_ HI0.out, cB1_ (IsS91.ge HI0.out), cK_ HK.out⟩
 rw [if_pos c11] at H
 have c11b0 : decide (200 < a1) = true := decide_eq_true c11
 clear c11
 obtain ⟨ji12, hji12⟩ : ∃ j_ : Int, (Int.tmod (wrap64 ((wrap64 ((wrap64 (s0_1 + 1)) - 1)) + 1)) (s0_0.length : Int)) = j_ := ⟨_, rfl⟩
 replace H : (if 0 ≤ (ji12) then (if (ji12) < (s0_0.length : Int) then (if a1 = 0 then (none) else (some (Int.tmod (wrap64 ((wrap64 ((wrap64 ((wrap64 ((wrap64 (rd s0_0 (ji8))) + (wrap64 ((wrap64 (Int.tdiv (wrap64 ((wrap64 (s0_1 + 1)) - 1)) (s0_0.length : Int))) * 37)))) * 251)) + (wrap64 ((wrap64 (rd s0_0 (ji12))) * 13)))) + (wrap64 ((wrap64 (s0_1 + 1)) - 1)))) a1, wrap64 (s0_1 + 1)))) else (none)) else (none)) = some (r1, r2) := by first | (rw [hji12] at H; exact H) | (simp only [hji12] at H ⊢; exact H)
 by_cases c13 : 0 ≤ (ji12)
 rotate_left
 ·rw [if_neg c13] at H
  exact absurd H (by simp)
 rw [if_pos c13] at H
 have c13b0 : decide (0 ≤ (ji12)) = true := decide_eq_true c13
 clear c13
 by_cases c14 : (ji12) < (s0_0.length : Int)
 rotate_left
 ·rw [if_neg c14] at H
  exact absurd H (by simp)
 rw [if_pos c14] at H
 have c14b0 : decide ((ji12) < (s0_0.length : Int)) = true := decide_eq_true c14
 clear c14
 by_cases c15 : a1 = 0
 ·rw [if_pos c15] at H
  exact absurd H (by simp)
 rw [if_neg c15] at H
 have c15b0 : (a1 == 0) = false := beq_eq_false_iff_ne.mpr c15
 have c15b1 : (a1 != 0) = true := bne_iff_ne.mpr c15
 simp only [Option.some.injEq, Prod.mk.injEq] at H
 obtain ⟨rfl, rfl⟩ := H
 obtain ⟨ASz16_0, cSz16_0, HGz16, hgz16, HSz16_0⟩ := HI0.out
 have hcz16_0 := cellS91_0 HGz16
 have hcz16_1 := cellS91_1 HGz16
 have hfz16_1 := blk_frozen HGz16 1
 clear HGz16 hgz16
 have p219 : 0 ≤ ((ji8) : Int) := of_decide_eq_true ca_
 have q219 : (ji8) < (s0_0.length : Int) := of_decide_eq_true ca_
 obtain ⟨ad219, e219, hx219_0⟩ := Kd.at_int HSz16_0 (ji8) p219 q219
 cases e219
 have hn219_0 : ad219.block ≠ g := Nat.ne_of_lt (Nat.lt_of_lt_of_le (by have := World.block_lt_of_cell? _ _ hx219_0; first | rwa [add_block] at this | exact this) (IsS91.ge HI0.out))
 replace hx219_0 := pw_cell_below HB.out hx219_0
 replace hx219_0 := (cell_far (p := ⟨g, 1, none⟩) (by first | (rw [add_block]; exact hn219_0) | (show (Addr.add _ _).block ≠ _; rw [add_block]; exact hn219_0) | exact hn219_0) (.int .i64 (wrap64 (s0_1 + 1)))).trans hx219_0
 (try have hy219_0 := fun (n_ : Nat) => (show (((w.drewN n_).setCell ⟨g, 1, none⟩ (.int .i64 (wrap64 (s0_1 + 1))))).cell? _ = some _ from hx219_0))
 clear hn219_0
 replace p219 := eq_true p219
 replace q219 := eq_true q219
 have p220 : 0 ≤ ((ji12) : Int) := of_decide_eq_true ca_
 have q220 : (ji12) < (s0_0.length : Int) := of_decide_eq_true ca_
 obtain ⟨ad220, e220, hx220_0⟩ := Kd.at_int HSz16_0 (ji12) p220 q220
 obtain rfl : ad219 = ad220 := (by injection e220)
 have hn220_0 : ad219.block ≠ g := Nat.ne_of_lt (Nat.lt_of_lt_of_le (by have := World.block_lt_of_cell? _ _ hx220_0; first | rwa [add_block] at this | exact this) (IsS91.ge HI0.out))
 replace hx220_0 := pw_cell_below HB.out hx220_0
 replace hx220_0 := (cell_far (p := ⟨g, 1, none⟩) (by first | (rw [add_block]; exact hn220_0) | (show (Addr.add _ _).block ≠ _; rw [add_block]; exact hn220_0) | exact hn220_0) (.int .i64 (wrap64 (s0_1 + 1)))).trans hx220_0
 (try have hy220_0 := fun (n_ : Nat) => (show (((w.drewN n_).setCell ⟨g, 1, none⟩ (.int .i64 (wrap64 (s0_1 + 1))))).cell? _ = some _ from hx220_0))
 clear hn220_0
 replace p220 := eq_true p220
 replace q220 := eq_true q220
 go_enter Try.func55, Try.ntmps55
 go_wp2
 repeat (go_quiet (fail); try go_wp2)
 go_ret
 exact ⟨by first | rfl | (simp [errW_none, errW_some] <;> rfl) | (simp only [← hji8, ← hji12]; first | rfl | (simp [errW_none, errW_some] <;> rfl)) | (simp [*, errW_none, errW_some] <;> rfl), cI_ HI0.out, cB1_ (IsS91.ge HI0.out), cK_ HK.out⟩

/-! ### spec_l1Pick: function 54 -/
def spec_l1Pick.f (s0_0 : List Int) (s0_1 : Int) (l1 : List Int) : Option (Int × Int) := (spec_l1Next.f s0_0 s0_1 (l1.length : Int)).bind fun bt221 => (if 0 ≤ bt221.1 then (if bt221.1 < (l1.length : Int) then (some (rd l1 bt221.1, bt221.2)) else (none)) else (none))
set_option maxHeartbeats 8000000 in
set_option maxRecDepth 100000 in
theorem spec_l1Pick.calls (g : Nat) (s0_0 : List Int) (s0_1 : Int) (A1 : Option Addr) (c1 : Nat) (l1 : List Int) (r1 : Int) (r2 : Int) (w0 w : World) (hI : IsS91 w0 w g s0_0 s0_1) (hB : Below w0.heap.size w0 w) (hr1 : Kd.C (Kd.int .i64) w A1 l1.length l1) (hc1 : l1.length ≤ c1) (hf1 : ∀ ad, A1 = some ad → 0 < l1.length → ad.block ≠ g) (h : spec_l1Pick.f s0_0 s0_1 l1 = some (r1, r2)) :
  Calls Try.prog 54 #[.pointer (some ⟨g, 0, none⟩), .slice A1 l1.length c1] w fun e w' => e = .returned (.int .i64 r1) ∧ IsS91 w0 w' g s0_0 r2 ∧ Below w0.heap.size w0 w' ∧ KeepBut w w' g none := by
 have HR1 := Aside0.mk hr1
 have HC1 := Aside0.mk hc1
 clear hr1 hc1
 have HI0 := Aside0.mk hI
 have HK := Aside0.mk (KeepBut.refl w g none)
 have HL := Aside0.mk hB.size
 clear hI
 have HW0 := Aside0.mk hB.size
 have HB := Aside0.mk hB
 clear hB
 have H : ((spec_l1Next.f s0_0 s0_1 (l1.length : Int)).bind fun bt221 => (if 0 ≤ bt221.1 then (if bt221.1 < (l1.length : Int) then (some (rd l1 bt221.1, bt221.2)) else (none)) else (none))) = some (r1, r2) := h
 clear h
 obtain ⟨⟨t221, t222⟩, A3, H⟩ := bnd_ H
 try dsimp only at H
 by_cases c4 : 0 ≤ t221
 rotate_left
 ·rw [if_neg c4] at H
  exact absurd H (by simp)
 rw [if_pos c4] at H
 have c4b0 : decide (0 ≤ t221) = true := decide_eq_true c4
 clear c4
 by_cases c5 : t221 < (l1.length : Int)
 ·rw [if_pos c5] at H
  have c5b0 : decide (t221 < (l1.length : Int)) = true := decide_eq_true c5
  clear c5
  simp only [Option.some.injEq, Prod.mk.injEq] at H
  obtain ⟨rfl, rfl⟩ := H
  go_enter Try.func54, Try.ntmps54
  go_wp2_with (first | (refine gl_ 55 (some 9) Try.func55 #[.pointer (some ⟨g, 0, none⟩), .int .i64 (l1.length : Int)] ?_; (with_reducible refine (spec_l1Next.calls g s0_0 s0_1 (l1.length : Int) t221 t222 w0 _ ?side1 ?side2 A3.out).mono ?_); (case side1 => exact cI_ HI0.out); (case side2 => exact cB1_ (IsS91.ge HI0.out)); rintro e w6 ⟨rfl, hi, hb, hk⟩; refine ⟨_, rfl, ?_⟩; replace HK := Aside0.mk (KeepBut.trans (cK_ HK.out) hk (.inl rfl)); replace HB := Aside0.mk (hb); replace HI0 := Aside0.mk (hi); (try clear hb); (try clear hb2); (try clear hk); (try clear hi); have p223 : 0 ≤ (t221 : Int) := of_decide_eq_true ca_; have q223 : t221 < (l1.length : Int) := of_decide_eq_true ca_; obtain ⟨ad223, e223, hx223_0⟩ := Kd.at_int HR1.out t221 p223 q223; cases e223; replace hx223_0 := keep_cell HK.out hx223_0 (by first | (rw [add_block]; exact hf1 _ rfl (by omega)) | exact hf1 _ rfl (by omega) | exact hf1 ad223 rfl (by omega)); replace p223 := eq_true p223; replace q223 := eq_true q223))
  go_ret
  exact ⟨ce_, cI_ HI0.out, cB1_ (IsS91.ge HI0.out), cK_ HK.out⟩
 rw [if_neg c5] at H
 exact absurd H (by simp)

/-! ### spec_l1Chance: function 95 -/
def spec_l1Chance.f (s0_0 : List Int) (s0_1 : Int) (a1 : Int) : Option (Bool × Int) := (spec_l1Next.f s0_0 s0_1 a1).bind fun bt224 => (some ((bt224.1 == 0), bt224.2))
set_option maxHeartbeats 8000000 in
set_option maxRecDepth 100000 in
theorem spec_l1Chance.calls (g : Nat) (s0_0 : List Int) (s0_1 : Int) (a1 : Int) (r1 : Bool) (r2 : Int) (w0 w : World) (hI : IsS91 w0 w g s0_0 s0_1) (hB : Below w0.heap.size w0 w) (h : spec_l1Chance.f s0_0 s0_1 a1 = some (r1, r2)) :
  Calls Try.prog 95 #[.pointer (some ⟨g, 0, none⟩), .int .i64 a1] w fun e w' => e = .returned (.bool r1) ∧ IsS91 w0 w' g s0_0 r2 ∧ Below w0.heap.size w0 w' ∧ KeepBut w w' g none := by
 have HI0 := Aside0.mk hI
 have HK := Aside0.mk (KeepBut.refl w g none)
 have HL := Aside0.mk hB.size
 clear hI
 have HW0 := Aside0.mk hB.size
 have HB := Aside0.mk hB
 clear hB
 have H : ((spec_l1Next.f s0_0 s0_1 a1).bind fun bt224 => (some ((bt224.1 == 0), bt224.2))) = some (r1, r2) := h
 clear h
 obtain ⟨⟨t224, t225⟩, A3, H⟩ := bnd_ H
 try dsimp only at H
 simp only [Option.some.injEq, Prod.mk.injEq] at H
 obtain ⟨rfl, rfl⟩ := H
 go_enter Try.func95, Try.ntmps95
 go_wp2_with (first | (refine gl_ 55 (some 7) Try.func55 #[.pointer (some ⟨g, 0, none⟩), .int .i64 a1] ?_; (with_reducible refine (spec_l1Next.calls g s0_0 s0_1 a1 t224 t225 w0 _ ?side1 ?side2 A3.out).mono ?_); (case side1 => exact cI_ HI0.out); (case side2 => exact cB1_ (IsS91.ge HI0.out)); rintro e w4 ⟨rfl, hi, hb, hk⟩; refine ⟨_, rfl, ?_⟩; replace HK := Aside0.mk (KeepBut.trans (cK_ HK.out) hk (.inl rfl)); replace HB := Aside0.mk (hb); replace HI0 := Aside0.mk (hi); (try clear hb); (try clear hb2); (try clear hk); (try clear hi)))
 go_ret
 exact ⟨ce_, cI_ HI0.out, cB1_ (IsS91.ge HI0.out), cK_ HK.out⟩

end Go.Proofs.Yteibdjkfkcckkaa.PFnFeeds
