-- Written by fprint, a program of this session, out of Lean's own print of the translation. Lean checks it.
import Derived.Test.YthgmicingbjemaaPFnExactJoinSetsx0
import Derived.Test.YthgmicingbjemaaPFnExactJoinSetsx9
namespace Go.Proofs.Ythgmicingbjemaa.PFnExactJoinSets
open Go.RowKit Go.Proofs.YthgmicingbjemaaW.PrintWords Go.Proofs.YthgmicingbjemaaW.PrintLast Go.Proofs.YthgmicingbjemaaW.PrintMore
attribute [local go_sem] max2_int min2_int max_two min_two max_three min_three max_four min_four   -- for this text's walks alone
set_option linter.unusedVariables false
set_option linter.unusedSimpArgs false

theorem q11_0 {p : Prop} (h : p := by repeat (first | exact Drawn0.refl _ | apply Drawn0.step)) : p := h
theorem q11_1 {p : Prop} (h : p := by first | rfl | (simp [*]; done)) : p := h
theorem q11_2 {p : Prop} (h : p := by first | rfl | (simp; done) | (simp [*]; done)) : p := h
theorem q11_3 {p : Prop} (h : p := by repeat (first | (with_reducible first | exact HB.out | apply below_alloc | apply pw_below_drewN | apply below_drew1) | exact HB.out)) : p := h
/-! ### impl_size_int64: function 74 -/
def impl_size_int64.f (l0 : List Int) : Option (Int) := some (l0.length : Int)
set_option maxHeartbeats 8000000 in
set_option maxRecDepth 100000 in
theorem impl_size_int64.calls (A0 : Option Addr) (c0 : Nat) (l0 : List Int) (r : Int) (w : World) (hr0 : Kd.C (Kd.int .i64) w A0 l0.length l0) (hc0 : l0.length ≤ c0) (h : impl_size_int64.f l0 = some r) :
  Calls Try.prog 74 #[.slice A0 l0.length c0] w fun e w' => e = .returned (.int .i64 r) ∧ Drawn0 w w' := by
 have HR0 := Aside0.mk hr0
 have HC0 := Aside0.mk hc0
 clear hr0 hc0
 have H : (some (l0.length : Int)) = some r := h
 clear h
 obtain rfl := Option.some.inj H
 go_enter Try.func74, Try.ntmps74
 go_wp2
 go_ret
 exact ⟨q11_2, q11_0⟩

-- NOT PRINTED: function 102 (impl_areLong_1)

/-! ### impl_areLong: function 60 -/
/-- slices.IndexFunc over entries, whatever function value. -/
def indexE.l0 (p : Nat → List Int → Int → Option Bool) : Nat → List (S42) → Int → Int → Option (Int)
 | 0, _, _, _ => none
 | k + 1, x0, x7, x8 => if x8 < x7 then (if 0 ≤ x8 then (if x8 < (x0.length : Int) then ((p k ((rd_T42 x0 x8).f0) ((rd_T42 x0 x8).f1)).bind fun t202 => (if t202 = true then (some x8) else (indexE.l0 p k x0 x7 (wrap64 (x8 + 1))))) else (none)) else (none)) else (some (-1))
def indexE.f (p : Nat → List Int → Int → Option Bool) (k : Nat) (l0 : List (S42)) : Option (Int) := indexE.l0 p k l0 (l0.length : Int) 0
theorem indexE.mono_l (p : Nat → List Int → Int → Option Bool) (hp : ∀ l x k, LeO (p k l x) (p (k + 1) l x)) : ∀ k, (∀ y0 y1 y2, LeO (indexE.l0 p k y0 y1 y2) (indexE.l0 p (k + 1) y0 y1 y2))
 | 0 => fun _ _ _ r h => by simp [indexE.l0] at h
 | k + 1 => by
  have ih0 := indexE.mono_l p hp k
  ·intro y0 y1 y2
   unfold indexE.l0
   repeat' first
   | (with_reducible exact ih0 _ _ _)
   | (with_reducible exact LeO.refl _)
   | (with_reducible exact LeO.none _)
   | (with_reducible exact hp _ _ _)
   | (with_reducible refine LeO.ite ?_ ?_)
   | (with_reducible refine LeO.bind ?_ (fun _ => ?_))
/-- What is asked of the function value: at every entry, in every world in which all that lay in w lies unturned. -/
abbrev FnE (P : Program) (g : Nat) (cap : Array Value) (p : Nat → List Int → Int → Option Bool) (w : World) : Prop :=
 ∀ (k : Nat) (W : World) (A : Option Addr) (c : Nat) (l : List Int) (x : Int) (b : Bool), Below w.heap.size w W → Kd.C (Kd.int .i64) W A l.length l → l.length ≤ c → p k l x = some b → Calls P g (#[.agg #[.slice A l.length c, .int .i64 x]] ++ cap) W fun e w' => e = .returned (.bool b) ∧ Below W.heap.size W w'
set_option maxHeartbeats 8000000 in
set_option maxRecDepth 100000 in
theorem indexE.calls (g : Nat) (gfn : Func) (hgf : Try.prog.funcs[g]? = some gfn) (hgn : (gfn.name == "runtime.NumGoroutine") = false) (hgb : gfn.body.isSome = true) (cap : Array Value) (p : Nat → List Int → Int → Option Bool) (k : Nat) (A0 : Option Addr) (c0 : Nat) (l0 : List (S42)) (r : Int) (w : World) (hp : FnE Try.prog g cap p w) (hr0 : Kd.C k42 w A0 l0.length l0) (hc0 : l0.length ≤ c0) (h : indexE.f p k l0 = some r) :
  Calls Try.prog 118 #[.slice A0 l0.length c0, .func (.func g) #[] cap] w fun e w' => e = .returned (.int .i64 r) ∧ Below w.heap.size w w' := by
 have hu := Try.underlying42
 have HR0 := Aside0.mk hr0
 have HC0 := Aside0.mk hc0
 have HP := Aside0.mk hp
 have HGF := Aside0.mk hgf
 have HGN := Aside0.mk hgn
 have HGB := Aside0.mk hgb
 clear hr0 hc0 hp hgf hgn hgb
 have HB := Aside0.mk (Below.refl w.heap.size w)
 have H : (indexE.l0 p k l0 (l0.length : Int) 0) = some r := h
 clear h
 have H' := Aside0.mk H
 clear H
 go_enter Try.func118, Try.ntmps118
 go_wp2
 go_loopg [8] k (fun kq v8 w' => ∃ (x8_1 : Int), v8 = .int .i64 x8_1 ∧ Aside0 (indexE.l0 p kq l0 (l0.length : Int) x8_1 = some r) ∧ Aside0 (kq ≤ k) ∧ Aside0 (Below w.heap.size w w'))
 case atStart => exact ⟨(0), (by first | rfl | (simp; done) | (simp [*]; done)), H', ⟨Nat.le_refl _⟩, ⟨q11_3⟩⟩
 case round =>
  clear H'
  obtain ⟨x8_1, rfl, HA, HK1, HB⟩ := hrel
  cases gk with
  | zero => exact absurd HA.out (by simp [indexE.l0])
  | succ k1 =>
   have H := HA.out
   clear HA
   simp only [indexE.l0] at H
   by_cases c3 : x8_1 < (l0.length : Int)
   rotate_left
   ·rw [if_neg c3] at H
    have c3b0 : decide (x8_1 < (l0.length : Int)) = false := decide_eq_false c3
    clear c3
    obtain rfl := Option.some.inj H
    go_wp2
    go_ret
    exact ⟨q11_1, HB.out⟩
   rw [if_pos c3] at H
   have c3b0 : decide (x8_1 < (l0.length : Int)) = true := decide_eq_true c3
   clear c3
   by_cases c4 : 0 ≤ x8_1
   rotate_left
   ·rw [if_neg c4] at H
    exact absurd H (by simp)
   rw [if_pos c4] at H
   have c4b0 : decide (0 ≤ x8_1) = true := decide_eq_true c4
   clear c4
   by_cases c5 : x8_1 < (l0.length : Int)
   rotate_left
   ·rw [if_neg c5] at H
    exact absurd H (by simp)
   rw [if_pos c5] at H
   have c5b0 : decide (x8_1 < (l0.length : Int)) = true := decide_eq_true c5
   clear c5
   replace H := Option.bind_eq_some_iff.mp H
   obtain ⟨t202, A60, H⟩ := H
   replace H : (if t202 = true then (some x8_1) else (indexE.l0 p k1 l0 (l0.length : Int) (wrap64 (x8_1 + 1)))) = some r := H
   have A6 := Aside0.mk A60
   clear A60
   have p201 : 0 ≤ (x8_1 : Int) := of_decide_eq_true (by first | (with_reducible assumption) | assumption)
   have q201 : x8_1 < (l0.length : Int) := of_decide_eq_true (by first | (with_reducible assumption) | assumption)
   obtain ⟨ad201, A201_0, c201_0, e201, hx201_0, hx201_1, hl201_0, hi201_0⟩ := at_T42 HR0.out x8_1 p201 q201
   cases e201
   replace hx201_0 := (HB.out.cell (World.block_lt_of_cell? w _ hx201_0)).trans hx201_0
   replace hx201_1 := (HB.out.cell (World.block_lt_of_cell? w _ hx201_1)).trans hx201_1
   have HR201_0 := Aside0.mk hi201_0
   have HC201_0 := Aside0.mk hl201_0
   clear hi201_0 hl201_0
   replace p201 := eq_true p201
   replace q201 := eq_true q201
   by_cases c7 : t202 = true
   ·subst c7
    have H1 : (some x8_1) = some r := by rw [if_pos rfl] at H; exact H
    clear H
    obtain rfl := Option.some.inj H1
    clear H1
    go_wp2_with (first | ((refine gate_fnc_ (f := g) (cap := cap) (by with_reducible rfl) (by rfl) ?_); refine goesC_ (some 16) rfl rfl HGF.out HGN.out HGB.out #[.agg #[.slice A201_0 ((rd_T42 l0 x8_1).f0).length c201_0, .int .i64 ((rd_T42 l0 x8_1).f1)]] rfl (by rfl) (by (try simp only [List.map_toArray, List.map_cons, List.map_nil]); first | done | rfl | (simp only [List.length_drop, List.length_take]; rfl)) ?_; (with_reducible refine (HP.out k1 _ A201_0 c201_0 ((rd_T42 l0 x8_1).f0) ((rd_T42 l0 x8_1).f1) true HB.out (Kd.C_below HR201_0.out HB.out) HC201_0.out A6.out).mono ?_); rintro e w8 ⟨rfl, hb⟩; refine ⟨_, rfl, ?_⟩; have n0_ := Aside0.mk (below_step HB.out hb); clear HB; have HB := n0_; clear n0_ hb))
    go_ret
    exact ⟨q11_1, HB.out⟩
   replace c7 := Bool.eq_false_iff.mpr c7
   subst c7
   have H1 : (indexE.l0 p k1 l0 (l0.length : Int) (wrap64 (x8_1 + 1))) = some r := by rw [if_neg (show ¬ (false = true) by decide)] at H; exact H
   clear H
   have H' := Aside0.mk H1
   clear H1
   go_wp2_with (first | ((refine gate_fnc_ (f := g) (cap := cap) (by with_reducible rfl) (by rfl) ?_); refine goesC_ (some 16) rfl rfl HGF.out HGN.out HGB.out #[.agg #[.slice A201_0 ((rd_T42 l0 x8_1).f0).length c201_0, .int .i64 ((rd_T42 l0 x8_1).f1)]] rfl (by rfl) (by (try simp only [List.map_toArray, List.map_cons, List.map_nil]); first | done | rfl | (simp only [List.length_drop, List.length_take]; rfl)) ?_; (with_reducible refine (HP.out k1 _ A201_0 c201_0 ((rd_T42 l0 x8_1).f0) ((rd_T42 l0 x8_1).f1) false HB.out (Kd.C_below HR201_0.out HB.out) HC201_0.out A6.out).mono ?_); rintro e w8 ⟨rfl, hb⟩; refine ⟨_, rfl, ?_⟩; have n0_ := Aside0.mk (below_step HB.out hb); clear HB; have HB := n0_; clear n0_ hb))
   go_roundg k1
   case measure => have := HK1.out; omega
   case rel => exact ⟨(wrap64 (x8_1 + 1)), (by first | rfl | (simp; done) | (simp [*]; done)), H', ⟨by have := HK1.out; omega⟩, HB⟩
/-- slices.ContainsFunc over entries, whatever function value. -/
def containsE.f (p : Nat → List Int → Int → Option Bool) (k : Nat) (l0 : List (S42)) : Option (Bool) := (indexE.f p k l0).bind fun t => some (decide (t ≥ 0))
set_option maxHeartbeats 8000000 in
set_option maxRecDepth 100000 in
theorem containsE.calls (g : Nat) (gfn : Func) (hgf : Try.prog.funcs[g]? = some gfn) (hgn : (gfn.name == "runtime.NumGoroutine") = false) (hgb : gfn.body.isSome = true) (cap : Array Value) (p : Nat → List Int → Int → Option Bool) (k : Nat) (A0 : Option Addr) (c0 : Nat) (l0 : List (S42)) (r : Bool) (w : World) (hp : FnE Try.prog g cap p w) (hr0 : Kd.C k42 w A0 l0.length l0) (hc0 : l0.length ≤ c0) (h : containsE.f p k l0 = some r) :
  Calls Try.prog 96 #[.slice A0 l0.length c0, .func (.func g) #[] cap] w fun e w' => e = .returned (.bool r) ∧ Below w.heap.size w w' := by
 obtain ⟨t, ht, hr⟩ := Option.bind_eq_some_iff.mp h
 obtain rfl := Option.some.inj hr
 have HR0 := Aside0.mk hr0
 have HC0 := Aside0.mk hc0
 have HP := Aside0.mk hp
 have HT := Aside0.mk ht
 have HGF := Aside0.mk hgf
 have HGN := Aside0.mk hgn
 have HGB := Aside0.mk hgb
 clear hr0 hc0 hp hgf hgn hgb ht hr h
 go_enter Try.func96, Try.ntmps96
 go_wp2_with (first | ((with_reducible refine gate_callee (f := 118) rfl ?_); refine goesL_ (some 7) rfl rfl Try.func118 (by kernel_rfl) rfl #[.slice A0 l0.length c0, .func (.func g) #[] cap] rfl (by (try simp only [List.map_toArray, List.map_cons, List.map_nil]); first | done | rfl) ?_; (with_reducible refine (indexE.calls g _ HGF.out HGN.out HGB.out cap p k A0 c0 l0 t _ HP.out HR0.out HC0.out HT.out).mono ?_); rintro e w2 ⟨rfl, hb⟩; refine ⟨_, rfl, ?_⟩; have HB := Aside0.mk hb; clear hb))
 go_ret
 exact ⟨q11_1, HB.out⟩
set_option maxHeartbeats 8000000 in
set_option maxRecDepth 100000 in
theorem impl_areLong1.calls (A : Option Addr) (c : Nat) (l : List Int) (x : Int) (g1 : Nat) (a1 : Int) (w : World) (hr : Kd.C (Kd.int .i64) w A l.length l) (hc : l.length ≤ c) (hcap : w.cell? ⟨g1, 0, none⟩ = some (.int .i64 a1)) :
  Calls Try.prog 102 #[.agg #[.slice A l.length c, .int .i64 x], .pointer (some ⟨g1, 0, none⟩)] w fun e w' => e = .returned (.bool (decide ((l.length : Int) < a1))) ∧ Below w.heap.size w w' := by
 have hu := Try.underlying42
 have HR := Aside0.mk hr
 have HC := Aside0.mk hc
 clear hr hc
 go_enter Try.func102, Try.ntmps102
 go_wp2_with (first | ((with_reducible refine gate_dst (N := 2) rfl ?_); refine box_event ?hg (N := 2) ?hd (cs := #[.slice A l.length c, .int .i64 x]) (t := 42) ?hr ?_; (case hd => rfl); (case hg => rfl); (case hr => first | (go_simp; done) | (go_simp; rfl)); intro gb hg w5 hbox hb; have HB := Aside0.mk hb; replace hcap := pw_cell_below hb hcap; have hcz0 : w5.cell? ⟨gb, 0, none⟩ = some (.slice A l.length c) := (blk_cell hbox 0).trans rfl; have hfz0 := blk_frozen hbox 0; clear hbox hb hg))
 repeat (go_quiet (first | (go_at_call 74; (with_reducible refine (impl_size_int64.calls _ _ l (l.length : Int) _ ?side1 HC.out rfl).mono ?_); (case side1 => exact (by repeat (first | exact (Kd.C_below HR.out HB.out) | (with_reducible refine Kd.C_alloc ?_ _) | (with_reducible refine Kd.C_drewN ?_ _) | (with_reducible refine Kd.C_drew ?_)))); rintro e w' ⟨rfl, ⟨nd, rfl⟩⟩; (try exact (by first | exact ⟨rfl, _, World.drewN_drewN _ _ _⟩ | exact ⟨rfl, _, Eq.trans (World.drewN_drewN _ _ _) (congrArg (World.drewN _) (Nat.add_assoc _ _ _))⟩)))); try go_wp2)
 go_ret
 exact ⟨q11_1, q11_3⟩
def impl_areLong.p (a1 : Int) : Nat → List Int → Int → Option Bool := fun _ l _ => some (decide ((l.length : Int) < a1))
def impl_areLong.f (k : Nat) (l0 : List (S42)) (a1 : Int) : Option (Bool) := (containsE.f (impl_areLong.p a1) k l0).bind fun t => some (!t)
theorem impl_areLong.mono : ∀ a0 a1 k, LeO (impl_areLong.f k a0 a1) (impl_areLong.f (k + 1) a0 a1) := by
 intro a0 a1 k
 unfold impl_areLong.f containsE.f indexE.f
 exact LeO.bind (LeO.bind (indexE.mono_l _ (fun _ _ _ => LeO.refl _) k _ _ _) (fun _ => LeO.refl _)) (fun _ => LeO.refl _)
set_option maxHeartbeats 8000000 in
set_option maxRecDepth 100000 in
theorem impl_areLong.calls (k : Nat) (A0 : Option Addr) (c0 : Nat) (l0 : List (S42)) (a1 : Int) (r : Bool) (w : World) (hr0 : Kd.C k42 w A0 l0.length l0) (hc0 : l0.length ≤ c0) (h : impl_areLong.f k l0 a1 = some r) :
  Calls Try.prog 60 #[.slice A0 l0.length c0, .int .i64 a1] w fun e w' => e = .returned (.bool r) ∧ Below w.heap.size w w' := by
 obtain ⟨t, ht, hr⟩ := Option.bind_eq_some_iff.mp h
 obtain rfl := Option.some.inj hr
 have HR0 := Aside0.mk hr0
 have HC0 := Aside0.mk hc0
 have HT := Aside0.mk ht
 clear hr0 hc0 ht hr h
 go_enter Try.func60, Try.ntmps60
 go_wp2_with (first | ((with_reducible refine gate_dst (N := 3) rfl ?_); refine box_event ?hg (N := 3) ?hd (cs := #[.int .i64 a1]) (t := 2) ?hr ?_; (case hd => rfl); (case hg => rfl); (case hr => first | (go_simp; done) | (go_simp; rfl)); intro gb hg w5 hbox hb; have HB := Aside0.mk hb; have HCAP := Aside0.mk (show w5.cell? ⟨gb, 0, none⟩ = some (.int .i64 a1) from (blk_cell hbox 0).trans rfl); clear hbox hb hg) | ((with_reducible refine gate_callee (f := 96) rfl ?_); refine goesL_ (some 7) rfl rfl Try.func96 (by kernel_rfl) rfl #[.slice A0 l0.length c0, .func (.func 102) #[] #[.pointer (some ⟨gb, 0, none⟩)]] rfl (by (try simp only [List.map_toArray, List.map_cons, List.map_nil]); first | done | rfl) ?_; (with_reducible refine (containsE.calls 102 _ Try.func102 (by kernel_rfl) rfl #[.pointer (some ⟨gb, 0, none⟩)] (impl_areLong.p a1) k A0 c0 l0 t _ ?sidep (Kd.C_below HR0.out HB.out) HC0.out HT.out).mono ?_); (case sidep => exact (fun k_ W_ A_ c_ l_ x_ b_ hb_ hr_ hc_ hp_ => by obtain rfl := Option.some.inj hp_; exact impl_areLong1.calls A_ c_ l_ x_ gb a1 W_ hr_ hc_ (pw_cell_below hb_ HCAP.out))); rintro e w2 ⟨rfl, hb⟩; refine ⟨_, rfl, ?_⟩; have HB2 := Aside0.mk (below_step HB.out hb); clear hb))
 go_ret
 exact ⟨q11_1, HB2.out⟩

/-! ### impl_RowFault: function 48 -/
def impl_RowFault.l0 : Nat → List Int → Int → Int → Option (Int)
 | 0, _, _, _ => none
 | k + 1, x8, x9, x10 => if x10 < x9 then (if 0 ≤ x10 then (if x10 < (x8.length : Int) then ((impl_in.f (rd x8 x10) (-1000000000) 1000000000).bind fun t246 => (if t246 = true then (impl_RowFault.l0 k x8 x9 (wrap64 (x10 + 1))) else (some 3))) else (none)) else (none)) else (some 0)
def impl_RowFault.f (k : Nat) (l0 : List Int) : Option (Int) := if (l0.length : Int) > 4 then (some 2) else (impl_RowFault.l0 k l0 (l0.length : Int) 0)
theorem impl_RowFault.mono_l : ∀ k, (∀ y0 y1 y2, LeO (impl_RowFault.l0 k y0 y1 y2) (impl_RowFault.l0 (k + 1) y0 y1 y2))
 | 0 => fun _ _ _ r h => by simp [impl_RowFault.l0] at h
 | k + 1 => by
  have ih0 := impl_RowFault.mono_l k
  ·intro y0 y1 y2
   unfold impl_RowFault.l0
   repeat' first
   | (with_reducible exact ih0 _ _ _)
   | (with_reducible exact LeO.refl _)
   | (with_reducible exact LeO.none _)
   | (with_reducible refine LeO.ite ?_ ?_)
   | (with_reducible refine LeO.bind ?_ (fun _ => ?_))
   | exact ih0 _ _ _
   | exact LeO.none _
   | refine LeO.ite ?_ ?_
   | refine LeO.bind ?_ (fun _ => ?_)
theorem impl_RowFault.mono : ∀ a0 k, LeO (impl_RowFault.f k a0) (impl_RowFault.f (k + 1) a0) := by
 intro a0 k
 have ih0 := impl_RowFault.mono_l k
 unfold impl_RowFault.f
 repeat' first
   | (with_reducible exact ih0 _ _ _)
   | (with_reducible exact LeO.refl _)
   | (with_reducible exact LeO.none _)
   | (with_reducible refine LeO.ite ?_ ?_)
   | (with_reducible refine LeO.bind ?_ (fun _ => ?_))
   | exact ih0 _ _ _
   | exact LeO.none _
   | refine LeO.ite ?_ ?_
   | refine LeO.bind ?_ (fun _ => ?_)
set_option maxHeartbeats 8000000 in
set_option maxRecDepth 100000 in
theorem impl_RowFault.calls (k : Nat) (A0 : Option Addr) (c0 : Nat) (l0 : List Int) (r : Int) (w : World) (hr0 : Kd.C (Kd.int .i64) w A0 l0.length l0) (hc0 : l0.length ≤ c0) (h : impl_RowFault.f k l0 = some r) :
  Calls Try.prog 48 #[.slice A0 l0.length c0] w fun e w' => e = .returned (.int .i64 r) ∧ Drawn0 w w' := by
 have HR0 := Aside0.mk hr0
 have HC0 := Aside0.mk hc0
 clear hr0 hc0
 have H : (if (l0.length : Int) > 4 then (some 2) else (impl_RowFault.l0 k l0 (l0.length : Int) 0)) = some r := h
 clear h
 by_cases c2 : (l0.length : Int) > 4
 ·rw [if_pos c2] at H
  have c2b0 : decide (4 < (l0.length : Int)) = true := decide_eq_true c2
  have c2b1 : decide (4 < l0.length) = true := decide_eq_true (by omega)
  clear c2
  obtain rfl := Option.some.inj H
  go_enter Try.func48, Try.ntmps48
  go_wp2
  go_ret
  exact ⟨q11_2, q11_0⟩
 rw [if_neg c2] at H
 have c2b0 : decide (4 < (l0.length : Int)) = false := decide_eq_false c2
 have c2b1 : decide (4 < l0.length) = false := decide_eq_false (by omega)
 clear c2
 have H' := Aside0.mk H
 clear H
 go_enter Try.func48, Try.ntmps48
 go_wp2
 go_loopg [10] k (fun kq v10 w' => ∃ (x10_1 : Int), v10 = .int .i64 x10_1 ∧ Aside0 (impl_RowFault.l0 kq l0 (l0.length : Int) x10_1 = some r) ∧ Aside0 (kq ≤ k) ∧ Drawn0 w w')
 case atStart => exact ⟨(0), (by first | rfl | (simp; done) | (simp [*]; done)), H', ⟨Nat.le_refl _⟩, q11_0⟩
 case round =>
  clear H'
  try clear c2
  try clear c2b0
  try clear c2b1
  try clear p2
  obtain ⟨x10_1, rfl, HA, HK1, ⟨m1, rfl⟩⟩ := hrel
  cases gk with
  | zero => exact absurd HA.out (by simp [impl_RowFault.l0])
  | succ k1 =>
   have H := HA.out
   clear HA
   simp only [impl_RowFault.l0] at H
   by_cases c3 : x10_1 < (l0.length : Int)
   rotate_left
   ·rw [if_neg c3] at H
    have c3b0 : decide (x10_1 < (l0.length : Int)) = false := decide_eq_false c3
    clear c3
    obtain rfl := Option.some.inj H
    go_wp2
    go_ret
    exact ⟨q11_2, q11_0⟩
   rw [if_pos c3] at H
   have c3b0 : decide (x10_1 < (l0.length : Int)) = true := decide_eq_true c3
   clear c3
   by_cases c4 : 0 ≤ x10_1
   rotate_left
   ·rw [if_neg c4] at H
    exact absurd H (by simp)
   rw [if_pos c4] at H
   have c4b0 : decide (0 ≤ x10_1) = true := decide_eq_true c4
   clear c4
   by_cases c5 : x10_1 < (l0.length : Int)
   rotate_left
   ·rw [if_neg c5] at H
    exact absurd H (by simp)
   rw [if_pos c5] at H
   have c5b0 : decide (x10_1 < (l0.length : Int)) = true := decide_eq_true c5
   clear c5
   replace H := Option.bind_eq_some_iff.mp H
   obtain ⟨t246, A60, H⟩ := H
   replace H : (if t246 = true then (impl_RowFault.l0 k1 l0 (l0.length : Int) (wrap64 (x10_1 + 1))) else (some 3)) = some r := H
   have A6 := Aside0.mk A60
   clear A60
   by_cases c7 : t246 = true
   ·subst c7
    have H1 : (impl_RowFault.l0 k1 l0 (l0.length : Int) (wrap64 (x10_1 + 1))) = some r := by rw [if_pos rfl] at H; exact H
    clear H
    have H := H1
    clear H1
    have H' := Aside0.mk H
    clear H
    have p245 : 0 ≤ (x10_1 : Int) := of_decide_eq_true (by first | (with_reducible assumption) | assumption)
    have q245 : x10_1 < (l0.length : Int) := of_decide_eq_true (by first | (with_reducible assumption) | assumption)
    obtain ⟨ad245, e245, hx245_0⟩ := Kd.at_int HR0.out x10_1 p245 q245
    cases e245
    replace p245 := eq_true p245
    replace q245 := eq_true q245
    go_wp2_with (first | ((with_reducible refine gate_callee (f := 59) rfl ?_); refine goesL_ (some 15) rfl rfl Try.func59 (by kernel_rfl) rfl #[.int .i64 (rd l0 x10_1), .int .i64 (-1000000000), .int .i64 1000000000] rfl (by (try simp only [List.map_toArray, List.map_cons, List.map_nil]); first | done | rfl | (simp only [List.length_drop, List.length_take]; rfl)) ?_; (with_reducible refine (impl_in.calls (rd l0 x10_1) (-1000000000) 1000000000 true _ A6.out).mono ?_); rintro e w' ⟨rfl, ⟨nd, rfl⟩⟩; refine ⟨_, rfl, ?_⟩))
    go_roundg k1
    case measure => have := HK1.out; omega
    case rel => exact ⟨(wrap64 (x10_1 + 1)), (by first | rfl | (simp; done) | (simp [*]; done)), H', ⟨by have := HK1.out; omega⟩, q11_0⟩
   replace c7 := Bool.eq_false_iff.mpr c7
   subst c7
   have H1 : (some 3) = some r := by rw [if_neg (show ¬ (false = true) by decide)] at H; exact H
   clear H
   have H := H1
   clear H1
   obtain rfl := Option.some.inj H
   have p245 : 0 ≤ (x10_1 : Int) := of_decide_eq_true (by first | (with_reducible assumption) | assumption)
   have q245 : x10_1 < (l0.length : Int) := of_decide_eq_true (by first | (with_reducible assumption) | assumption)
   obtain ⟨ad245, e245, hx245_0⟩ := Kd.at_int HR0.out x10_1 p245 q245
   cases e245
   replace p245 := eq_true p245
   replace q245 := eq_true q245
   go_wp2_with (first | ((with_reducible refine gate_callee (f := 59) rfl ?_); refine goesL_ (some 15) rfl rfl Try.func59 (by kernel_rfl) rfl #[.int .i64 (rd l0 x10_1), .int .i64 (-1000000000), .int .i64 1000000000] rfl (by (try simp only [List.map_toArray, List.map_cons, List.map_nil]); first | done | rfl | (simp only [List.length_drop, List.length_take]; rfl)) ?_; (with_reducible refine (impl_in.calls (rd l0 x10_1) (-1000000000) 1000000000 false _ A6.out).mono ?_); rintro e w' ⟨rfl, ⟨nd, rfl⟩⟩; refine ⟨_, rfl, ?_⟩))
   go_ret
   exact ⟨q11_2, q11_0⟩

end Go.Proofs.Ythgmicingbjemaa.PFnExactJoinSets
