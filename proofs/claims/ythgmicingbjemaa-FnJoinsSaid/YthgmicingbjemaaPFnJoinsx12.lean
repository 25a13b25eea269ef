-- Written by fprint, a program of this session, out of Lean's own print of the translation. Lean checks it.
import Derived.Test.YthgmicingbjemaaDense
import Derived.Test.YthgmicingbjemaaPFnJoinsx0
import Derived.Test.YthgmicingbjemaaPFnJoinsx8
namespace Go.Proofs.Ythgmicingbjemaa.PFnJoins
open Go.RowKit Go.Proofs.YthgmicingbjemaaW.PrintWords Go.Proofs.YthgmicingbjemaaW.PrintLast Go.Proofs.YthgmicingbjemaaW.PrintMore
attribute [local go_sem] max2_int min2_int max_two min_two max_three min_three max_four min_four
set_option linter.unusedVariables false
set_option maxHeartbeats 8000000
set_option maxRecDepth 100000
set_option linter.unusedSimpArgs false

/-- A state of type 106 at block g of W; what its slices lead to came in by w0. -/
def IsS106 (w0 W : World) (g : Nat) (f0 : List Int) (f1 : Int) : Prop := ∃ A0 c0, W.heap[g]? = some (.cells #[.slice A0 f0.length c0, .int .i64 f1] 106 (0, 0)) ∧ w0.heap.size ≤ g ∧ Kd.C (Kd.int .u8) w0 A0 f0.length f0
theorem IsS106.grown {w0 W : World} {g : Nat} {f0 : List Int} {f1 : Int} {W1 : World} {row : Option Nat} (h : IsS106 w0 W g f0 f1) (hw : W.grownBy W1 row) (hne : some g ≠ row) : IsS106 w0 W1 g f0 f1 := by
 obtain ⟨A0, c0, hb, hg, hr0⟩ := h
 exact ⟨A0, c0, blk_grown hb hw hne, hg, hr0⟩
theorem IsS106.own_neN {w0 W : World} {g : Nat} {f0 : List Int} {f1 : Int} {α : Type} {d : Kd α} {e : Nat} {base : Nat} {ok : Nat → Prop} {v : Value} {xs : List α} (h : IsS106 w0 W g f0 f1) (ho : Kd.N d e W base ok v xs) (ht : e ≠ 106) : some g ≠ v.ownBlock := by
 obtain ⟨A0, c0, hb, hg, hr0⟩ := h
 exact Kd.N_ne ho hb ht
theorem IsS106.fresh {w0 W : World} {g : Nat} {f0 : List Int} {f1 : Int} (h : IsS106 w0 W g f0 f1) : ∀ k, W.heap.size ≤ k → k ≠ g := by
 obtain ⟨A0, c0, hb, hg, hr0⟩ := h
 exact Kd.freshB hb
theorem IsS106.kept {w0 W : World} {g : Nat} {f0 : List Int} {f1 : Int} {W1 : World} {S : Nat → Prop} (h : IsS106 w0 W g f0 f1) (hk : Kept W W1 S) (hne : ¬ S g) : IsS106 w0 W1 g f0 f1 := by
 obtain ⟨A0, c0, hb, hg, hr0⟩ := h
 exact ⟨A0, c0, blk_kept hb hk hne, hg, hr0⟩
theorem IsS106.below {w0 W : World} {g : Nat} {f0 : List Int} {f1 : Int} {W1 : World} (h : IsS106 w0 W g f0 f1) (hw : Below W.heap.size W W1) : IsS106 w0 W1 g f0 f1 := h.grown (grown_of_below hw none) (by simp)
theorem IsS106.alloc {w0 W : World} {g : Nat} {f0 : List Int} {f1 : Int} (h : IsS106 w0 W g f0 f1) (o : Obj) : IsS106 w0 (W.alloc o) g f0 f1 := h.below (below_alloc (Below.refl _ _) o)
theorem IsS106.drewN {w0 W : World} {g : Nat} {f0 : List Int} {f1 : Int} (h : IsS106 w0 W g f0 f1) (m : Nat) : IsS106 w0 (W.drewN m) g f0 f1 := h
theorem IsS106.drew {w0 W : World} {g : Nat} {f0 : List Int} {f1 : Int} (h : IsS106 w0 W g f0 f1) : IsS106 w0 W.drew g f0 f1 := h
theorem IsS106.at_ {w0 W : World} {g : Nat} {f0 : List Int} {f1 : Int} {w' : World} {m : Nat} (hq : W.drewN m = w') (h : IsS106 w0 W g f0 f1) : IsS106 w0 w' g f0 f1 := by subst hq; exact IsS106.drewN h m
theorem IsS106.apart {w0 W : World} {g : Nat} {f0 : List Int} {f1 : Int} {α : Type} {d : Kd α} {e : Nat} {base : Nat} {ok : Nat → Prop} {v : Value} {xs : List α} (h : IsS106 w0 W g f0 f1) (ho : d.R e W base ok v xs) (ht : ∀ q, q ∈ e :: d.E → q ≠ 106) : d.R e W base (fun k => ok k ∧ k ≠ g) v xs := by
 obtain ⟨A0, c0, hb, hg, hr0⟩ := h
 exact Kd.R_types ho hb ht
theorem IsS106.own_ne {w0 W : World} {g : Nat} {f0 : List Int} {f1 : Int} {α : Type} {d : Kd α} {e : Nat} {base : Nat} {ok : Nat → Prop} {v : Value} {xs : List α} (h : IsS106 w0 W g f0 f1) (ho : d.R e W base ok v xs) (ht : e ≠ 106) : some g ≠ v.ownBlock := by
 obtain ⟨A0, c0, hb, hg, hr0⟩ := h
 exact Kd.R_ne ho hb ht
theorem IsS106.apartQ {w0 W : World} {g : Nat} {f0 : List Int} {f1 : Int} {α : Type} {d : Kd α} {e : Nat} {base : Nat} {ok : Nat → Prop} {v : Value} {xs : List α} (h : IsS106 w0 W g f0 f1) (ho : d.Q e W base ok v xs) (ht : ∀ q, q ∈ e :: d.E → q ≠ 106) : d.Q e W base (fun k => ok k ∧ k ≠ g) v xs := by
 obtain ⟨A0, c0, hb, hg, hr0⟩ := h
 exact Kd.Q_types ho hb ht
theorem IsS106.own_neQ {w0 W : World} {g : Nat} {f0 : List Int} {f1 : Int} {α : Type} {d : Kd α} {e : Nat} {base : Nat} {ok : Nat → Prop} {v : Value} {xs : List α} (h : IsS106 w0 W g f0 f1) (ho : d.Q e W base ok v xs) (ht : e ≠ 106) : some g ≠ v.ownBlock := by
 obtain ⟨A0, c0, hb, hg, hr0⟩ := h
 exact Kd.Q_ne ho hb ht
theorem IsS106.apartS {w0 W : World} {g : Nat} {f0 : List Int} {f1 : Int} {α : Type} {d : Kd α} {e : Nat} {base : Nat} {ok : Nat → Prop} {v : Value} {xs : List α} (h : IsS106 w0 W g f0 f1) (ho : d.S e W base ok v xs) (ht : ∀ q, q ∈ e :: d.E → q ≠ 106) : d.S e W base (fun k => ok k ∧ k ≠ g) v xs := by
 obtain ⟨A0, c0, hb, hg, hr0⟩ := h
 exact Kd.S_types ho hb ht
theorem IsS106.own_neS {w0 W : World} {g : Nat} {f0 : List Int} {f1 : Int} {α : Type} {d : Kd α} {e : Nat} {base : Nat} {ok : Nat → Prop} {v : Value} {xs : List α} (h : IsS106 w0 W g f0 f1) (ho : d.S e W base ok v xs) (ht : e ≠ 106) : some g ≠ v.ownBlock := by
 obtain ⟨A0, c0, hb, hg, hr0⟩ := h
 exact Kd.S_ne ho hb ht
theorem IsS106.lt {w0 W : World} {g : Nat} {f0 : List Int} {f1 : Int} (h : IsS106 w0 W g f0 f1) : g < W.heap.size := by
 obtain ⟨A0, c0, hb, hg, hr0⟩ := h
 exact blk_lt hb
theorem IsS106.ge {w0 W : World} {g : Nat} {f0 : List Int} {f1 : Int} (h : IsS106 w0 W g f0 f1) : w0.heap.size ≤ g := by
 obtain ⟨A0, c0, hb, hg, hr0⟩ := h
 exact hg
theorem IsS106.ne_blk {w0 W : World} {g : Nat} {f0 : List Int} {f1 : Int} {a : Nat} {cs : Array Value} {t : TypeId} {fr : Nat × Nat} (h : IsS106 w0 W g f0 f1) (hb2 : W.heap[a]? = some (.cells cs t fr)) (ht : t ≠ 106) : g ≠ a := by
 obtain ⟨A0, c0, hb, hg, hr0⟩ := h
 rintro rfl
 rw [hb] at hb2
 injection hb2 with hb2
 injection hb2 with _ ht2
 exact ht ht2.symm
theorem IsS106.far {w0 W : World} {g : Nat} {f0 : List Int} {f1 : Int} {p : Addr} (h : IsS106 w0 W g f0 f1) (hne : g ≠ p.block) (u : Value) : IsS106 w0 (W.setCell p u) g f0 f1 := by
 obtain ⟨A0, c0, hb, hg, hr0⟩ := h
 exact ⟨A0, c0, blk_far hb hne u, hg, hr0⟩
theorem cellS106_0 {W : World} {g : Nat} {A0 : Option Addr} {c0 : Nat} {f0 : List Int} {f1 : Int} (h : W.heap[g]? = some (.cells #[.slice A0 f0.length c0, .int .i64 f1] 106 (0, 0))) : W.cell? ⟨g, 0, none⟩ = some (.slice A0 f0.length c0) := (blk_cell h 0).trans rfl
theorem cellS106_1 {W : World} {g : Nat} {A0 : Option Addr} {c0 : Nat} {f0 : List Int} {f1 : Int} (h : W.heap[g]? = some (.cells #[.slice A0 f0.length c0, .int .i64 f1] 106 (0, 0))) : W.cell? ⟨g, 1, none⟩ = some (.int .i64 f1) := (blk_cell h 1).trans rfl
theorem IsS106.set_1 {w0 W : World} {g : Nat} {f0 : List Int} {f1 : Int} (h : IsS106 w0 W g f0 f1) (x : Int) : IsS106 w0 (W.setCell ⟨g, 1, none⟩ (.int .i64 x)) g f0 x := by
 obtain ⟨A0, c0, hb, hg, hr0⟩ := h
 exact ⟨A0, c0, by simpa using blk_set hb 1 (.int .i64 x), hg, hr0⟩
theorem IsS106.new (w0 W : World) (A0 : Option Addr) (c0 : Nat) (f0 : List Int) (f1 : Int) (hB : Below w0.heap.size w0 W) (hr0 : Kd.C (Kd.int .u8) w0 A0 f0.length f0) : IsS106 w0 (W.alloc (.cells #[.slice A0 f0.length c0, .int .i64 f1] 106)) W.heap.size f0 f1 := ⟨A0, c0, by simpa using heap_alloc_new W _, hB.size, hr0⟩

theorem b12_0 {p : Prop} (h : p := by exact cK_ HK.out) : p := h
theorem b12_2 {p : Prop} (h : p := by exact cI_ HI0.out) : p := h
theorem b12_3 {p : Prop} (h : p := by exact cB1_ (IsS106.ge HI0.out)) : p := h
theorem cI_ {q p : Prop} (x : q) (h : q → p := by intro x_; repeat (first | (with_reducible first | exact x_ | apply IsS106.alloc | apply IsS106.drewN | apply IsS106.drew | apply IsS106.set_1) | exact x_)) : p := h x
/-! ### spec_l1Source: function 64 -/
def spec_l1Source.f (l0 : List Int) : Option (List Int × Int) := some (l0, 0)
theorem spec_l1Source.calls (A0 : Option Addr) (c0 : Nat) (l0 : List Int) (r1 : List Int) (r2 : Int) (w0 w : World) (hB : Below w0.heap.size w0 w) (hr0 : Kd.C (Kd.int .u8) w0 A0 l0.length l0) (hc0 : l0.length ≤ c0) (h : spec_l1Source.f l0 = some (r1, r2)) :
  Calls Try.prog 64 #[.slice A0 l0.length c0] w fun e w' => ∃ g_ : Nat, e = .returned (.pointer (some ⟨g_, 0, none⟩)) ∧ IsS106 w0 w' g_ r1 r2 ∧ Below w0.heap.size w0 w' ∧ Below w.heap.size w w' := by
 have hu106 := Try.underlying106
 have HR0 := Aside0.mk hr0
 have HC0 := Aside0.mk hc0
 clear hr0 hc0
 have HBW := Aside0.mk (Below.refl w.heap.size w)
 have HW0 := Aside0.mk hB.size
 have HB := Aside0.mk hB
 clear hB
 have H : (some (l0, 0)) = some (r1, r2) := h
 clear h
 simp only [Option.some.injEq, Prod.mk.injEq] at H
 obtain ⟨rfl, rfl⟩ := H
 go_enter Try.func64, Try.ntmps64
 go_wp2_with (first | (refine bx_ 5 #[.slice A0 l0.length c0, .int .i64 0] 106 ?_; intro gb246 hg w2 hbox hb; replace HB := Aside0.mk (below_step cB0_ hb); have BK246 := Aside0.mk (hbox); have GW246 := Aside0.mk ((by rw [hg]; exact (below_size (by repeat (first | (with_reducible first | exact HBW.out | apply below_alloc | apply pw_below_drewN | apply below_drew1) | exact HBW.out))) : w.heap.size ≤ gb246)); have GE246 := Aside0.mk ((Nat.le_trans HW0.out (by rw [hg]; exact (below_size (by repeat (first | (with_reducible first | exact HBW.out | apply below_alloc | apply pw_below_drewN | apply below_drew1) | exact HBW.out))) : w.heap.size ≤ gb246) : w0.heap.size ≤ gb246)); replace HBW := Aside0.mk (below_step HBW.out hb); clear hb hbox hg))
 go_ret
 exact ⟨_, rfl, (show IsS106 w0 _ gb246 l0 0 from ⟨_, _, cO_ BK246.out, GE246.out, HR0.out⟩), cB1_ GE246.out, by repeat (first | (with_reducible first | exact HBW.out | apply below_alloc | apply pw_below_drewN | apply below_drew1 | refine below_set ?_ GW246.out) | exact HBW.out)⟩

/-! ### spec_l1Next: function 66 -/
def spec_l1Next.f (s0_0 : List Int) (s0_1 : Int) (a1 : Int) : Option (Int × Int) := if a1 < 1 then (some (0, wrap64 (s0_1 + 1))) else (if (s0_0.length : Int) = 0 then (if a1 = 0 then (none) else (some (Int.tmod (wrap64 ((wrap64 ((wrap64 (s0_1 + 1)) - 1)) * 7)) a1, wrap64 (s0_1 + 1)))) else (if 0 ≤ (Int.tmod (wrap64 ((wrap64 (s0_1 + 1)) - 1)) (s0_0.length : Int)) then (if (Int.tmod (wrap64 ((wrap64 (s0_1 + 1)) - 1)) (s0_0.length : Int)) < (s0_0.length : Int) then (if a1 > 200 then (if 0 ≤ (Int.tmod (wrap64 ((wrap64 ((wrap64 (s0_1 + 1)) - 1)) + 1)) (s0_0.length : Int)) then (if (Int.tmod (wrap64 ((wrap64 ((wrap64 (s0_1 + 1)) - 1)) + 1)) (s0_0.length : Int)) < (s0_0.length : Int) then (if a1 = 0 then (none) else (some (Int.tmod (wrap64 ((wrap64 ((wrap64 ((wrap64 ((wrap64 (rd s0_0 (Int.tmod (wrap64 ((wrap64 (s0_1 + 1)) - 1)) (s0_0.length : Int)))) + (wrap64 ((wrap64 (Int.tdiv (wrap64 ((wrap64 (s0_1 + 1)) - 1)) (s0_0.length : Int))) * 37)))) * 251)) + (wrap64 ((wrap64 (rd s0_0 (Int.tmod (wrap64 ((wrap64 ((wrap64 (s0_1 + 1)) - 1)) + 1)) (s0_0.length : Int)))) * 13)))) + (wrap64 ((wrap64 (s0_1 + 1)) - 1)))) a1, wrap64 (s0_1 + 1)))) else (none)) else (none)) else (if a1 = 0 then (none) else (some (Int.tmod (wrap64 ((wrap64 (rd s0_0 (Int.tmod (wrap64 ((wrap64 (s0_1 + 1)) - 1)) (s0_0.length : Int)))) + (wrap64 ((wrap64 (Int.tdiv (wrap64 ((wrap64 (s0_1 + 1)) - 1)) (s0_0.length : Int))) * 37)))) a1, wrap64 (s0_1 + 1))))) else (none)) else (none)))
theorem spec_l1Next.calls (g : Nat) (s0_0 : List Int) (s0_1 : Int) (a1 : Int) (r1 : Int) (r2 : Int) (w0 w : World) (hI : IsS106 w0 w g s0_0 s0_1) (hB : Below w0.heap.size w0 w) (h : spec_l1Next.f s0_0 s0_1 a1 = some (r1, r2)) :
  Calls Try.prog 66 #[.pointer (some ⟨g, 0, none⟩), .int .i64 a1] w fun e w' => e = .returned (.int .i64 r1) ∧ IsS106 w0 w' g s0_0 r2 ∧ Below w0.heap.size w0 w' ∧ KeepBut w w' g none := by
 have HI0 := Aside0.mk hI
 have HK := Aside0.mk (KeepBut.refl w g none)
 have HL := Aside0.mk hB.size
 clear hI
 have HW0 := Aside0.mk hB.size
 have HB := Aside0.mk hB
 clear hB
 have H : (if a1 < 1 then (some (0, wrap64 (s0_1 + 1))) else (if (s0_0.length : Int) = 0 then (if a1 = 0 then (none) else (some (Int.tmod (wrap64 ((wrap64 ((wrap64 (s0_1 + 1)) - 1)) * 7)) a1, wrap64 (s0_1 + 1)))) else (if 0 ≤ (Int.tmod (wrap64 ((wrap64 (s0_1 + 1)) - 1)) (s0_0.length : Int)) then (if (Int.tmod (wrap64 ((wrap64 (s0_1 + 1)) - 1)) (s0_0.length : Int)) < (s0_0.length : Int) then (if a1 > 200 then (if 0 ≤ (Int.tmod (wrap64 ((wrap64 ((wrap64 (s0_1 + 1)) - 1)) + 1)) (s0_0.length : Int)) then (if (Int.tmod (wrap64 ((wrap64 ((wrap64 (s0_1 + 1)) - 1)) + 1)) (s0_0.length : Int)) < (s0_0.length : Int) then (if a1 = 0 then (none) else (some (Int.tmod (wrap64 ((wrap64 ((wrap64 ((wrap64 ((wrap64 (rd s0_0 (Int.tmod (wrap64 ((wrap64 (s0_1 + 1)) - 1)) (s0_0.length : Int)))) + (wrap64 ((wrap64 (Int.tdiv (wrap64 ((wrap64 (s0_1 + 1)) - 1)) (s0_0.length : Int))) * 37)))) * 251)) + (wrap64 ((wrap64 (rd s0_0 (Int.tmod (wrap64 ((wrap64 ((wrap64 (s0_1 + 1)) - 1)) + 1)) (s0_0.length : Int)))) * 13)))) + (wrap64 ((wrap64 (s0_1 + 1)) - 1)))) a1, wrap64 (s0_1 + 1)))) else (none)) else (none)) else (if a1 = 0 then (none) else (some (Int.tmod (wrap64 ((wrap64 (rd s0_0 (Int.tmod (wrap64 ((wrap64 (s0_1 + 1)) - 1)) (s0_0.length : Int)))) + (wrap64 ((wrap64 (Int.tdiv (wrap64 ((wrap64 (s0_1 + 1)) - 1)) (s0_0.length : Int))) * 37)))) a1, wrap64 (s0_1 + 1))))) else (none)) else (none)))) = some (r1, r2) := h
 clear h
 by_cases c3 : a1 < 1
 ·rw [if_pos c3] at H
  have c3b0 := decide_eq_true c3
  clear c3
  simp only [Option.some.injEq, Prod.mk.injEq] at H
  obtain ⟨rfl, rfl⟩ := H
  obtain ⟨ASz4_0, cSz4_0, HGz4, hgz4, HSz4_0⟩ := HI0.out
  have hcz4_0 := cellS106_0 HGz4
  have hcz4_1 := cellS106_1 HGz4
  have hfz4_1 := blk_frozen HGz4 1
  clear HGz4 hgz4
  go_enter Try.func66, Try.ntmps66
  go_wp2
  repeat (go_quiet (fail); try go_wp2)
  go_ret
  exact ⟨ce_, cI_ HI0.out, cB1_ (IsS106.ge HI0.out), cK_ HK.out⟩
 rw [if_neg c3] at H
 have c3b0 := decide_eq_false c3
 clear c3
 by_cases c5 : (s0_0.length : Int) = 0
 ·rw [if_pos c5] at H
  have c5b0 : ((s0_0.length : Int) == 0) = true := beq_iff_eq.mpr c5
  have c5b1 : ((s0_0.length : Int) != 0) = false := bne_eq_false_iff_eq.mpr c5
  clear c5
  by_cases c6 : a1 = 0
  ·rw [if_pos c6] at H
   exact absurd H (by simp)
  rw [if_neg c6] at H
  have c6b0 : (a1 == 0) = false := beq_eq_false_iff_ne.mpr c6
  have c6b1 : (a1 != 0) = true := bne_iff_ne.mpr c6
  simp only [Option.some.injEq, Prod.mk.injEq] at H
  obtain ⟨rfl, rfl⟩ := H
  obtain ⟨ASz7_0, cSz7_0, HGz7, hgz7, HSz7_0⟩ := HI0.out
  have hcz7_0 := cellS106_0 HGz7
  have hcz7_1 := cellS106_1 HGz7
  have hfz7_1 := blk_frozen HGz7 1
  clear HGz7 hgz7
  go_enter Try.func66, Try.ntmps66
  go_wp2
  repeat (go_quiet (fail); try go_wp2)
  go_ret
  exact ⟨ce_, cI_ HI0.out, cB1_ (IsS106.ge HI0.out), cK_ HK.out⟩
 rw [if_neg c5] at H
 have c5b0 : ((s0_0.length : Int) == 0) = false := beq_eq_false_iff_ne.mpr c5
 have c5b1 : ((s0_0.length : Int) != 0) = true := bne_iff_ne.mpr c5
 have c5b2 : ¬ (s0_0 = []) := fun h_ => c5 (by rw [h_]; rfl)
 obtain ⟨ji8, hji8⟩ : ∃ j_ : Int, (Int.tmod (wrap64 ((wrap64 (s0_1 + 1)) - 1)) (s0_0.length : Int)) = j_ := ⟨_, rfl⟩
 replace H : (if 0 ≤ (ji8) then (if (ji8) < (s0_0.length : Int) then (if a1 > 200 then (if 0 ≤ (Int.tmod (wrap64 ((wrap64 ((wrap64 (s0_1 + 1)) - 1)) + 1)) (s0_0.length : Int)) then (if (Int.tmod (wrap64 ((wrap64 ((wrap64 (s0_1 + 1)) - 1)) + 1)) (s0_0.length : Int)) < (s0_0.length : Int) then (if a1 = 0 then (none) else (some (Int.tmod (wrap64 ((wrap64 ((wrap64 ((wrap64 ((wrap64 (rd s0_0 (ji8))) + (wrap64 ((wrap64 (Int.tdiv (wrap64 ((wrap64 (s0_1 + 1)) - 1)) (s0_0.length : Int))) * 37)))) * 251)) + (wrap64 ((wrap64 (rd s0_0 (Int.tmod (wrap64 ((wrap64 ((wrap64 (s0_1 + 1)) - 1)) + 1)) (s0_0.length : Int)))) * 13)))) + (wrap64 ((wrap64 (s0_1 + 1)) - 1)))) a1, wrap64 (s0_1 + 1)))) else (none)) else (none)) else (if a1 = 0 then (none) else (some (Int.tmod (wrap64 ((wrap64 (rd s0_0 (ji8))) + (wrap64 ((wrap64 (Int.tdiv (wrap64 ((wrap64 (s0_1 + 1)) - 1)) (s0_0.length : Int))) * 37)))) a1, wrap64 (s0_1 + 1))))) else (none)) else (none)) = some (r1, r2) := by first | (rw [hji8] at H; exact H) | (simp only [hji8] at H ⊢; exact H)
 by_cases c9 : 0 ≤ (ji8)
 rotate_left
 ·rw [if_neg c9] at H
  exact absurd H (by simp)
 rw [if_pos c9] at H
 have c9b0 := decide_eq_true c9
 clear c9
 by_cases c10 : (ji8) < (s0_0.length : Int)
 rotate_left
 ·rw [if_neg c10] at H
  exact absurd H (by simp)
 rw [if_pos c10] at H
 have c10b0 := decide_eq_true c10
 clear c10
 by_cases c11 : a1 > 200
 rotate_left
 ·rw [if_neg c11] at H
  have c11b0 : decide (200 < a1) = false := decide_eq_false c11
  clear c11
  by_cases c17 : a1 = 0
  ·rw [if_pos c17] at H
   exact absurd H (by simp)
  rw [if_neg c17] at H
  have c17b0 : (a1 == 0) = false := beq_eq_false_iff_ne.mpr c17
  have c17b1 : (a1 != 0) = true := bne_iff_ne.mpr c17
  simp only [Option.some.injEq, Prod.mk.injEq] at H
  obtain ⟨rfl, rfl⟩ := H
  obtain ⟨ASz18_0, cSz18_0, HGz18, hgz18, HSz18_0⟩ := HI0.out
  have hcz18_0 := cellS106_0 HGz18
  have hcz18_1 := cellS106_1 HGz18
  have hfz18_1 := blk_frozen HGz18 1
  clear HGz18 hgz18
  have p247 : 0 ≤ ((ji8) : Int) := cd_
  have q247 : (ji8) < (s0_0.length : Int) := cd_
  obtain ⟨ad247, e247, hx247_0⟩ := Kd.at_int HSz18_0 (ji8) p247 q247
  cases e247
  have hn247_0 : ad247.block ≠ g := Nat.ne_of_lt (Nat.lt_of_lt_of_le (by have := World.block_lt_of_cell? _ _ hx247_0; first | rwa [add_block] at this | exact this) (IsS106.ge HI0.out))
  replace hx247_0 := pw_cell_below HB.out hx247_0
  replace hx247_0 := (cell_far (p := ⟨g, 1, none⟩) (by first | (rw [add_block]; exact hn247_0) | (show (Addr.add _ _).block ≠ _; rw [add_block]; exact hn247_0) | exact hn247_0) (.int .i64 (wrap64 (s0_1 + 1)))).trans hx247_0
  (try have hy247_0 := fun (n_ : Nat) => (show (((w.drewN n_).setCell ⟨g, 1, none⟩ (.int .i64 (wrap64 (s0_1 + 1))))).cell? _ = some _ from hx247_0))
  clear hn247_0
  replace p247 := eq_true p247
  replace q247 := eq_true q247
  go_enter Try.func66, Try.ntmps66
  go_wp2
  repeat (go_quiet (fail); try go_wp2)
  go_ret
  exact ⟨by first | rfl | (simp [errW_none, errW_some] <;> rfl) | (simp only [← hji8]; first | rfl | (simp [errW_none, errW_some] <;> rfl)) | (simp [*, errW_none, errW_some] <;> rfl), cI_ HI0.out, cB1_ (IsS106.ge HI0.out), cK_ HK.out⟩
 rw [if_pos c11] at H
 have c11b0 : decide (200 < a1) = true := decide_eq_true c11
 clear c11
 obtain ⟨ji12, hji12⟩ : ∃ j_ : Int, (Int.tmod (wrap64 ((wrap64 ((wrap64 (s0_1 + 1)) - 1)) + 1)) (s0_0.length : Int)) = j_ := ⟨_, rfl⟩
 replace H : (if 0 ≤ (ji12) then (if (ji12) < (s0_0.length : Int) then (if a1 = 0 then (none) else (some (Int.tmod (wrap64 ((wrap64 ((wrap64 ((wrap64 ((wrap64 (rd s0_0 (ji8))) + (wrap64 ((wrap64 (Int.tdiv (wrap64 ((wrap64 (s0_1 + 1)) - 1)) (s0_0.length : Int))) * 37)))) * 251)) + (wrap64 ((wrap64 (rd s0_0 (ji12))) * 13)))) + (wrap64 ((wrap64 (s0_1 + 1)) - 1)))) a1, wrap64 (s0_1 + 1)))) else (none)) else (none)) = some (r1, r2) := by first | (rw [hji12] at H; exact H) | (simp only [hji12] at H ⊢; exact H)
 by_cases c13 : 0 ≤ (ji12)
 rotate_left
 ·rw [if_neg c13] at H
  exact absurd H (by simp)
 rw [if_pos c13] at H
 have c13b0 := decide_eq_true c13
 clear c13
 by_cases c14 : (ji12) < (s0_0.length : Int)
 rotate_left
 ·rw [if_neg c14] at H
  exact absurd H (by simp)
 rw [if_pos c14] at H
 have c14b0 := decide_eq_true c14
 clear c14
 by_cases c15 : a1 = 0
 ·rw [if_pos c15] at H
  exact absurd H (by simp)
 rw [if_neg c15] at H
 have c15b0 : (a1 == 0) = false := beq_eq_false_iff_ne.mpr c15
 have c15b1 : (a1 != 0) = true := bne_iff_ne.mpr c15
 simp only [Option.some.injEq, Prod.mk.injEq] at H
 obtain ⟨rfl, rfl⟩ := H
 obtain ⟨ASz16_0, cSz16_0, HGz16, hgz16, HSz16_0⟩ := HI0.out
 have hcz16_0 := cellS106_0 HGz16
 have hcz16_1 := cellS106_1 HGz16
 have hfz16_1 := blk_frozen HGz16 1
 clear HGz16 hgz16
 have p247 : 0 ≤ ((ji8) : Int) := cd_
 have q247 : (ji8) < (s0_0.length : Int) := cd_
 obtain ⟨ad247, e247, hx247_0⟩ := Kd.at_int HSz16_0 (ji8) p247 q247
 cases e247
 have hn247_0 : ad247.block ≠ g := Nat.ne_of_lt (Nat.lt_of_lt_of_le (by have := World.block_lt_of_cell? _ _ hx247_0; first | rwa [add_block] at this | exact this) (IsS106.ge HI0.out))
 replace hx247_0 := pw_cell_below HB.out hx247_0
 replace hx247_0 := (cell_far (p := ⟨g, 1, none⟩) (by first | (rw [add_block]; exact hn247_0) | (show (Addr.add _ _).block ≠ _; rw [add_block]; exact hn247_0) | exact hn247_0) (.int .i64 (wrap64 (s0_1 + 1)))).trans hx247_0
 (try have hy247_0 := fun (n_ : Nat) => (show (((w.drewN n_).setCell ⟨g, 1, none⟩ (.int .i64 (wrap64 (s0_1 + 1))))).cell? _ = some _ from hx247_0))
 clear hn247_0
 replace p247 := eq_true p247
 replace q247 := eq_true q247
 have p248 : 0 ≤ ((ji12) : Int) := cd_
 have q248 : (ji12) < (s0_0.length : Int) := cd_
 obtain ⟨ad248, e248, hx248_0⟩ := Kd.at_int HSz16_0 (ji12) p248 q248
 obtain rfl : ad247 = ad248 := (by injection e248)
 have hn248_0 : ad247.block ≠ g := Nat.ne_of_lt (Nat.lt_of_lt_of_le (by have := World.block_lt_of_cell? _ _ hx248_0; first | rwa [add_block] at this | exact this) (IsS106.ge HI0.out))
 replace hx248_0 := pw_cell_below HB.out hx248_0
 replace hx248_0 := (cell_far (p := ⟨g, 1, none⟩) (by first | (rw [add_block]; exact hn248_0) | (show (Addr.add _ _).block ≠ _; rw [add_block]; exact hn248_0) | exact hn248_0) (.int .i64 (wrap64 (s0_1 + 1)))).trans hx248_0
 (try have hy248_0 := fun (n_ : Nat) => (show (((w.drewN n_).setCell ⟨g, 1, none⟩ (.int .i64 (wrap64 (s0_1 + 1))))).cell? _ = some _ from hx248_0))
 clear hn248_0
 replace p248 := eq_true p248
 replace q248 := eq_true q248
 go_enter Try.func66, Try.ntmps66
 go_wp2
 repeat (go_quiet (fail); try go_wp2)
 go_ret
 exact ⟨by first | rfl | (simp [errW_none, errW_some] <;> rfl) | (simp only [← hji8, ← hji12]; first | rfl | (simp [errW_none, errW_some] <;> rfl)) | (simp [*, errW_none, errW_some] <;> rfl), cI_ HI0.out, cB1_ (IsS106.ge HI0.out), cK_ HK.out⟩

/-! ### spec_l1Pick: function 68 -/
def spec_l1Pick.f (s0_0 : List Int) (s0_1 : Int) (l1 : List Int) : Option (Int × Int) := (spec_l1Next.f s0_0 s0_1 (l1.length : Int)).bind fun bt249 => (if 0 ≤ bt249.1 then (if bt249.1 < (l1.length : Int) then (some (rd l1 bt249.1, bt249.2)) else (none)) else (none))
theorem spec_l1Pick.calls (g : Nat) (s0_0 : List Int) (s0_1 : Int) (A1 : Option Addr) (c1 : Nat) (l1 : List Int) (r1 : Int) (r2 : Int) (w0 w : World) (hI : IsS106 w0 w g s0_0 s0_1) (hB : Below w0.heap.size w0 w) (hr1 : Kd.C (Kd.int .i64) w A1 l1.length l1) (hc1 : l1.length ≤ c1) (hf1 : ∀ ad, A1 = some ad → 0 < l1.length → ad.block ≠ g) (h : spec_l1Pick.f s0_0 s0_1 l1 = some (r1, r2)) :
  Calls Try.prog 68 #[.pointer (some ⟨g, 0, none⟩), .slice A1 l1.length c1] w fun e w' => e = .returned (.int .i64 r1) ∧ IsS106 w0 w' g s0_0 r2 ∧ Below w0.heap.size w0 w' ∧ KeepBut w w' g none := by
 have HR1 := Aside0.mk hr1
 have HC1 := Aside0.mk hc1
 clear hr1 hc1
 have HI0 := Aside0.mk hI
 have HK := Aside0.mk (KeepBut.refl w g none)
 have HL := Aside0.mk hB.size
 clear hI
 have HW0 := Aside0.mk hB.size
 have HB := Aside0.mk hB
 clear hB
 have H : ((spec_l1Next.f s0_0 s0_1 (l1.length : Int)).bind fun bt249 => (if 0 ≤ bt249.1 then (if bt249.1 < (l1.length : Int) then (some (rd l1 bt249.1, bt249.2)) else (none)) else (none))) = some (r1, r2) := h
 clear h
 obtain ⟨⟨t249, t250⟩, A3, H⟩ := bnd_ H
 try dsimp only at H
 by_cases c4 : 0 ≤ t249
 rotate_left
 ·rw [if_neg c4] at H
  exact absurd H (by simp)
 rw [if_pos c4] at H
 have c4b0 := decide_eq_true c4
 clear c4
 by_cases c5 : t249 < (l1.length : Int)
 ·rw [if_pos c5] at H
  have c5b0 := decide_eq_true c5
  clear c5
  simp only [Option.some.injEq, Prod.mk.injEq] at H
  obtain ⟨rfl, rfl⟩ := H
  go_enter Try.func68, Try.ntmps68
  go_wp2_with (first | (refine gl_ 66 (some 9) Try.func66 #[.pointer (some ⟨g, 0, none⟩), .int .i64 (l1.length : Int)] ?_; (with_reducible refine (spec_l1Next.calls g s0_0 s0_1 (l1.length : Int) t249 t250 w0 _ ?side1 ?side2 A3.out).mono ?_); (case side1 => exact cI_ HI0.out); (case side2 => exact cB1_ (IsS106.ge HI0.out)); rintro e w6 ⟨rfl, hi, hb, hk⟩; refine ⟨_, rfl, ?_⟩; replace HK := Aside0.mk (KeepBut.trans b12_0 hk (.inl rfl)); replace HB := Aside0.mk (hb); replace HI0 := Aside0.mk (hi); (try clear hb); (try clear hb2); (try clear hk); (try clear hi); have p251 : 0 ≤ (t249 : Int) := cd_; have q251 : t249 < (l1.length : Int) := cd_; obtain ⟨ad251, e251, hx251_0⟩ := Kd.at_int HR1.out t249 p251 q251; cases e251; replace hx251_0 := keep_cell HK.out hx251_0 (by first | (rw [add_block]; exact hf1 _ rfl (by omega)) | exact hf1 _ rfl (by omega) | exact hf1 ad251 rfl (by omega)); replace p251 := eq_true p251; replace q251 := eq_true q251))
  go_ret
  exact ⟨ce_, cI_ HI0.out, cB1_ (IsS106.ge HI0.out), cK_ HK.out⟩
 rw [if_neg c5] at H
 exact absurd H (by simp)

/-! ### spec_l1Cell: function 123 -/
def spec_l1Cell.f (s0_0 : List Int) (s0_1 : Int) : Option (Int × Int) := (spec_l1Next.f s0_0 s0_1 4).bind fun bt252 => ((spec_l1Next.f s0_0 bt252.2 4).bind fun bt254 => ((spec_l1Next.f s0_0 bt254.2 4).bind fun bt256 => ((spec_l1Next.f s0_0 bt256.2 5).bind fun bt258 => ((spec_l1Next.f s0_0 bt258.2 90000).bind fun bt260 => ((spec_l1Pick.f s0_0 bt260.2 (([bt252.1, bt254.1, bt256.1, wrap64 (-bt258.1), bt260.1] : List Int))).bind fun bt265 => (some (bt265.1, bt265.2)))))))
theorem spec_l1Cell.calls (g : Nat) (s0_0 : List Int) (s0_1 : Int) (r1 : Int) (r2 : Int) (w0 w : World) (hI : IsS106 w0 w g s0_0 s0_1) (hB : Below w0.heap.size w0 w) (h : spec_l1Cell.f s0_0 s0_1 = some (r1, r2)) :
  Calls Try.prog 123 #[.pointer (some ⟨g, 0, none⟩)] w fun e w' => e = .returned (.int .i64 r1) ∧ IsS106 w0 w' g s0_0 r2 ∧ Below w0.heap.size w0 w' ∧ KeepBut w w' g none := by
 have HI0 := Aside0.mk hI
 have HK := Aside0.mk (KeepBut.refl w g none)
 have HL := Aside0.mk hB.size
 clear hI
 have HW0 := Aside0.mk hB.size
 have HB := Aside0.mk hB
 clear hB
 have H : ((spec_l1Next.f s0_0 s0_1 4).bind fun bt252 => ((spec_l1Next.f s0_0 bt252.2 4).bind fun bt254 => ((spec_l1Next.f s0_0 bt254.2 4).bind fun bt256 => ((spec_l1Next.f s0_0 bt256.2 5).bind fun bt258 => ((spec_l1Next.f s0_0 bt258.2 90000).bind fun bt260 => ((spec_l1Pick.f s0_0 bt260.2 (([bt252.1, bt254.1, bt256.1, wrap64 (-bt258.1), bt260.1] : List Int))).bind fun bt265 => (some (bt265.1, bt265.2)))))))) = some (r1, r2) := h
 clear h
 obtain ⟨⟨t252, t253⟩, A2, H⟩ := bnd_ H
 try dsimp only at H
 obtain ⟨⟨t254, t255⟩, A3, H⟩ := bnd_ H
 try dsimp only at H
 obtain ⟨⟨t256, t257⟩, A4, H⟩ := bnd_ H
 try dsimp only at H
 obtain ⟨⟨t258, t259⟩, A5, H⟩ := bnd_ H
 try dsimp only at H
 obtain ⟨⟨t260, t261⟩, A6, H⟩ := bnd_ H
 try dsimp only at H
 obtain ⟨y262, hy_⟩ : ∃ y_ : List Int, y_ = (([t252, t254, t256, wrap64 (-t258), t260] : List Int)) := ⟨_, rfl⟩
 replace H : ((spec_l1Pick.f s0_0 t261 y262).bind fun bt265 => (some (bt265.1, bt265.2))) = some (r1, r2) := yb_
 have Ny262 := Aside0.mk hy_
 clear hy_
 obtain ⟨⟨t265, t266⟩, A7, H⟩ := bnd_ H
 try dsimp only at H
 simp only [Option.some.injEq, Prod.mk.injEq] at H
 obtain ⟨rfl, rfl⟩ := H
 go_enter Try.func123, Try.ntmps123
 go_wp2_with (first | (refine gl_ 66 (some 5) Try.func66 #[.pointer (some ⟨g, 0, none⟩), .int .i64 4] ?_; (with_reducible refine (spec_l1Next.calls g s0_0 s0_1 4 t252 t253 w0 _ ?side1 ?side2 A2.out).mono ?_); (case side1 => exact cI_ HI0.out); (case side2 => exact cB1_ (IsS106.ge HI0.out)); rintro e w8 ⟨rfl, hi, hb, hk⟩; refine ⟨_, rfl, ?_⟩; replace HK := Aside0.mk (KeepBut.trans b12_0 hk (.inl rfl)); replace HB := Aside0.mk (hb); replace HI0 := Aside0.mk (hi); (try clear hb); (try clear hb2); (try clear hk); (try clear hi)) | (refine gl_ 66 (some 7) Try.func66 #[.pointer (some ⟨g, 0, none⟩), .int .i64 4] ?_; (with_reducible refine (spec_l1Next.calls g s0_0 t253 4 t254 t255 w0 _ ?side1 ?side2 A3.out).mono ?_); (case side1 => exact cI_ HI0.out); (case side2 => exact cB1_ (IsS106.ge HI0.out)); rintro e w9 ⟨rfl, hi, hb, hk⟩; refine ⟨_, rfl, ?_⟩; replace HK := Aside0.mk (KeepBut.trans b12_0 hk (.inl rfl)); replace HB := Aside0.mk (hb); replace HI0 := Aside0.mk (hi); (try clear hb); (try clear hb2); (try clear hk); (try clear hi)) | (refine gl_ 66 (some 9) Try.func66 #[.pointer (some ⟨g, 0, none⟩), .int .i64 4] ?_; (with_reducible refine (spec_l1Next.calls g s0_0 t255 4 t256 t257 w0 _ ?side1 ?side2 A4.out).mono ?_); (case side1 => exact cI_ HI0.out); (case side2 => exact cB1_ (IsS106.ge HI0.out)); rintro e w10 ⟨rfl, hi, hb, hk⟩; refine ⟨_, rfl, ?_⟩; replace HK := Aside0.mk (KeepBut.trans b12_0 hk (.inl rfl)); replace HB := Aside0.mk (hb); replace HI0 := Aside0.mk (hi); (try clear hb); (try clear hb2); (try clear hk); (try clear hi)) | (refine gl_ 66 (some 11) Try.func66 #[.pointer (some ⟨g, 0, none⟩), .int .i64 5] ?_; (with_reducible refine (spec_l1Next.calls g s0_0 t257 5 t258 t259 w0 _ ?side1 ?side2 A5.out).mono ?_); (case side1 => exact cI_ HI0.out); (case side2 => exact cB1_ (IsS106.ge HI0.out)); rintro e w11 ⟨rfl, hi, hb, hk⟩; refine ⟨_, rfl, ?_⟩; replace HK := Aside0.mk (KeepBut.trans b12_0 hk (.inl rfl)); replace HB := Aside0.mk (hb); replace HI0 := Aside0.mk (hi); (try clear hb); (try clear hb2); (try clear hk); (try clear hi)) | (refine gl_ 66 (some 14) Try.func66 #[.pointer (some ⟨g, 0, none⟩), .int .i64 90000] ?_; (with_reducible refine (spec_l1Next.calls g s0_0 t259 90000 t260 t261 w0 _ ?side1 ?side2 A6.out).mono ?_); (case side1 => exact cI_ HI0.out); (case side2 => exact cB1_ (IsS106.ge HI0.out)); rintro e w12 ⟨rfl, hi, hb, hk⟩; refine ⟨_, rfl, ?_⟩; replace HK := Aside0.mk (KeepBut.trans b12_0 hk (.inl rfl)); replace HB := Aside0.mk (hb); replace HI0 := Aside0.mk (hi); (try clear hb); (try clear hb2); (try clear hk); (try clear hi)) | ((with_reducible refine gate_dst (N := 15) rfl ?_); refine Kd.R_lit (Kd.int .i64) _ 2 ?hg (N := 15) ?hd (xs := ([t252, t254, t256, wrap64 (-t258), t260] : List Int)) (inner := [.int .i64 t252, .int .i64 t254, .int .i64 t256, .int .i64 (wrap64 (-t258)), .int .i64 t260]) (ok := fun _ => True) (okp := fun _ => True) ?hr ?hp (fun _ hk => hk) trivial (Below.refl _ _) (Nat.le_refl _) (by simp) ?_; (case hd => rfl); (case hg => rfl); (case hr => first | (go_simp; done) | (go_simp; rfl)); (case hp => exact (Reps.one (show Kd.M (Kd.int .i64) _ _ _ t252 [.int .i64 t252] from rfl) (Reps.one (show Kd.M (Kd.int .i64) _ _ _ t254 [.int .i64 t254] from rfl) (Reps.one (show Kd.M (Kd.int .i64) _ _ _ t256 [.int .i64 t256] from rfl) (Reps.one (show Kd.M (Kd.int .i64) _ _ _ (wrap64 (-t258)) [.int .i64 (wrap64 (-t258))] from rfl) (Reps.one (show Kd.M (Kd.int .i64) _ _ _ t260 [.int .i64 t260] from rfl) (Reps.none _ _))))))); intro v263 w13 ho14 hb hg_ hnew_; clear hg_ hnew_; (first | rw [← Ny262.out] at ho14 | (simp only [Int.reduceToNat] at ho14; rw [← Ny262.out] at ho14)); have HO264 := Aside0.mk (Kd.R_lower ho14 (keep_size (w := w) (g := g) (row := none) b12_0)); replace HK := Aside0.mk (KeepBut.trans b12_0 (KeepBut.of_below hb g none) (.inl rfl)); replace HB := Aside0.mk (below_step b12_3 hb); replace HI0 := Aside0.mk (IsS106.below b12_2 hb); clear hb ho14; obtain ⟨Ao15, co15, eo15⟩ := Kd.R_slice HO264.out; subst eo15) | (refine gl_ 68 (some 16) Try.func68 #[.pointer (some ⟨g, 0, none⟩), .slice Ao15 y262.length co15] ?_; (with_reducible refine (spec_l1Pick.calls g s0_0 t261 _ _ y262 t265 t266 w0 _ ?side1 ?side2 ?side3 ?side4 ?side5 A7.out).mono ?_); (case side1 => exact cI_ HI0.out); (case side2 => exact cB1_ (IsS106.ge HI0.out)); (case side3 => exact cC_ ((Kd.R_reads' HO264.out).2.2)); (case side4 => exact (Kd.R_reads' HO264.out).2.1); (case side5 => exact (by exact far_slice (IsS106.own_ne HI0.out HO264.out (by decide)))); rintro e w16 ⟨rfl, hi, hb, hk⟩; refine ⟨_, rfl, ?_⟩; replace HO264 := Aside0.mk (Kd.R_mono (Kd.R_keep (IsS106.apart (show IsS106 w0 _ g s0_0 t261 from by repeat (first | (with_reducible first | exact HI0.out | apply IsS106.alloc | apply IsS106.drewN | apply IsS106.drew | apply IsS106.set_1) | exact HI0.out)) (cR_ HO264.out) (by decide)) hk (fun _ h => h.2)) (fun _ h => h.1)); replace HK := Aside0.mk (KeepBut.trans b12_0 hk (.inl rfl)); replace HB := Aside0.mk (hb); replace HI0 := Aside0.mk (hi); (try clear hb); (try clear hb2); (try clear hk); (try clear hi)))
 go_ret
 exact ⟨ce_, cI_ HI0.out, cB1_ (IsS106.ge HI0.out), cK_ HK.out⟩

/-! ### spec_l1Row: function 120 -/
def spec_l1Row.l0 : Nat → Int → List Int → List Int → Int → Option (List Int × Int)
 | 0, _, _, _, _ => none
 | k + 1, x1, x5, x1000, x1001 => if x1 > 0 then ((spec_l1Cell.f x1000 x1001).bind fun bt270 => (if x5.length < 17592186044416 then (spec_l1Row.l0 k (wrap64 (x1 - 1)) (x5 ++ [bt270.1]) x1000 bt270.2) else (none))) else (some (x5, x1001))
def spec_l1Row.f (k : Nat) (s0_0 : List Int) (s0_1 : Int) (a1 : Int) : Option (List Int × Int) := spec_l1Row.l0 k a1 (([] : List Int)) s0_0 s0_1
theorem spec_l1Row.mono_l : ∀ k, (∀ y0 y1 y2 y3, LeO (spec_l1Row.l0 k y0 y1 y2 y3) (spec_l1Row.l0 (k + 1) y0 y1 y2 y3))
 | 0 => fun _ _ _ _ r h => by simp [spec_l1Row.l0] at h
 | k + 1 => by
  have ih0 := spec_l1Row.mono_l k
  ·intro y0 y1 y2 y3
   unfold spec_l1Row.l0
   repeat' first
   | (with_reducible exact ih0 _ _ _ _)
   | (with_reducible exact LeO.refl _)
   | (with_reducible exact LeO.none _)
   | (with_reducible refine LeO.ite ?_ ?_)
   | (with_reducible refine LeO.bind ?_ (fun _ => ?_))
   | refine LeO.ite ?_ ?_
   | refine LeO.bind ?_ (fun _ => ?_)
theorem spec_l1Row.mono : ∀ a0 a1 a2 k, LeO (spec_l1Row.f k a0 a1 a2) (spec_l1Row.f (k + 1) a0 a1 a2) := by
 intro a0 a1 a2 k
 have ih0 := spec_l1Row.mono_l k
 unfold spec_l1Row.f
 repeat' first
   | (with_reducible exact ih0 _ _ _ _)
   | (with_reducible exact LeO.refl _)
   | (with_reducible exact LeO.none _)
   | (with_reducible refine LeO.ite ?_ ?_)
   | (with_reducible refine LeO.bind ?_ (fun _ => ?_))
   | refine LeO.ite ?_ ?_
   | refine LeO.bind ?_ (fun _ => ?_)
theorem spec_l1Row.calls (k : Nat) (g : Nat) (s0_0 : List Int) (s0_1 : Int) (a1 : Int) (r1 : List Int) (r2 : Int) (w0 w : World) (hI : IsS106 w0 w g s0_0 s0_1) (hB : Below w0.heap.size w0 w) (h : spec_l1Row.f k s0_0 s0_1 a1 = some (r1, r2)) :
  Calls Try.prog 120 #[.pointer (some ⟨g, 0, none⟩), .int .i64 a1] w fun e w' => ∃ v0_ : Value, e = .returned (v0_) ∧ Kd.R (Kd.int .i64) 2 w' w.heap.size (fun _ => True) v0_ r1 ∧ IsS106 w0 w' g s0_0 r2 ∧ Below w0.heap.size w0 w' ∧ KeepBut w w' g none := by
 have HI0 := Aside0.mk hI
 have HK := Aside0.mk (KeepBut.refl w g none)
 have HL := Aside0.mk hB.size
 clear hI
 have HW0 := Aside0.mk hB.size
 have HB := Aside0.mk hB
 clear hB
 have H : (spec_l1Row.l0 k a1 (([] : List Int)) s0_0 s0_1) = some (r1, r2) := h
 clear h
 obtain ⟨y267, hy_⟩ : ∃ y_ : List Int, y_ = (([] : List Int)) := ⟨_, rfl⟩
 replace H : (spec_l1Row.l0 k a1 y267 s0_0 s0_1) = some (r1, r2) := yb_
 have Ny267 := Aside0.mk hy_
 clear hy_
 have H' := Aside0.mk H
 clear H
 go_enter Try.func120, Try.ntmps120
 go_wp2_with (first | ((with_reducible refine gate_dst (N := 6) rfl ?_); refine Kd.R_lit (Kd.int .i64) _ 2 ?hg (N := 6) ?hd (xs := ([] : List Int)) (inner := []) (ok := fun _ => True) (okp := fun _ => True) ?hr ?hp (fun _ hk => hk) trivial (Below.refl _ _) (Nat.le_refl _) (by simp) ?_; (case hd => rfl); (case hg => rfl); (case hr => first | (go_simp; done) | (go_simp; rfl)); (case hp => exact (Reps.none _ _)); intro v268 w3 ho4 hb hg_ hnew_; clear hg_ hnew_; (first | rw [← Ny267.out] at ho4 | (simp only [Int.reduceToNat] at ho4; rw [← Ny267.out] at ho4)); have HO269 := Aside0.mk (Kd.R_lower ho4 (keep_size (w := w) (g := g) (row := none) b12_0)); replace HK := Aside0.mk (KeepBut.trans b12_0 (KeepBut.of_below hb g none) (.inl rfl)); replace HB := Aside0.mk (below_step b12_3 hb); replace HI0 := Aside0.mk (IsS106.below b12_2 hb); clear hb ho4))
 go_loopg [1, 5] k (fun kq v1 v5 w' => ∃ (x1_1 : Int) (x5_1 : List Int) (x1001_1 : Int), v1 = .int .i64 x1_1 ∧ Aside0 (spec_l1Row.l0 kq x1_1 x5_1 s0_0 x1001_1 = some (r1, r2)) ∧ Aside0 (kq ≤ k) ∧ Aside0 (Kd.R (Kd.int .i64) 2 w' w.heap.size (fun _ => True) v5 x5_1) ∧ Aside0 (IsS106 w0 w' g s0_0 x1001_1) ∧ Aside0 (KeepBut w w' g none) ∧ Aside0 (Below w0.heap.size w0 w'))
 case atStart => exact ⟨(a1), (y267), (s0_1), cs_, H', ⟨Nat.le_refl _⟩, ⟨cR_ HO269.out⟩, ⟨cI_ HI0.out⟩, ⟨cK_ HK.out⟩, ⟨cB1_ (IsS106.ge HI0.out)⟩⟩
 case round =>
  clear H'
  try clear c1
  try clear p2
  obtain ⟨x1_1, x5_1, x1001_1, rfl, HA, HK1, HO_5, HI0, HK, HB⟩ := hrel
  cases gk with
  | zero => exact absurd HA.out (by simp [spec_l1Row.l0])
  | succ k1 =>
   have H := HA.out
   clear HA
   simp only [spec_l1Row.l0] at H
   by_cases c5 : x1_1 > 0
   rotate_left
   ·rw [if_neg c5] at H
    have c5b0 : decide (0 < x1_1) = false := decide_eq_false c5
    clear c5
    simp only [Option.some.injEq, Prod.mk.injEq] at H
    obtain ⟨rfl, rfl⟩ := H
    go_wp2
    go_ret
    exact ⟨_, ce_, cR_ HO_5.out, cI_ HI0.out, cB1_ (IsS106.ge HI0.out), cK_ HK.out⟩
   rw [if_pos c5] at H
   have c5b0 : decide (0 < x1_1) = true := decide_eq_true c5
   clear c5
   obtain ⟨⟨t270, t271⟩, A6, H⟩ := bnd_ H
   try dsimp only at H
   by_cases c7 : x5_1.length < 17592186044416
   ·rw [if_pos c7] at H
    have LMc7 := Aside0.mk c7
    clear c7
    obtain ⟨y272, hy_⟩ : ∃ y_ : List Int, y_ = (x5_1 ++ [t270]) := ⟨_, rfl⟩
    replace H : (spec_l1Row.l0 k1 (wrap64 (x1_1 - 1)) y272 s0_0 t271) = some (r1, r2) := yb_
    have Ny272 := Aside0.mk hy_
    clear hy_
    have H' := Aside0.mk H
    clear H
    go_wp2_with (first | (refine gl_ 123 (some 13) Try.func123 #[.pointer (some ⟨g, 0, none⟩)] ?_; (with_reducible refine (spec_l1Cell.calls g s0_0 x1001_1 t270 t271 w0 _ ?side1 ?side2 A6.out).mono ?_); (case side1 => exact cI_ HI0.out); (case side2 => exact cB1_ (IsS106.ge HI0.out)); rintro e w8 ⟨rfl, hi, hb, hk⟩; refine ⟨_, rfl, ?_⟩; replace HO_5 := Aside0.mk (Kd.R_mono (Kd.R_keep (IsS106.apart (show IsS106 w0 _ g s0_0 x1001_1 from by repeat (first | (with_reducible first | exact HI0.out | apply IsS106.alloc | apply IsS106.drewN | apply IsS106.drew | apply IsS106.set_1) | exact HI0.out)) (cR_ HO_5.out) (by decide)) hk (fun _ h => h.2)) (fun _ h => h.1)); replace HK := Aside0.mk (KeepBut.trans b12_0 hk (.inl rfl)); replace HB := Aside0.mk (hb); replace HI0 := Aside0.mk (hi); (try clear hb); (try clear hb2); (try clear hk); (try clear hi)) | ((with_reducible refine gate_builtin (b := .append) (xs := #[.tmp 11, .tmp 14]) rfl ?_); at_builtin; refine Kd.R_append (Kd.int .i64) w.heap.size rfl (.tmp 11) (.tmp 14) 40 2 (.int .i64 0) 8 rfl Try.underlying40 info2 rfl (by decide) (by omega) u5 x5_1 t270 [.int .i64 t270] (fun _ => True) (fun _ => False) rfl rfl ?aP (fun _ hk => hk.elim) ?aF ?aO (Below.refl _ _) ?aS ?aL ?_; (case aP => exact rfl); (case aF => exact (fun _ _ => trivial)); (case aO => exact (by exact cR_ HO_5.out)); (case aS => exact (by exact (keep_size (w := w) (g := g) (row := none) b12_0))); (case aL => exact co_ LMc7.out); intro v273 w9 ho hb hg hat; rw [← Ny272.out] at ho; replace HB := Aside0.mk (below_weaken b12_3 HL.out hb); replace HI0 := Aside0.mk (IsS106.grown b12_2 hg (IsS106.own_ne HI0.out HO_5.out (by decide))); replace HK := Aside0.mk (KeepBut.trans b12_0 (KeepBut.of_grown hg g) (Kd.R_base2 HO_5.out)); have HO274 := Aside0.mk (ho); clear HO_5; clear ho hb hg hat))
    go_roundg k1
    case measure => have := HK1.out; omega
    case rel => exact ⟨(wrap64 (x1_1 - 1)), (y272), (t271), cs_, H', ⟨co_ HK1.out⟩, ⟨cR_ HO274.out⟩, ⟨cI_ HI0.out⟩, ⟨cK_ HK.out⟩, ⟨cB1_ (IsS106.ge HI0.out)⟩⟩
   rw [if_neg c7] at H
   exact absurd H (by simp)

/-! ### spec_l2Entries: function 119 -/
def spec_l2Entries.l0 : Nat → Int → List (S42) → Int → List Int → Int → Option ((List (S42)) × Int)
 | 0, _, _, _, _, _ => none
 | k + 1, x1, x5, x6, x1000, x1001 => if x6 > 0 then ((spec_l1Row.f k x1000 x1001 x1).bind fun bt280 => ((spec_l1Next.f x1000 bt280.2 9).bind fun bt284 => ((spec_l1Pick.f x1000 bt284.2 (([1, 1, 2, (-1), wrap64 (bt284.1 - 4)] : List Int))).bind fun bt289 => (if x5.length < 4398046511104 then (spec_l2Entries.l0 k x1 (x5 ++ [(⟨bt280.1, bt289.1⟩ : S42)]) (wrap64 (x6 - 1)) x1000 bt289.2) else (none))))) else (some (x5, x1001))
def spec_l2Entries.f (k : Nat) (s0_0 : List Int) (s0_1 : Int) (a1 : Int) : Option ((List (S42)) × Int) := (spec_l1Next.f s0_0 s0_1 7).bind fun bt278 => (spec_l2Entries.l0 k a1 (([] : List (S42))) bt278.1 s0_0 bt278.2)
theorem spec_l2Entries.mono_l : ∀ k, (∀ y0 y1 y2 y3 y4, LeO (spec_l2Entries.l0 k y0 y1 y2 y3 y4) (spec_l2Entries.l0 (k + 1) y0 y1 y2 y3 y4))
 | 0 => fun _ _ _ _ _ r h => by simp [spec_l2Entries.l0] at h
 | k + 1 => by
  have ih0 := spec_l2Entries.mono_l k
  ·intro y0 y1 y2 y3 y4
   unfold spec_l2Entries.l0
   repeat' first
   | (with_reducible exact ih0 _ _ _ _ _)
   | (with_reducible exact spec_l1Row.mono _ _ _ _)
   | (with_reducible exact LeO.refl _)
   | (with_reducible exact LeO.none _)
   | (with_reducible refine LeO.ite ?_ ?_)
   | (with_reducible refine LeO.bind ?_ (fun _ => ?_))
   | refine LeO.ite ?_ ?_
   | refine LeO.bind ?_ (fun _ => ?_)
theorem spec_l2Entries.mono : ∀ a0 a1 a2 k, LeO (spec_l2Entries.f k a0 a1 a2) (spec_l2Entries.f (k + 1) a0 a1 a2) := by
 intro a0 a1 a2 k
 have ih0 := spec_l2Entries.mono_l k
 unfold spec_l2Entries.f
 repeat' first
   | (with_reducible exact ih0 _ _ _ _ _)
   | (with_reducible exact spec_l1Row.mono _ _ _ _)
   | (with_reducible exact LeO.refl _)
   | (with_reducible exact LeO.none _)
   | (with_reducible refine LeO.ite ?_ ?_)
   | (with_reducible refine LeO.bind ?_ (fun _ => ?_))
   | refine LeO.ite ?_ ?_
   | refine LeO.bind ?_ (fun _ => ?_)
theorem spec_l2Entries.calls (k : Nat) (g : Nat) (s0_0 : List Int) (s0_1 : Int) (a1 : Int) (r1 : List (S42)) (r2 : Int) (w0 w : World) (hI : IsS106 w0 w g s0_0 s0_1) (hB : Below w0.heap.size w0 w) (h : spec_l2Entries.f k s0_0 s0_1 a1 = some (r1, r2)) :
  Calls Try.prog 119 #[.pointer (some ⟨g, 0, none⟩), .int .i64 a1] w fun e w' => ∃ v0_ : Value, e = .returned (v0_) ∧ Kd.S k42 42 w' w.heap.size (fun _ => True) v0_ r1 ∧ IsS106 w0 w' g s0_0 r2 ∧ Below w0.heap.size w0 w' ∧ KeepBut w w' g none := by
 have hu42 := Try.underlying42
 have HI0 := Aside0.mk hI
 have HK := Aside0.mk (KeepBut.refl w g none)
 have HL := Aside0.mk hB.size
 clear hI
 have HW0 := Aside0.mk hB.size
 have HB := Aside0.mk hB
 clear hB
 have H : ((spec_l1Next.f s0_0 s0_1 7).bind fun bt278 => (spec_l2Entries.l0 k a1 (([] : List (S42))) bt278.1 s0_0 bt278.2)) = some (r1, r2) := h
 clear h
 obtain ⟨y275, hy_⟩ : ∃ y_ : List (S42), y_ = (([] : List (S42))) := ⟨_, rfl⟩
 replace H : ((spec_l1Next.f s0_0 s0_1 7).bind fun bt278 => (spec_l2Entries.l0 k a1 y275 bt278.1 s0_0 bt278.2)) = some (r1, r2) := yb_
 have Ny275 := Aside0.mk hy_
 clear hy_
 obtain ⟨⟨t278, t279⟩, A3, H⟩ := bnd_ H
 try dsimp only at H
 have H' := Aside0.mk H
 clear H
 go_enter Try.func119, Try.ntmps119
 go_wp2_with (first | ((with_reducible refine gate_dst (N := 7) rfl ?_); refine Kd.S_lit k42 _ 42 ?hg (N := 7) ?hd (xs := ([] : List (S42))) (inner := []) (ok := fun _ => True) (okp := fun _ => True) ?hr ?hp (fun _ hk => hk) trivial (Below.refl _ _) (Nat.le_refl _) (by simp) ?_; (case hd => rfl); (case hg => rfl); (case hr => first | (go_simp; done) | (go_simp; rfl)); (case hp => exact (Reps.none _ _)); intro v276 w4 ho5 hb hg_ hnew_; clear hg_ hnew_; (first | rw [← Ny275.out] at ho5 | (simp only [Int.reduceToNat] at ho5; rw [← Ny275.out] at ho5)); have HO277 := Aside0.mk (Kd.S_lower ho5 (keep_size (w := w) (g := g) (row := none) b12_0)); replace HK := Aside0.mk (KeepBut.trans b12_0 (KeepBut.of_below hb g none) (.inl rfl)); replace HB := Aside0.mk (below_step b12_3 hb); replace HI0 := Aside0.mk (IsS106.below b12_2 hb); clear hb ho5) | (refine gl_ 66 (some 9) Try.func66 #[.pointer (some ⟨g, 0, none⟩), .int .i64 7] ?_; (with_reducible refine (spec_l1Next.calls g s0_0 s0_1 7 t278 t279 w0 _ ?side1 ?side2 A3.out).mono ?_); (case side1 => exact cI_ HI0.out); (case side2 => exact cB1_ (IsS106.ge HI0.out)); rintro e w6 ⟨rfl, hi, hb, hk⟩; refine ⟨_, rfl, ?_⟩; replace HO277 := Aside0.mk (Kd.S_mono (Kd.S_keep (IsS106.apartS (show IsS106 w0 _ g s0_0 s0_1 from by repeat (first | (with_reducible first | exact HI0.out | apply IsS106.alloc | apply IsS106.drewN | apply IsS106.drew | apply IsS106.set_1) | exact HI0.out)) (cS_ HO277.out) (by decide)) hk (fun _ h => h.2)) (fun _ h => h.1)); replace HK := Aside0.mk (KeepBut.trans b12_0 hk (.inl rfl)); replace HB := Aside0.mk (hb); replace HI0 := Aside0.mk (hi); (try clear hb); (try clear hb2); (try clear hk); (try clear hi)))
 go_loopg [5, 6] k (fun kq v5 v6 w' => ∃ (x5_1 : List (S42)) (x6_1 : Int) (x1001_1 : Int), v6 = .int .i64 x6_1 ∧ Aside0 (spec_l2Entries.l0 kq a1 x5_1 x6_1 s0_0 x1001_1 = some (r1, r2)) ∧ Aside0 (kq ≤ k) ∧ Aside0 (Kd.S k42 42 w' w.heap.size (fun _ => True) v5 x5_1) ∧ Aside0 (IsS106 w0 w' g s0_0 x1001_1) ∧ Aside0 (KeepBut w w' g none) ∧ Aside0 (Below w0.heap.size w0 w'))
 case atStart => exact ⟨(y275), (t278), (t279), cs_, H', ⟨Nat.le_refl _⟩, ⟨cS_ HO277.out⟩, ⟨cI_ HI0.out⟩, ⟨cK_ HK.out⟩, ⟨cB1_ (IsS106.ge HI0.out)⟩⟩
 case round =>
  clear H'
  try clear c1
  try clear p2
  try clear c6
  obtain ⟨x5_1, x6_1, x1001_1, rfl, HA, HK1, HO_5, HI0, HK, HB⟩ := hrel
  cases gk with
  | zero => exact absurd HA.out (by simp [spec_l2Entries.l0])
  | succ k1 =>
   have H := HA.out
   clear HA
   simp only [spec_l2Entries.l0] at H
   by_cases c7 : x6_1 > 0
   rotate_left
   ·rw [if_neg c7] at H
    have c7b0 : decide (0 < x6_1) = false := decide_eq_false c7
    clear c7
    simp only [Option.some.injEq, Prod.mk.injEq] at H
    obtain ⟨rfl, rfl⟩ := H
    go_wp2
    go_ret
    exact ⟨_, ce_, cS_ HO_5.out, cI_ HI0.out, cB1_ (IsS106.ge HI0.out), cK_ HK.out⟩
   rw [if_pos c7] at H
   have c7b0 : decide (0 < x6_1) = true := decide_eq_true c7
   clear c7
   obtain ⟨⟨t280, t283⟩, A8, H⟩ := bnd_ H
   try dsimp only at H
   obtain ⟨⟨t284, t285⟩, A9, H⟩ := bnd_ H
   try dsimp only at H
   obtain ⟨y286, hy_⟩ : ∃ y_ : List Int, y_ = (([1, 1, 2, (-1), wrap64 (t284 - 4)] : List Int)) := ⟨_, rfl⟩
   replace H : ((spec_l1Pick.f s0_0 t285 y286).bind fun bt289 => (if x5_1.length < 4398046511104 then (spec_l2Entries.l0 k1 a1 (x5_1 ++ [(⟨t280, bt289.1⟩ : S42)]) (wrap64 (x6_1 - 1)) s0_0 bt289.2) else (none))) = some (r1, r2) := yb_
   have Ny286 := Aside0.mk hy_
   clear hy_
   obtain ⟨⟨t289, t290⟩, A10, H⟩ := bnd_ H
   try dsimp only at H
   by_cases c11 : x5_1.length < 4398046511104
   ·rw [if_pos c11] at H
    have LMc11 := Aside0.mk c11
    clear c11
    obtain ⟨y291, hy_⟩ : ∃ y_ : List (S42), y_ = (x5_1 ++ [(⟨t280, t289⟩ : S42)]) := ⟨_, rfl⟩
    replace H : (spec_l2Entries.l0 k1 a1 y291 (wrap64 (x6_1 - 1)) s0_0 t290) = some (r1, r2) := yb_
    have Ny291 := Aside0.mk hy_
    clear hy_
    have H' := Aside0.mk H
    clear H
    go_wp2_with (first | (refine gl_ 120 (some 17) Try.func120 #[.pointer (some ⟨g, 0, none⟩), .int .i64 a1] ?_; (with_reducible refine (spec_l1Row.calls k1 g s0_0 x1001_1 a1 t280 t283 w0 _ ?side1 ?side2 A8.out).mono ?_); (case side1 => exact cI_ HI0.out); (case side2 => exact cB1_ (IsS106.ge HI0.out)); rintro e w12 ⟨v281, rfl, ho0, hi, hb, hk⟩; refine ⟨_, rfl, ?_⟩; replace HO_5 := Aside0.mk (Kd.S_mono (Kd.S_told (Kd.S_oldK (IsS106.apartS (show IsS106 w0 _ g s0_0 x1001_1 from by repeat (first | (with_reducible first | exact HI0.out | apply IsS106.alloc | apply IsS106.drewN | apply IsS106.drew | apply IsS106.set_1) | exact HI0.out)) (cS_ HO_5.out) (by decide)) hk) (Kd.R_base ho0)) (fun _ h_ => h_.1)); have HO282 := Aside0.mk (Kd.R_lower ho0 (keep_size (w := w) (g := g) (row := none) b12_0)); replace HK := Aside0.mk (KeepBut.trans b12_0 hk (.inl rfl)); replace HB := Aside0.mk (hb); replace HI0 := Aside0.mk (hi); (try clear hb); (try clear hb2); (try clear hk); (try clear hi); (try clear ho0)) | (refine gl_ 66 (some 20) Try.func66 #[.pointer (some ⟨g, 0, none⟩), .int .i64 9] ?_; (with_reducible refine (spec_l1Next.calls g s0_0 t283 9 t284 t285 w0 _ ?side1 ?side2 A9.out).mono ?_); (case side1 => exact cI_ HI0.out); (case side2 => exact cB1_ (IsS106.ge HI0.out)); rintro e w13 ⟨rfl, hi, hb, hk⟩; refine ⟨_, rfl, ?_⟩; replace HO_5 := Aside0.mk (Kd.S_mono (Kd.S_keep (IsS106.apartS (show IsS106 w0 _ g s0_0 t283 from by repeat (first | (with_reducible first | exact HI0.out | apply IsS106.alloc | apply IsS106.drewN | apply IsS106.drew | apply IsS106.set_1) | exact HI0.out)) (cS_ HO_5.out) (by decide)) hk (fun _ h => h.2)) (fun _ h => h.1)); replace HO282 := Aside0.mk (Kd.R_mono (Kd.R_keep (IsS106.apart (show IsS106 w0 _ g s0_0 t283 from by repeat (first | (with_reducible first | exact HI0.out | apply IsS106.alloc | apply IsS106.drewN | apply IsS106.drew | apply IsS106.set_1) | exact HI0.out)) (cR_ HO282.out) (by decide)) hk (fun _ h => h.2)) (fun _ h => h.1)); replace HK := Aside0.mk (KeepBut.trans b12_0 hk (.inl rfl)); replace HB := Aside0.mk (hb); replace HI0 := Aside0.mk (hi); (try clear hb); (try clear hb2); (try clear hk); (try clear hi)) | ((with_reducible refine gate_dst (N := 22) rfl ?_); refine Kd.R_lit (Kd.int .i64) _ 2 ?hg (N := 22) ?hd (xs := ([1, 1, 2, (-1), wrap64 (t284 - 4)] : List Int)) (inner := [.int .i64 1, .int .i64 1, .int .i64 2, .int .i64 (-1), .int .i64 (wrap64 (t284 - 4))]) (ok := fun _ => True) (okp := fun _ => True) ?hr ?hp (fun _ hk => hk) trivial (Below.refl _ _) (Nat.le_refl _) (by simp) ?_; (case hd => rfl); (case hg => rfl); (case hr => first | (go_simp; done) | (go_simp; rfl)); (case hp => exact (Reps.one (show Kd.M (Kd.int .i64) _ _ _ 1 [.int .i64 1] from rfl) (Reps.one (show Kd.M (Kd.int .i64) _ _ _ 1 [.int .i64 1] from rfl) (Reps.one (show Kd.M (Kd.int .i64) _ _ _ 2 [.int .i64 2] from rfl) (Reps.one (show Kd.M (Kd.int .i64) _ _ _ (-1) [.int .i64 (-1)] from rfl) (Reps.one (show Kd.M (Kd.int .i64) _ _ _ (wrap64 (t284 - 4)) [.int .i64 (wrap64 (t284 - 4))] from rfl) (Reps.none _ _))))))); intro v287 w14 ho15 hb hg_ hnew_; clear hg_ hnew_; (first | rw [← Ny286.out] at ho15 | (simp only [Int.reduceToNat] at ho15; rw [← Ny286.out] at ho15)); replace HO_5 := Aside0.mk (Kd.S_elder' (cS_ HO_5.out) (Kd.R_base ho15) hb); have HO288 := Aside0.mk (Kd.R_lower (Kd.R_new' ho15 (Kd.R_lt (cR_ HO282.out))) (keep_size (w := w) (g := g) (row := none) b12_0)); replace HO282 := Aside0.mk (Kd.R_elder' (cR_ HO282.out) (Kd.R_base ho15) hb); replace HK := Aside0.mk (KeepBut.trans b12_0 (KeepBut.of_below hb g none) (.inl rfl)); replace HB := Aside0.mk (below_step b12_3 hb); replace HI0 := Aside0.mk (IsS106.below b12_2 hb); clear hb ho15; obtain ⟨Ao16, co16, eo16⟩ := Kd.R_slice HO288.out; subst eo16) | (refine gl_ 68 (some 23) Try.func68 #[.pointer (some ⟨g, 0, none⟩), .slice Ao16 y286.length co16] ?_; (with_reducible refine (spec_l1Pick.calls g s0_0 t285 _ _ y286 t289 t290 w0 _ ?side1 ?side2 ?side3 ?side4 ?side5 A10.out).mono ?_); (case side1 => exact cI_ HI0.out); (case side2 => exact cB1_ (IsS106.ge HI0.out)); (case side3 => exact cC_ ((Kd.R_reads' HO288.out).2.2)); (case side4 => exact (Kd.R_reads' HO288.out).2.1); (case side5 => exact (by exact far_slice (IsS106.own_ne HI0.out HO288.out (by decide)))); rintro e w17 ⟨rfl, hi, hb, hk⟩; refine ⟨_, rfl, ?_⟩; replace HO_5 := Aside0.mk (Kd.S_mono (Kd.S_keep (IsS106.apartS (show IsS106 w0 _ g s0_0 t285 from by repeat (first | (with_reducible first | exact HI0.out | apply IsS106.alloc | apply IsS106.drewN | apply IsS106.drew | apply IsS106.set_1) | exact HI0.out)) (cS_ HO_5.out) (by decide)) hk (fun _ h => h.2)) (fun _ h => h.1)); replace HO282 := Aside0.mk (Kd.R_mono (Kd.R_keep (IsS106.apart (show IsS106 w0 _ g s0_0 t285 from by repeat (first | (with_reducible first | exact HI0.out | apply IsS106.alloc | apply IsS106.drewN | apply IsS106.drew | apply IsS106.set_1) | exact HI0.out)) (cR_ HO282.out) (by decide)) hk (fun _ h => h.2)) (fun _ h => h.1)); replace HO288 := Aside0.mk (Kd.R_mono (Kd.R_keep (IsS106.apart (show IsS106 w0 _ g s0_0 t285 from by repeat (first | (with_reducible first | exact HI0.out | apply IsS106.alloc | apply IsS106.drewN | apply IsS106.drew | apply IsS106.set_1) | exact HI0.out)) (cR_ HO288.out) (by decide)) hk (fun _ h => h.2)) (fun _ h => h.1)); replace HK := Aside0.mk (KeepBut.trans b12_0 hk (.inl rfl)); replace HB := Aside0.mk (hb); replace HI0 := Aside0.mk (hi); (try clear hb); (try clear hb2); (try clear hk); (try clear hi); obtain ⟨Ao18, co18, eo18⟩ := Kd.R_slice HO282.out; subst eo18) | ((with_reducible refine gate_builtin (b := .append) (xs := #[.tmp 14, .tmp 25]) rfl ?_); at_builtin; refine Kd.S_append k42 w.heap.size rfl (.tmp 14) (.tmp 25) 24 42 (.agg #[(.slice none 0 0), (.int .i64 0)]) 32 rfl Try.underlying24 info42 rfl (by decide) (by omega) u5 x5_1 (⟨t280, t289⟩ : S42) [.slice Ao18 t280.length co18, .int .i64 t289] (fun k_ => some k_ ≠ (.slice Ao16 y286.length co16 : Value).ownBlock) (fun k_ => some k_ = (.slice Ao18 t280.length co18 : Value).ownBlock) rfl rfl ?aP (fun k_ hk_ => ((Kd.R_mono (ok' := fun k_ => ((fun k_ => some k_ ≠ (.slice Ao16 y286.length co16 : Value).ownBlock)) k_ ∧ some k_ ≠ (u5 : Value).ownBlock) (Kd.R_apart' (HO282.out) (Kd.S_typed HO_5.out) (by decide)) (fun k_ hk => ⟨hk.1.2, hk.2⟩))).1 k_ hk_.symm) ?aF ?aO (Below.refl _ _) ?aS ?aL ?_; (case aP => exact (by exact k42_mkM _ _ _ (⟨t280, t289⟩ : S42) (Kd.R_mono (Kd.R_tight rfl (Kd.R_mono (ok' := fun k_ => ((fun k_ => some k_ ≠ (.slice Ao16 y286.length co16 : Value).ownBlock)) k_ ∧ some k_ ≠ (u5 : Value).ownBlock) (Kd.R_apart' (HO282.out) (Kd.S_typed HO_5.out) (by decide)) (fun k_ hk => ⟨hk.1.2, hk.2⟩))) (fun _ h_ => h_)))); (case aF => exact (by exact (fun k_ hk => Kd.fresh' (Kd.R_lt (cR_ HO288.out)) k_ hk))); (case aO => exact (by exact (by refine cS_ ?_; exact Kd.S_mono HO_5.out (fun k_ hk => ⟨hk.2, fun e_ => hk.1.2 e_⟩)))); (case aS => exact (by exact (keep_size (w := w) (g := g) (row := none) b12_0))); (case aL => exact co_ LMc11.out); intro v292 w19 ho hb hg hat; rw [← Ny291.out] at ho; replace HO288 := Aside0.mk (Kd.R_over' (cR_ HO288.out) (Kd.S_typed (cS_ HO_5.out)) (by decide) hg); replace HB := Aside0.mk (below_weaken b12_3 HL.out hb); replace HI0 := Aside0.mk (IsS106.grown b12_2 hg (IsS106.own_neS HI0.out HO_5.out (by decide))); replace HK := Aside0.mk (KeepBut.trans b12_0 (KeepBut.of_grown hg g) (Kd.S_base2 HO_5.out)); have HO293 := Aside0.mk (ho); clear HO_5; clear HO282; clear ho hb hg hat))
    go_roundg k1
    case measure => have := HK1.out; omega
    case rel => exact ⟨(y291), (wrap64 (x6_1 - 1)), (t290), cs_, H', ⟨co_ HK1.out⟩, ⟨by refine cS_ ?_; exact Kd.S_mono HO293.out (fun _ hk => trivial)⟩, ⟨cI_ HI0.out⟩, ⟨cK_ HK.out⟩, ⟨cB1_ (IsS106.ge HI0.out)⟩⟩
   rw [if_neg c11] at H
   exact absurd H (by simp)

/-! ### spec_l2Draw: function 103 -/
def spec_l2Draw.f (k : Nat) (s0_0 : List Int) (s0_1 : Int) (a1 : Int) : Option ((List (S42)) × Int) := (spec_l2Entries.f k s0_0 s0_1 a1).bind fun bt294 => ((spec_l2Set.f k bt294.1).bind fun bt298 => (some (bt298.1, bt294.2)))
theorem spec_l2Draw.mono : ∀ a0 a1 a2 k, LeO (spec_l2Draw.f k a0 a1 a2) (spec_l2Draw.f (k + 1) a0 a1 a2) := by
 intro a0 a1 a2 k
 unfold spec_l2Draw.f
 repeat' first
   | (with_reducible exact spec_l2Entries.mono _ _ _ _)
   | (with_reducible exact spec_l2Set.mono _ _)
   | (with_reducible exact LeO.refl _)
   | (with_reducible exact LeO.none _)
   | (with_reducible refine LeO.ite ?_ ?_)
   | (with_reducible refine LeO.bind ?_ (fun _ => ?_))
   | refine LeO.ite ?_ ?_
   | refine LeO.bind ?_ (fun _ => ?_)
theorem spec_l2Draw.calls (k : Nat) (g : Nat) (s0_0 : List Int) (s0_1 : Int) (a1 : Int) (r1 : List (S42)) (r2 : Int) (w0 w : World) (hI : IsS106 w0 w g s0_0 s0_1) (hB : Below w0.heap.size w0 w) (h : spec_l2Draw.f k s0_0 s0_1 a1 = some (r1, r2)) :
  Calls Try.prog 103 #[.pointer (some ⟨g, 0, none⟩), .int .i64 a1] w fun e w' => ∃ v0_ : Value, e = .returned (v0_) ∧ Kd.N k42 42 w' w.heap.size (fun k_ => (w.heap.size ≤ k_)) v0_ r1 ∧ IsS106 w0 w' g s0_0 r2 ∧ Below w0.heap.size w0 w' ∧ KeepBut w w' g none := by
 have HI0 := Aside0.mk hI
 have HK := Aside0.mk (KeepBut.refl w g none)
 have HL := Aside0.mk hB.size
 clear hI
 have HW0 := Aside0.mk hB.size
 have HB := Aside0.mk hB
 clear hB
 have H : ((spec_l2Entries.f k s0_0 s0_1 a1).bind fun bt294 => ((spec_l2Set.f k bt294.1).bind fun bt298 => (some (bt298.1, bt294.2)))) = some (r1, r2) := h
 clear h
 obtain ⟨⟨t294, t297⟩, A3, H⟩ := bnd_ H
 try dsimp only at H
 obtain ⟨⟨t298, t301⟩, A4, H⟩ := bnd_ H
 try dsimp only at H
 simp only [Option.some.injEq, Prod.mk.injEq] at H
 obtain ⟨rfl, rfl⟩ := H
 go_enter Try.func103, Try.ntmps103
 go_wp2_with (first | (refine gl_ 119 (some 10) Try.func119 #[.pointer (some ⟨g, 0, none⟩), .int .i64 a1] ?_; (with_reducible refine (spec_l2Entries.calls k g s0_0 s0_1 a1 t294 t297 w0 _ ?side1 ?side2 A3.out).mono ?_); (case side1 => exact cI_ HI0.out); (case side2 => exact cB1_ (IsS106.ge HI0.out)); rintro e w5 ⟨v295, rfl, ho0, hi, hb, hk⟩; refine ⟨_, rfl, ?_⟩; have HO296 := Aside0.mk (Kd.N_lower (Kd.N_mono (ok' := fun k_ => (w.heap.size ≤ k_) ∧ k_ ≠ g) (Kd.S_N (Kd.S_bound ho0)) (fun k_ hk_ => ⟨(Nat.le_trans (keep_size (w := w) (g := g) (row := none) b12_0) hk_.2.1), (IsS106.fresh b12_2 k_ hk_.2.1)⟩)) (keep_size (w := w) (g := g) (row := none) b12_0)); replace HK := Aside0.mk (KeepBut.trans b12_0 hk (.inl rfl)); replace HB := Aside0.mk (hb); replace HI0 := Aside0.mk (hi); (try clear hb); (try clear hb2); (try clear hk); (try clear hi); (try clear ho0); obtain ⟨Ao6, co6, eo6⟩ := Kd.N_slice HO296.out; subst eo6) | (refine gl_ 46 (some 11) Try.func46 #[.slice Ao6 t294.length co6] ?_; (with_reducible refine (spec_l2Set.calls k _ _ t294 t298 t301 _ ?side1 ?side2 A4.out).mono ?_); (case side1 => exact cC_ ((Kd.N_reads' HO296.out).2.2)); (case side2 => exact (Kd.N_reads' HO296.out).2.1); rintro e w7 ⟨v299, rfl, ho0, hb⟩; refine ⟨_, rfl, ?_⟩; have HO300 := Aside0.mk (Kd.N_lower (Kd.N_mono (ok' := fun k_ => (w.heap.size ≤ k_) ∧ some k_ ≠ (.slice Ao6 t294.length co6 : Value).ownBlock ∧ k_ ≠ g) ho0 (fun k_ hk_ => ⟨(Nat.le_trans (keep_size (w := w) (g := g) (row := none) b12_0) hk_), (Kd.fresh' (Kd.N_lt (cN_ HO296.out)) k_ hk_), (IsS106.fresh b12_2 k_ hk_)⟩)) (keep_size (w := w) (g := g) (row := none) b12_0)); replace HO296 := Aside0.mk (Kd.N_elder' (cN_ HO296.out) (Kd.N_base ho0) hb); replace HK := Aside0.mk (KeepBut.trans b12_0 (KeepBut.of_below hb g none) (.inl rfl)); replace HB := Aside0.mk (below_step b12_3 hb); replace HI0 := Aside0.mk (IsS106.below b12_2 hb); (try clear hb); (try clear hb2); (try clear hk); (try clear hi); (try clear ho0)))
 go_ret
 exact ⟨_, ce_, by refine cN_ ?_; exact Kd.N_mono HO300.out (fun _ hk => hk.1), cI_ HI0.out, cB1_ (IsS106.ge HI0.out), cK_ HK.out⟩

/-! ### spec_l1Chance: function 67 -/
def spec_l1Chance.f (s0_0 : List Int) (s0_1 : Int) (a1 : Int) : Option (Bool × Int) := (spec_l1Next.f s0_0 s0_1 a1).bind fun bt302 => (some ((bt302.1 == 0), bt302.2))
theorem spec_l1Chance.calls (g : Nat) (s0_0 : List Int) (s0_1 : Int) (a1 : Int) (r1 : Bool) (r2 : Int) (w0 w : World) (hI : IsS106 w0 w g s0_0 s0_1) (hB : Below w0.heap.size w0 w) (h : spec_l1Chance.f s0_0 s0_1 a1 = some (r1, r2)) :
  Calls Try.prog 67 #[.pointer (some ⟨g, 0, none⟩), .int .i64 a1] w fun e w' => e = .returned (.bool r1) ∧ IsS106 w0 w' g s0_0 r2 ∧ Below w0.heap.size w0 w' ∧ KeepBut w w' g none := by
 have HI0 := Aside0.mk hI
 have HK := Aside0.mk (KeepBut.refl w g none)
 have HL := Aside0.mk hB.size
 clear hI
 have HW0 := Aside0.mk hB.size
 have HB := Aside0.mk hB
 clear hB
 have H : ((spec_l1Next.f s0_0 s0_1 a1).bind fun bt302 => (some ((bt302.1 == 0), bt302.2))) = some (r1, r2) := h
 clear h
 obtain ⟨⟨t302, t303⟩, A3, H⟩ := bnd_ H
 try dsimp only at H
 simp only [Option.some.injEq, Prod.mk.injEq] at H
 obtain ⟨rfl, rfl⟩ := H
 go_enter Try.func67, Try.ntmps67
 go_wp2_with (first | (refine gl_ 66 (some 7) Try.func66 #[.pointer (some ⟨g, 0, none⟩), .int .i64 a1] ?_; (with_reducible refine (spec_l1Next.calls g s0_0 s0_1 a1 t302 t303 w0 _ ?side1 ?side2 A3.out).mono ?_); (case side1 => exact cI_ HI0.out); (case side2 => exact cB1_ (IsS106.ge HI0.out)); rintro e w4 ⟨rfl, hi, hb, hk⟩; refine ⟨_, rfl, ?_⟩; replace HK := Aside0.mk (KeepBut.trans b12_0 hk (.inl rfl)); replace HB := Aside0.mk (hb); replace HI0 := Aside0.mk (hi); (try clear hb); (try clear hb2); (try clear hk); (try clear hi)))
 go_ret
 exact ⟨ce_, cI_ HI0.out, cB1_ (IsS106.ge HI0.out), cK_ HK.out⟩

end Go.Proofs.Ythgmicingbjemaa.PFnJoins
