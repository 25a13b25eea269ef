-- Written by fprint, a program of this session, out of Lean's own print of the translation. Lean checks it.
import Derived.Test.YthgmicingbjemaaDense
import Derived.Test.YthgmicingbjemaaShort
import Derived.Test.YthgmicingbjemaaPFnJoinsx0
import Derived.Test.YthgmicingbjemaaPFnJoinsx1
import Derived.Test.YthgmicingbjemaaPFnJoinsx2
import Derived.Test.YthgmicingbjemaaPFnJoinsx4
import Derived.Test.YthgmicingbjemaaPFnJoinsx5
import Derived.Test.YthgmicingbjemaaPFnJoinsx10
namespace Go.Proofs.Ythgmicingbjemaa.PFnJoins
open Go.RowKit Go.Proofs.YthgmicingbjemaaW.PrintWords Go.Proofs.YthgmicingbjemaaW.PrintLast Go.Proofs.YthgmicingbjemaaW.PrintMore
attribute [local go_sem] max2_int min2_int max_two min_two max_three min_three max_four min_four
set_option linter.unusedVariables false
set_option maxHeartbeats 8000000
set_option maxRecDepth 100000
set_option linter.unusedSimpArgs false

theorem b11_0 {p : Prop} (h : p := by exact cO_ BK260.out) : p := h
theorem b11_1 {p : Prop} (h : p := by exact cB1_ GE260.out) : p := h
theorem b11_2 {p : Prop} (h : p := by exact cB3_ GE260.out GE278.out GE280.out) : p := h
theorem b11_3 {p : Prop} (h : p := by exact cO_ BK278.out) : p := h
theorem b11_5 {p : Prop} (h : p := by exact cB2_ GE260.out GE278.out) : p := h
theorem b11_6 {p : Prop} (h : p := by exact cV_ HO_1.out) : p := h
theorem b11_8 {p : Prop} (h : p := by exact cN_ HO_8.out) : p := h
theorem b11_9 {p : Prop} (h : p := by exact cV_ HO_62.out) : p := h
theorem b11_12 {p : Prop} (h : p := by (try simp only [List.map_toArray, List.map_cons, List.map_nil]); first | done | (rw [show (((rd_T42 l0 x64_2).f0).take (a2 : Int).toNat).length = a2.toNat from (by rw [List.length_take]; have h_ : (a2 : Int) ≤ (((rd_T42 l0 x64_2).f0).length : Int) := cd_; omega)] <;> rfl) | rfl | (simp only [List.length_drop, List.length_take]; rfl)) : p := h
theorem b11_14 {p : Prop} (h : p := by exact cV_ HL279_0.out) : p := h
theorem q11_0 {p : Prop} (h : p := by first | exact Kd.S_nil _ _ _ _ _ | exact Kd.N_nil _ _ _ _ _ | exact Kd.V_nil _ _ _ _ _ | exact Kd.Q_nil _ _ _ _ _ | exact Kd.R_nil _ _ _ _ _) : p := h
theorem q11_1 {p : Prop} (h : p := by have := HJ13.out; first | omega | exact Nat.le_refl _) : p := h
theorem q11_2 {p : Prop} (h : p := by have := HJ6.out; have := HK2.out; have := HK3.out; omega) : p := h
/-! ### impl_JoinSets: function 40 -/
/-- Two rows, one behind the other. -/
def cat2.f (l0 l1 : List Int) : Option (List Int) := if l0.length + l1.length < 17592186044416 then some (l0 ++ l1) else none
theorem cat2.ok {l0 l1 r : List Int} (h : cat2.f l0 l1 = some r) : l0.length + l1.length < 17592186044416 ∧ r = l0 ++ l1 := by
 unfold cat2.f at h
 by_cases c : l0.length + l1.length < 17592186044416
 ·rw [if_pos c] at h; exact ⟨c, (Option.some.inj h).symm⟩
 ·rw [if_neg c] at h; exact absurd h (by simp)
mutual
def impl_JoinSets.j1 : Nat → List (S42) → List (S42) → Int → Option (Int × (List (S42)))
 | 0, _, _, _ => none
 | k + 1, x0, x1, x2 => impl_JoinSets.l0 k x1 x2 (([] : List (S42))) x0 (x0.length : Int) 0
def impl_JoinSets.l0 : Nat → List (S42) → Int → List (S42) → List (S42) → Int → Int → Option (Int × (List (S42)))
 | 0, _, _, _, _, _, _ => none
 | k + 1, x1, x2, x8, x62, x63, x64 => if x64 < x63 then (if 0 ≤ x64 then (if x64 < (x62.length : Int) then (impl_JoinSets.l1 k x1 x2 x8 x62 x63 x64 x1 (x1.length : Int) 0 ((rd_T42 x62 x64).f0) ((rd_T42 x62 x64).f1)) else (none)) else (none)) else (if (x8.length : Int) > 800 then (some (2, ([] : List (S42)))) else ((impl_summed.f x8).bind fun bt273 => (some (bt273.2, bt273.1))))
def impl_JoinSets.l1 : Nat → List (S42) → Int → List (S42) → List (S42) → Int → Int → List (S42) → Int → Int → List Int → Int → Option (Int × (List (S42)))
 | 0, _, _, _, _, _, _, _, _, _, _, _ => none
 | k + 1, x1, x2, x8, x62, x63, x64, x68, x69, x70, x279000, x279001 => if x70 < x69 then (if 0 ≤ x70 then (if x70 < (x68.length : Int) then (if 0 ≤ x2 then (if x2 ≤ (x279000.length : Int) then (if x2 ≤ (((rd_T42 x68 x70).f0).length : Int) then ((slices_Equal_int64_int64.f k (x279000.take (x2 : Int).toNat) (((rd_T42 x68 x70).f0).take (x2 : Int).toNat)).bind fun t287 => (if t287 = true then ((impl_mulWeight.f k x279001 ((rd_T42 x68 x70).f1)).bind fun bt288 => (if bt288.2 = true then ((cat2.f x279000 (((rd_T42 x68 x70).f0).drop (x2 : Int).toNat)).bind fun t298 => (if x8.length < 4398046511104 then (impl_JoinSets.l1 k x1 x2 (x8 ++ [(⟨t298, bt288.1⟩ : S42)]) x62 x63 x64 x68 x69 (wrap64 (x70 + 1)) x279000 x279001) else (none))) else (some (8, ([] : List (S42)))))) else (impl_JoinSets.l1 k x1 x2 x8 x62 x63 x64 x68 x69 (wrap64 (x70 + 1)) x279000 x279001))) else (none)) else (none)) else (none)) else (none)) else (none)) else (impl_JoinSets.l0 k x1 x2 x8 x62 x63 (wrap64 (x64 + 1)))
def impl_JoinSets.j0 : Nat → List (S42) → List (S42) → Int → Bool → Option (Int × (List (S42)))
 | 0, _, _, _, _ => none
 | k + 1, x0, x1, x2, x29 => if x29 = true then (some (1, ([] : List (S42)))) else (if (x0.length : Int) > 0 then (if (x1.length : Int) > 0 then ((impl_longest.f k x0).bind fun t268 => ((impl_longest.f k x1).bind fun t269 => (if (wrap64 (t268 + t269)) > (wrap64 (4 + x2)) then (some (2, ([] : List (S42)))) else (impl_JoinSets.j1 k x0 x1 x2)))) else (impl_JoinSets.j1 k x0 x1 x2)) else (impl_JoinSets.j1 k x0 x1 x2))
end
def impl_JoinSets.f (k : Nat) (l0 : List (S42)) (l1 : List (S42)) (a2 : Int) : Option (Int × (List (S42))) := (impl_in.f a2 1 4).bind fun t261 => (if t261 = true then ((impl_setsFault.f k (([l0, l1] : List (List (S42))))).bind fun t265 => (if t265 = 0 then ((impl_areLong.f k l0 a2).bind fun t266 => (if t266 = true then ((impl_areLong.f k l1 a2).bind fun t267 => (impl_JoinSets.j0 k l0 l1 a2 (!t267))) else (impl_JoinSets.j0 k l0 l1 a2 true))) else (some (t265, ([] : List (S42)))))) else (some (3, ([] : List (S42)))))
theorem impl_JoinSets.mono_l : ∀ k, (∀ y0 y1 y2, LeO (impl_JoinSets.j1 k y0 y1 y2) (impl_JoinSets.j1 (k + 1) y0 y1 y2)) ∧ (∀ y0 y1 y2 y3 y4 y5, LeO (impl_JoinSets.l0 k y0 y1 y2 y3 y4 y5) (impl_JoinSets.l0 (k + 1) y0 y1 y2 y3 y4 y5)) ∧ (∀ y0 y1 y2 y3 y4 y5 y6 y7 y8 y9 y10, LeO (impl_JoinSets.l1 k y0 y1 y2 y3 y4 y5 y6 y7 y8 y9 y10) (impl_JoinSets.l1 (k + 1) y0 y1 y2 y3 y4 y5 y6 y7 y8 y9 y10)) ∧ (∀ y0 y1 y2 y3, LeO (impl_JoinSets.j0 k y0 y1 y2 y3) (impl_JoinSets.j0 (k + 1) y0 y1 y2 y3))
 | 0 => ⟨fun _ _ _ r h => by simp [impl_JoinSets.j1] at h, fun _ _ _ _ _ _ r h => by simp [impl_JoinSets.l0] at h, fun _ _ _ _ _ _ _ _ _ _ _ r h => by simp [impl_JoinSets.l1] at h, fun _ _ _ _ r h => by simp [impl_JoinSets.j0] at h⟩
 | k + 1 => by
  obtain ⟨ih0, ih1, ih2, ih3⟩ := impl_JoinSets.mono_l k
  refine ⟨?_, ?_, ?_, ?_⟩
  ·intro y0 y1 y2
   unfold impl_JoinSets.j1
   repeat' first
   | (with_reducible exact ih0 _ _ _)
   | (with_reducible exact ih1 _ _ _ _ _ _)
   | (with_reducible exact ih2 _ _ _ _ _ _ _ _ _ _ _)
   | (with_reducible exact ih3 _ _ _ _)
   | (with_reducible exact impl_areLong.mono _ _ _)
   | (with_reducible exact impl_longest.mono _ _)
   | (with_reducible exact impl_mulWeight.mono _ _ _)
   | (with_reducible exact impl_setsFault.mono _ _)
   | (with_reducible exact slices_Equal_int64_int64.mono _ _ _)
   | (with_reducible exact LeO.refl _)
   | (with_reducible exact LeO.none _)
   | (with_reducible refine LeO.ite ?_ ?_)
   | (with_reducible refine LeO.bind ?_ (fun _ => ?_))
   | refine LeO.ite ?_ ?_
   | refine LeO.bind ?_ (fun _ => ?_)
  ·intro y0 y1 y2 y3 y4 y5
   unfold impl_JoinSets.l0
   repeat' first
   | (with_reducible exact ih0 _ _ _)
   | (with_reducible exact ih1 _ _ _ _ _ _)
   | (with_reducible exact ih2 _ _ _ _ _ _ _ _ _ _ _)
   | (with_reducible exact ih3 _ _ _ _)
   | (with_reducible exact impl_areLong.mono _ _ _)
   | (with_reducible exact impl_longest.mono _ _)
   | (with_reducible exact impl_mulWeight.mono _ _ _)
   | (with_reducible exact impl_setsFault.mono _ _)
   | (with_reducible exact slices_Equal_int64_int64.mono _ _ _)
   | (with_reducible exact LeO.refl _)
   | (with_reducible exact LeO.none _)
   | (with_reducible refine LeO.ite ?_ ?_)
   | (with_reducible refine LeO.bind ?_ (fun _ => ?_))
   | refine LeO.ite ?_ ?_
   | refine LeO.bind ?_ (fun _ => ?_)
  ·intro y0 y1 y2 y3 y4 y5 y6 y7 y8 y9 y10
   unfold impl_JoinSets.l1
   repeat' first
   | (with_reducible exact ih0 _ _ _)
   | (with_reducible exact ih1 _ _ _ _ _ _)
   | (with_reducible exact ih2 _ _ _ _ _ _ _ _ _ _ _)
   | (with_reducible exact ih3 _ _ _ _)
   | (with_reducible exact impl_areLong.mono _ _ _)
   | (with_reducible exact impl_longest.mono _ _)
   | (with_reducible exact impl_mulWeight.mono _ _ _)
   | (with_reducible exact impl_setsFault.mono _ _)
   | (with_reducible exact slices_Equal_int64_int64.mono _ _ _)
   | (with_reducible exact LeO.refl _)
   | (with_reducible exact LeO.none _)
   | (with_reducible refine LeO.ite ?_ ?_)
   | (with_reducible refine LeO.bind ?_ (fun _ => ?_))
   | refine LeO.ite ?_ ?_
   | refine LeO.bind ?_ (fun _ => ?_)
  ·intro y0 y1 y2 y3
   unfold impl_JoinSets.j0
   repeat' first
   | (with_reducible exact ih0 _ _ _)
   | (with_reducible exact ih1 _ _ _ _ _ _)
   | (with_reducible exact ih2 _ _ _ _ _ _ _ _ _ _ _)
   | (with_reducible exact ih3 _ _ _ _)
   | (with_reducible exact impl_areLong.mono _ _ _)
   | (with_reducible exact impl_longest.mono _ _)
   | (with_reducible exact impl_mulWeight.mono _ _ _)
   | (with_reducible exact impl_setsFault.mono _ _)
   | (with_reducible exact slices_Equal_int64_int64.mono _ _ _)
   | (with_reducible exact LeO.refl _)
   | (with_reducible exact LeO.none _)
   | (with_reducible refine LeO.ite ?_ ?_)
   | (with_reducible refine LeO.bind ?_ (fun _ => ?_))
   | refine LeO.ite ?_ ?_
   | refine LeO.bind ?_ (fun _ => ?_)
theorem impl_JoinSets.mono : ∀ a0 a1 a2 k, LeO (impl_JoinSets.f k a0 a1 a2) (impl_JoinSets.f (k + 1) a0 a1 a2) := by
 intro a0 a1 a2 k
 obtain ⟨ih0, ih1, ih2, ih3⟩ := impl_JoinSets.mono_l k
 unfold impl_JoinSets.f
 repeat' first
   | (with_reducible exact ih0 _ _ _)
   | (with_reducible exact ih1 _ _ _ _ _ _)
   | (with_reducible exact ih2 _ _ _ _ _ _ _ _ _ _ _)
   | (with_reducible exact ih3 _ _ _ _)
   | (with_reducible exact impl_areLong.mono _ _ _)
   | (with_reducible exact impl_longest.mono _ _)
   | (with_reducible exact impl_mulWeight.mono _ _ _)
   | (with_reducible exact impl_setsFault.mono _ _)
   | (with_reducible exact slices_Equal_int64_int64.mono _ _ _)
   | (with_reducible exact LeO.refl _)
   | (with_reducible exact LeO.none _)
   | (with_reducible refine LeO.ite ?_ ?_)
   | (with_reducible refine LeO.bind ?_ (fun _ => ?_))
   | refine LeO.ite ?_ ?_
   | refine LeO.bind ?_ (fun _ => ?_)
def impl_JoinSets.T17 : Bool × List (List Nat × List Nat) := (true, [([], []), ([0], [0]), ([], []), ([1, 2], [1, 2]), ([], []), ([4], [4]), ([], []), ([5, 6], [5, 6]), ([3, 7], [3, 7]), ([8], [8])])
def impl_JoinSets.B17 : List Nat := [0, 1, 0, 7, 0, 16, 0, 112, 255, 511]
theorem impl_JoinSets.tab17 : rtab .any (opsOf Try.f40 17) = impl_JoinSets.T17 := by kernel_rfl
theorem impl_JoinSets.bits17 : waitsOk impl_JoinSets.T17.2 impl_JoinSets.B17 = true := by kernel_rfl
def impl_JoinSets.T21 : Bool × List (List Nat × List Nat) := (true, [([], []), ([], []), ([1], [1]), ([], []), ([3], [3]), ([], []), ([4, 5], [4, 5]), ([2, 6], [2, 6]), ([7], [7]), ([], []), ([8, 9], [8, 9]), ([10], [10]), ([0, 11, 8], [0, 11]), ([12, 12, 0, 1, 2, 3, 4, 5, 6, 7, 8, 9, 10, 11, 12], [0, 12])])
def impl_JoinSets.B21 : List Nat := [0, 0, 2, 0, 8, 0, 56, 126, 254, 0, 1022, 2046, 4095, 8191]
theorem impl_JoinSets.tab21 : rtab .any (opsOf Try.f40 21) = impl_JoinSets.T21 := by kernel_rfl
theorem impl_JoinSets.bits21 : waitsOk impl_JoinSets.T21.2 impl_JoinSets.B21 = true := by kernel_rfl
theorem impl_JoinSets.calls (k : Nat) (A0 : Option Addr) (c0 : Nat) (l0 : List (S42)) (A1 : Option Addr) (c1 : Nat) (l1 : List (S42)) (a2 : Int) (r1 : Int) (r2 : List (S42)) (w : World) (hr0 : Kd.C k42 w A0 l0.length l0) (hc0 : l0.length ≤ c0) (hr1 : Kd.C k42 w A1 l1.length l1) (hc1 : l1.length ≤ c1) (h : impl_JoinSets.f k l0 l1 a2 = some (r1, r2)) :
  Calls Try.prog 40 #[.slice A0 l0.length c0, .slice A1 l1.length c1, .int .i64 a2] w fun e w' => ∃ v1_ : Value, e = .returned (.agg #[.int .i64 r1, v1_]) ∧ Kd.S k42 42 w' w.heap.size (fun _ => True) v1_ r2 ∧ Below w.heap.size w w' := by
 have huR_ := Try.underlying26
 have huE_ := Try.underlying42
 have HP0_ := Aside0.mk hr0
 have HO0 := Aside0.mk (show Kd.V k42 42 w w.heap.size (fun k_ => ((k_ < w.heap.size ∨ k_ < w.heap.size) ∨ w.heap.size ≤ k_)) (.slice A0 l0.length c0) l0 from Kd.V_mk hc0 (Kd.F_mono (Kd.C_F (show Kd.Heap k42 from Kd.heap_iso _ (Kd.heap_pair (Kd.heap_slice 2 (Kd.heap_int .i64)) (Kd.heap_int .i64))) hr0) (fun k_ hk => .inl (.inl hk))))
 have HO1 := Aside0.mk (show Kd.V k42 42 w w.heap.size (fun k_ => ((k_ < w.heap.size ∨ k_ < w.heap.size) ∨ w.heap.size ≤ k_)) (.slice A1 l1.length c1) l1 from Kd.V_mk hc1 (Kd.F_mono (Kd.C_F (show Kd.Heap k42 from Kd.heap_iso _ (Kd.heap_pair (Kd.heap_slice 2 (Kd.heap_int .i64)) (Kd.heap_int .i64))) hr1) (fun k_ hk => .inl (.inr hk))))
 have HB := Aside0.mk (Below.refl w.heap.size w)
 have H : ((impl_in.f a2 1 4).bind fun t261 => (if t261 = true then ((impl_setsFault.f k (([l0, l1] : List (List (S42))))).bind fun t265 => (if t265 = 0 then ((impl_areLong.f k l0 a2).bind fun t266 => (if t266 = true then ((impl_areLong.f k l1 a2).bind fun t267 => (impl_JoinSets.j0 k l0 l1 a2 (!t267))) else (impl_JoinSets.j0 k l0 l1 a2 true))) else (some (t265, ([] : List (S42)))))) else (some (3, ([] : List (S42)))))) = some (r1, r2) := h
 clear h
 obtain ⟨t261, A4, H⟩ := bnd_ H
 try dsimp only at H
 by_cases c5 : t261 = true
 rotate_left
 ·replace c5 := Bool.eq_false_iff.mpr c5
  subst c5
  rw [if_neg (show ¬ (false = true) by decide)] at H
  simp only [Option.some.injEq, Prod.mk.injEq] at H
  obtain ⟨rfl, rfl⟩ := H
  go_enter Try.func40, Try.ntmps40
  go_wp2_with (first | ((with_reducible refine gate_dst (N := 6) rfl ?_); (try (refine gate_guard (by rfl) ?_; dsimp only)); refine box_event ?hg (N := 6) ?hd (cs := #[.int .i64 0, .slice none 0 0]) (t := 26) ?hr ?_; (case hd => rfl); (case hg => rfl); (case hr => first | (go_simp; done) | (go_simp; rfl)); intro gb260 hg w105 hbox hb; replace HO0 := Aside0.mk (Kd.V_below (Kd.V_elderB (cV_ HO0.out) gb260 (Nat.le_of_eq hg.symm)) hb); replace HO1 := Aside0.mk (Kd.V_below (Kd.V_elderB (cV_ HO1.out) gb260 (Nat.le_of_eq hg.symm)) hb); have BK260 := Aside0.mk (hbox); have GW260 := Aside0.mk ((by rw [hg]; exact (below_size cB0_) : w.heap.size ≤ gb260)); have GE260 := Aside0.mk ((by rw [hg]; exact (below_size cB0_) : w.heap.size ≤ gb260)); replace HB := Aside0.mk (below_step cB0_ hb); clear hb hbox hg) | (refine gl_ 59 (some 17) Try.func59 #[.int .i64 a2, .int .i64 1, .int .i64 4] ?_; (with_reducible refine (impl_in.calls a2 1 4 false _ A4.out).mono ?_); rintro e w' ⟨rfl, ⟨nd, rfl⟩⟩; refine ⟨_, rfl, ?_⟩; (try simp only [World.drewN_drewN]); (try (rw [drewN_self w105]; generalize hq_ : World.drewN w105 _ = w105; have n0_ : Aside0 (Kd.V k42 42 w105 w.heap.size (fun k_ => ((k_ < w.heap.size ∨ k_ < w.heap.size) ∨ w.heap.size ≤ k_) ∧ k_ ≠ gb260) (.slice A0 l0.length c0) l0) := ⟨by rw [← hq_]; exact (cV_ HO0.out)⟩; have n1_ : Aside0 (Kd.V k42 42 w105 w.heap.size (fun k_ => ((k_ < w.heap.size ∨ k_ < w.heap.size) ∨ w.heap.size ≤ k_) ∧ k_ ≠ gb260) (.slice A1 l1.length c1) l1) := ⟨by rw [← hq_]; exact (cV_ HO1.out)⟩; have n2_ : Aside0 (w105.heap[gb260]? = some (.cells #[.int .i64 0, .slice none 0 0] 26 (0, 0))) := ⟨by rw [← hq_]; exact b11_0⟩; have n3_ : Aside0 (Below w.heap.size w w105) := ⟨by rw [← hq_]; exact b11_1⟩; clear HO0 HO1 BK260 HB hq_; have HO0 := n0_; have HO1 := n1_; have BK260 := n2_; have HB := n3_; clear n0_ n1_ n2_ n3_)); obtain ⟨hcz106_0, hcz106_1, hfz106_0, hfz106_1⟩ := cells2 BK260.out))
  refine bodyPost_ret (results_cell_row rfl _ _ gb260 26 #[.int .i64 3, .slice none 0 0] (0, 0) _ rfl (by refine cO_ ?_; refine blk_put (cs := #[.int .i64 3, .slice none 0 0]) ?_ 1 _ rfl; refine cO_ ?_; refine blk_put (cs := #[.int .i64 0, .slice none 0 0]) ?_ 0 _ rfl; refine cO_ ?_; exact BK260.out) Try.underlying26 rfl (by kernel_rfl)) rfl ?_
  exact ⟨_, ce_, q11_0, cB1_ GE260.out⟩
 subst c5
 rw [if_pos rfl] at H
 obtain ⟨y262, hy_⟩ : ∃ y_ : List (List (S42)), y_ = (([l0, l1] : List (List (S42)))) := ⟨_, rfl⟩
 replace H : ((impl_setsFault.f k y262).bind fun t265 => (if t265 = 0 then ((impl_areLong.f k l0 a2).bind fun t266 => (if t266 = true then ((impl_areLong.f k l1 a2).bind fun t267 => (impl_JoinSets.j0 k l0 l1 a2 (!t267))) else (impl_JoinSets.j0 k l0 l1 a2 true))) else (some (t265, ([] : List (S42)))))) = some (r1, r2) := yb_
 have Ny262 := Aside0.mk hy_
 clear hy_
 obtain ⟨t265, A6, H⟩ := bnd_ H
 try dsimp only at H
 have HC7 := Aside0.mk H
 clear H
 go_enter Try.func40, Try.ntmps40
 go_upto_block 0 with (first | ((with_reducible refine gate_dst (N := 6) rfl ?_); (try (refine gate_guard (by rfl) ?_; dsimp only)); refine box_event ?hg (N := 6) ?hd (cs := #[.int .i64 0, .slice none 0 0]) (t := 26) ?hr ?_; (case hd => rfl); (case hg => rfl); (case hr => first | (go_simp; done) | (go_simp; rfl)); intro gb260 hg w8 hbox hb; replace HO0 := Aside0.mk (Kd.V_below (Kd.V_elderB (cV_ HO0.out) gb260 (Nat.le_of_eq hg.symm)) hb); replace HO1 := Aside0.mk (Kd.V_below (Kd.V_elderB (cV_ HO1.out) gb260 (Nat.le_of_eq hg.symm)) hb); have BK260 := Aside0.mk (hbox); have GW260 := Aside0.mk ((by rw [hg]; exact (below_size cB0_) : w.heap.size ≤ gb260)); have GE260 := Aside0.mk ((by rw [hg]; exact (below_size cB0_) : w.heap.size ≤ gb260)); replace HB := Aside0.mk (below_step cB0_ hb); clear hb hbox hg) | (refine gl_ 59 (some 17) Try.func59 #[.int .i64 a2, .int .i64 1, .int .i64 4] ?_; (with_reducible refine (impl_in.calls a2 1 4 true _ A4.out).mono ?_); rintro e w' ⟨rfl, ⟨nd, rfl⟩⟩; refine ⟨_, rfl, ?_⟩) | ((with_reducible refine gate_dst (N := 22) rfl ?_); (try (refine gate_guard (by rfl) ?_; dsimp only)); refine Kd.N_lit (Kd.slice 42 k42) _ 24 ?hg (N' := 22) ?hd (xs := ([l0, l1] : List (List (S42)))) (inner := [.slice A0 l0.length c0, .slice A1 l1.length c1]) (ok := (fun k_ => ((k_ < w.heap.size ∨ k_ < w.heap.size) ∨ w.heap.size ≤ k_) ∧ k_ ≠ gb260)) (okp := (fun k_ => ((k_ < w.heap.size ∨ k_ < w.heap.size) ∨ w.heap.size ≤ k_) ∧ k_ ≠ gb260)) ?hr ?hp (fun _ hk => hk) ((show ∀ k_, w8.heap.size ≤ k_ → (fun k_ => ((k_ < w.heap.size ∨ k_ < w.heap.size) ∨ w.heap.size ≤ k_) ∧ k_ ≠ gb260) k_ from fun k_ hk => ⟨(.inr (Nat.le_trans (below_size b11_1) hk)), Kd.freshB (g := gb260) (o := .cells #[.int .i64 0, .slice none 0 0] 26 (0, 0)) b11_0 k_ hk⟩) _ (Nat.le_refl _)) (Below.refl _ _) (Nat.le_refl _) (by simp) ?_; (case hd => rfl); (case hg => rfl); (case hr => first | (go_simp; done) | (go_simp; rfl)); (case hp => exact (by exact (Reps.one (show Kd.FK (Kd.slice 42 k42) _ _ l0 [.slice A0 l0.length c0] from (Kd.FK_slice_mk (Kd.V_reads' (Kd.V_mono (ok' := (fun k_ => ((k_ < w.heap.size ∨ k_ < w.heap.size) ∨ w.heap.size ≤ k_) ∧ k_ ≠ gb260)) (HO0.out) (fun k_ hk => ⟨hk.1, hk.2⟩))).2.1 (Kd.V_F (by refine cV_ ?_; exact Kd.V_mono (ok' := (fun k_ => ((k_ < w.heap.size ∨ k_ < w.heap.size) ∨ w.heap.size ≤ k_) ∧ k_ ≠ gb260)) (HO0.out) (fun k_ hk => ⟨hk.1, hk.2⟩))))) (Reps.one (show Kd.FK (Kd.slice 42 k42) _ _ l1 [.slice A1 l1.length c1] from (Kd.FK_slice_mk (Kd.V_reads' (Kd.V_mono (ok' := (fun k_ => ((k_ < w.heap.size ∨ k_ < w.heap.size) ∨ w.heap.size ≤ k_) ∧ k_ ≠ gb260)) (HO1.out) (fun k_ hk => ⟨hk.1, hk.2⟩))).2.1 (Kd.V_F (by refine cV_ ?_; exact Kd.V_mono (ok' := (fun k_ => ((k_ < w.heap.size ∨ k_ < w.heap.size) ∨ w.heap.size ≤ k_) ∧ k_ ≠ gb260)) (HO1.out) (fun k_ hk => ⟨hk.1, hk.2⟩))))) (Reps.none _ _))))); intro v263 w9 ho10 hb hg_ hnew_; clear hg_ hnew_; (first | rw [← Ny262.out] at ho10 | (simp only [Int.reduceToNat] at ho10; rw [← Ny262.out] at ho10)); replace HO0 := Aside0.mk (Kd.V_elder' (cV_ HO0.out) (Kd.N_base ho10) hb); replace HO1 := Aside0.mk (Kd.V_elder' (cV_ HO1.out) (Kd.N_base ho10) hb); have HO264 := Aside0.mk (Kd.N_lower ho10 (below_size b11_1)); replace BK260 := Aside0.mk (blk_below (g := gb260) (o := .cells #[.int .i64 0, .slice none 0 0] 26 (0, 0)) b11_0 hb); replace HB := Aside0.mk (below_step b11_1 hb); clear hb ho10; obtain ⟨Ao11, co11, eo11⟩ := Kd.N_slice HO264.out; subst eo11) | (refine gl_ 79 (some 23) Try.func79 #[.slice Ao11 y262.length co11] ?_; (with_reducible refine (impl_setsFault.calls k _ _ y262 t265 _ ?side1 ?side2 A6.out).mono ?_); (case side1 => exact cC_ ((Kd.N_reads' HO264.out).2.2)); (case side2 => exact (Kd.N_reads' HO264.out).2.1); rintro e w12 ⟨rfl, hb⟩; refine ⟨_, rfl, ?_⟩; replace HO0 := Aside0.mk (Kd.V_below (cV_ HO0.out) hb); replace HO1 := Aside0.mk (Kd.V_below (cV_ HO1.out) hb); replace HO264 := Aside0.mk (Kd.N_below (cN_ HO264.out) hb); replace BK260 := Aside0.mk (blk_below (g := gb260) (o := .cells #[.int .i64 0, .slice none 0 0] 26 (0, 0)) b11_0 hb); replace HB := Aside0.mk (below_step b11_1 hb); (try clear hb); (try clear hb2); (try clear hk); (try clear hi)))
 (try simp only [Act.put, List.setIfInBounds_toArray, List.set_cons_zero, List.set_cons_succ])
 go_cut [] (fun wc => ∃ (kq : Nat) (x261000_6 : Int), Aside0 (impl_JoinSets.j1 kq l0 l1 a2 = some (r1, r2)) ∧ Aside0 (kq ≤ k) ∧ Aside0 (Kd.V k42 42 wc w.heap.size (fun k_ => ((k_ < w.heap.size ∨ k_ < w.heap.size) ∨ w.heap.size ≤ k_) ∧ k_ ≠ gb260) (.slice A0 l0.length c0) l0) ∧ Aside0 (Kd.V k42 42 wc w.heap.size (fun k_ => ((k_ < w.heap.size ∨ k_ < w.heap.size) ∨ w.heap.size ≤ k_) ∧ k_ ≠ gb260) (.slice A1 l1.length c1) l1) ∧ Aside0 (wc.heap[gb260]? = some (.cells #[.int .i64 x261000_6, (.slice none 0 0)] 26 (0, 0))) ∧ Aside0 (Below w.heap.size w wc))
 case first =>
  have H := HC7.out
  clear HC7
  by_cases c13 : t265 = 0
  rotate_left
  ·rw [if_neg c13] at H
   have c13b0 : (t265 == 0) = false := beq_eq_false_iff_ne.mpr c13
   have c13b1 : (t265 != 0) = true := bne_iff_ne.mpr c13
   (first | rw [c13b0] | (simp only [i64_w, i32_w]; rw [c13b0]) | skip)
   simp only [Option.some.injEq, Prod.mk.injEq] at H
   obtain ⟨rfl, rfl⟩ := H
   obtain ⟨hcz33_0, hcz33_1, hfz33_0, hfz33_1⟩ := cells2 BK260.out
   go_wp2
   refine bodyPost_ret (results_cell_row rfl _ _ gb260 26 #[.int .i64 t265, .slice none 0 0] (0, 0) _ rfl (by refine cO_ ?_; refine blk_put (cs := #[.int .i64 t265, .slice none 0 0]) ?_ 1 _ rfl; refine cO_ ?_; refine blk_put (cs := #[.int .i64 0, .slice none 0 0]) ?_ 0 _ rfl; refine cO_ ?_; exact BK260.out) Try.underlying26 rfl (by kernel_rfl)) rfl ?_
   exact ⟨_, ce_, q11_0, cB1_ GE260.out⟩
  rw [if_pos c13] at H
  have c13b0 : (t265 == 0) = true := beq_iff_eq.mpr c13
  have c13b1 : (t265 != 0) = false := bne_eq_false_iff_eq.mpr c13
  clear c13
  (first | rw [c13b0] | (simp only [i64_w, i32_w]; rw [c13b0]) | skip)
  have HC14 := Aside0.mk H
  clear H
  go_upto_region 6 with (fail)
  go_cut [29] (fun v29 wc => ∃ (kq : Nat) (x29_13 : Bool), v29 = .bool x29_13 ∧ Aside0 (impl_JoinSets.j0 kq l0 l1 a2 x29_13 = some (r1, r2)) ∧ Aside0 (kq ≤ k) ∧ Aside0 (Kd.V k42 42 wc w.heap.size (fun k_ => ((k_ < w.heap.size ∨ k_ < w.heap.size) ∨ w.heap.size ≤ k_) ∧ k_ ≠ gb260) (.slice A0 l0.length c0) l0) ∧ Aside0 (Kd.V k42 42 wc w.heap.size (fun k_ => ((k_ < w.heap.size ∨ k_ < w.heap.size) ∨ w.heap.size ≤ k_) ∧ k_ ≠ gb260) (.slice A1 l1.length c1) l1) ∧ Aside0 (wc.heap[gb260]? = some (.cells #[.int .i64 0, (.slice none 0 0)] 26 (0, 0))) ∧ Aside0 (Below w.heap.size w wc))
  case first =>
   have H := HC14.out
   clear HC14
   obtain ⟨t266, A15, H⟩ := bnd_ H
   try dsimp only at H
   by_cases c16 : t266 = true
   ·subst c16
    rw [if_pos rfl] at H
    obtain ⟨t267, A17, H⟩ := bnd_ H
    try dsimp only at H
    have H' := Aside0.mk H
    clear H
    go_wp2_with (first | (refine gl_ 60 (some 32) Try.func60 #[.slice A0 l0.length c0, .int .i64 a2] ?_; (with_reducible refine (impl_areLong.calls k _ _ l0 a2 true _ ?side1 ?side2 A15.out).mono ?_); (case side1 => exact cC_ ((Kd.V_reads' HO0.out).2.2)); (case side2 => exact (Kd.V_reads' HO0.out).2.1); rintro e w18 ⟨rfl, hb⟩; refine ⟨_, rfl, ?_⟩; replace HO0 := Aside0.mk (Kd.V_below (cV_ HO0.out) hb); replace HO1 := Aside0.mk (Kd.V_below (cV_ HO1.out) hb); replace HO264 := Aside0.mk (Kd.N_below (cN_ HO264.out) hb); replace BK260 := Aside0.mk (blk_below (g := gb260) (o := .cells #[.int .i64 0, .slice none 0 0] 26 (0, 0)) b11_0 hb); replace HB := Aside0.mk (below_step b11_1 hb); (try clear hb); (try clear hb2); (try clear hk); (try clear hi)) | (go_at_call 60; (with_reducible refine (impl_areLong.calls k _ _ l1 a2 t267 _ ?side1 ?side2 A17.out).mono ?_); (case side1 => exact cC_ ((Kd.V_reads' HO1.out).2.2)); (case side2 => exact (Kd.V_reads' HO1.out).2.1); rintro e w19 ⟨rfl, hb⟩; replace HO0 := Aside0.mk (Kd.V_below (cV_ HO0.out) hb); replace HO1 := Aside0.mk (Kd.V_below (cV_ HO1.out) hb); replace HO264 := Aside0.mk (Kd.N_below (cN_ HO264.out) hb); replace BK260 := Aside0.mk (blk_below (g := gb260) (o := .cells #[.int .i64 0, .slice none 0 0] 26 (0, 0)) b11_0 hb); replace HB := Aside0.mk (below_step b11_1 hb); (try clear hb); (try clear hb2); (try clear hk); (try clear hi)))
    go_meet
    case rel => exact ⟨_, (!t267), cs_, H', ⟨cm_⟩, ⟨by refine cV_ ?_; exact Kd.V_mono HO0.out (fun _ hk => ⟨hk.1.1, hk.1.2⟩)⟩, ⟨by refine cV_ ?_; exact Kd.V_mono HO1.out (fun _ hk => ⟨hk.1.1, hk.1.2⟩)⟩, ⟨cO_ BK260.out⟩, ⟨cB1_ GE260.out⟩⟩
   replace c16 := Bool.eq_false_iff.mpr c16
   subst c16
   rw [if_neg (show ¬ (false = true) by decide)] at H
   have H' := Aside0.mk H
   clear H
   go_wp2_with (first | (refine gl_ 60 (some 32) Try.func60 #[.slice A0 l0.length c0, .int .i64 a2] ?_; (with_reducible refine (impl_areLong.calls k _ _ l0 a2 false _ ?side1 ?side2 A15.out).mono ?_); (case side1 => exact cC_ ((Kd.V_reads' HO0.out).2.2)); (case side2 => exact (Kd.V_reads' HO0.out).2.1); rintro e w20 ⟨rfl, hb⟩; refine ⟨_, rfl, ?_⟩; replace HO0 := Aside0.mk (Kd.V_below (cV_ HO0.out) hb); replace HO1 := Aside0.mk (Kd.V_below (cV_ HO1.out) hb); replace HO264 := Aside0.mk (Kd.N_below (cN_ HO264.out) hb); replace BK260 := Aside0.mk (blk_below (g := gb260) (o := .cells #[.int .i64 0, .slice none 0 0] 26 (0, 0)) b11_0 hb); replace HB := Aside0.mk (below_step b11_1 hb); (try clear hb); (try clear hb2); (try clear hk); (try clear hi)))
   go_meet
   case rel => exact ⟨_, (true), cs_, H', ⟨cm_⟩, ⟨by refine cV_ ?_; exact Kd.V_mono HO0.out (fun _ hk => ⟨hk.1.1, hk.1.2⟩)⟩, ⟨by refine cV_ ?_; exact Kd.V_mono HO1.out (fun _ hk => ⟨hk.1.1, hk.1.2⟩)⟩, ⟨cO_ BK260.out⟩, ⟨cB1_ GE260.out⟩⟩
  case rest =>
   clear HC14
   try clear c1
   try clear p2
   try clear c4
   try clear c5
   try clear c6
   try clear c7
   try clear c13
   try clear c13b0
   try clear c13b1
   try clear c16
   obtain ⟨kq, x29_13, rfl, HA, HJ13, HO_0, HO_1, BK260, HB⟩ := hcut
   cases kq with
   | zero => exact absurd HA.out (by simp [impl_JoinSets.j0])
   | succ kj13 =>
    have H := HA.out
    clear HA
    simp only [impl_JoinSets.j0] at H
    by_cases c21 : x29_13 = true
    ·subst c21
     rw [if_pos rfl] at H
     simp only [Option.some.injEq, Prod.mk.injEq] at H
     obtain ⟨rfl, rfl⟩ := H
     obtain ⟨hcz22_0, hcz22_1, hfz22_0, hfz22_1⟩ := cells2 BK260.out
     go_wp2
     refine bodyPost_ret (results_cell_row rfl _ _ gb260 26 #[.int .i64 1, .slice none 0 0] (0, 0) _ rfl (by refine cO_ ?_; refine blk_put (cs := #[.int .i64 1, .slice none 0 0]) ?_ 1 _ rfl; refine cO_ ?_; refine blk_put (cs := #[.int .i64 0, .slice none 0 0]) ?_ 0 _ rfl; refine cO_ ?_; exact BK260.out) Try.underlying26 rfl (by kernel_rfl)) rfl ?_
     exact ⟨_, ce_, q11_0, cB1_ GE260.out⟩
    replace c21 := Bool.eq_false_iff.mpr c21
    subst c21
    rw [if_neg (show ¬ (false = true) by decide)] at H
    by_cases c23 : (l0.length : Int) > 0
    rotate_left
    ·rw [if_neg c23] at H
     have c23b0 : decide (0 < (l0.length : Int)) = false := decide_eq_false c23
     have c23b1 : decide (0 < l0.length) = false := decide_eq_false (by omega)
     clear c23
     have H' := Aside0.mk H
     clear H
     go_wp2
     go_meet
     case rel => exact ⟨_, (0), H', ⟨q11_1⟩, ⟨cV_ HO_0.out⟩, ⟨cV_ HO_1.out⟩, ⟨cO_ BK260.out⟩, ⟨cB1_ GE260.out⟩⟩
    rw [if_pos c23] at H
    have c23b0 : decide (0 < (l0.length : Int)) = true := decide_eq_true c23
    have c23b1 : decide (0 < l0.length) = true := decide_eq_true (by omega)
    clear c23
    by_cases c24 : (l1.length : Int) > 0
    rotate_left
    ·rw [if_neg c24] at H
     have c24b0 : decide (0 < (l1.length : Int)) = false := decide_eq_false c24
     have c24b1 : decide (0 < l1.length) = false := decide_eq_false (by omega)
     clear c24
     have H' := Aside0.mk H
     clear H
     go_wp2
     go_meet
     case rel => exact ⟨_, (0), H', ⟨q11_1⟩, ⟨cV_ HO_0.out⟩, ⟨cV_ HO_1.out⟩, ⟨cO_ BK260.out⟩, ⟨cB1_ GE260.out⟩⟩
    rw [if_pos c24] at H
    have c24b0 : decide (0 < (l1.length : Int)) = true := decide_eq_true c24
    have c24b1 : decide (0 < l1.length) = true := decide_eq_true (by omega)
    clear c24
    obtain ⟨t268, A25, H⟩ := bnd_ H
    try dsimp only at H
    obtain ⟨t269, A26, H⟩ := bnd_ H
    try dsimp only at H
    by_cases c27 : (wrap64 (t268 + t269)) > (wrap64 (4 + a2))
    ·rw [if_pos c27] at H
     have c27b0 : decide ((wrap64 (4 + a2)) < (wrap64 (t268 + t269))) = true := decide_eq_true c27
     clear c27
     simp only [Option.some.injEq, Prod.mk.injEq] at H
     obtain ⟨rfl, rfl⟩ := H
     go_wp2_with (first | (go_at_call 85; (with_reducible refine (impl_longest.calls kj13 _ _ l0 t268 _ ?side1 ?side2 A25.out).mono ?_); (case side1 => exact cC_ ((Kd.V_reads' HO_0.out).2.2)); (case side2 => exact (Kd.V_reads' HO_0.out).2.1); rintro e w28 ⟨rfl, hb⟩; replace HO_0 := Aside0.mk (Kd.V_below (cV_ HO_0.out) hb); replace HO_1 := Aside0.mk (Kd.V_below b11_6 hb); replace BK260 := Aside0.mk (blk_below (g := gb260) (o := .cells #[.int .i64 0, .slice none 0 0] 26 (0, 0)) b11_0 hb); replace HB := Aside0.mk (below_step b11_1 hb); (try clear hb); (try clear hb2); (try clear hk); (try clear hi)) | (go_at_call 85; (with_reducible refine (impl_longest.calls kj13 _ _ l1 t269 _ ?side1 ?side2 A26.out).mono ?_); (case side1 => exact cC_ ((Kd.V_reads' HO_1.out).2.2)); (case side2 => exact (Kd.V_reads' HO_1.out).2.1); rintro e w29 ⟨rfl, hb⟩; replace HO_0 := Aside0.mk (Kd.V_below (cV_ HO_0.out) hb); replace HO_1 := Aside0.mk (Kd.V_below b11_6 hb); replace BK260 := Aside0.mk (blk_below (g := gb260) (o := .cells #[.int .i64 0, .slice none 0 0] 26 (0, 0)) b11_0 hb); replace HB := Aside0.mk (below_step b11_1 hb); (try clear hb); (try clear hb2); (try clear hk); (try clear hi); obtain ⟨hcz30_0, hcz30_1, hfz30_0, hfz30_1⟩ := cells2 BK260.out))
     refine bodyPost_ret (results_cell_row rfl _ _ gb260 26 #[.int .i64 2, .slice none 0 0] (0, 0) _ rfl (by refine cO_ ?_; refine blk_put (cs := #[.int .i64 2, .slice none 0 0]) ?_ 1 _ rfl; refine cO_ ?_; refine blk_put (cs := #[.int .i64 0, .slice none 0 0]) ?_ 0 _ rfl; refine cO_ ?_; exact BK260.out) Try.underlying26 rfl (by kernel_rfl)) rfl ?_
     exact ⟨_, ce_, q11_0, cB1_ GE260.out⟩
    rw [if_neg c27] at H
    have c27b0 : decide ((wrap64 (4 + a2)) < (wrap64 (t268 + t269))) = false := decide_eq_false c27
    clear c27
    have H' := Aside0.mk H
    clear H
    go_wp2_with (first | (go_at_call 85; (with_reducible refine (impl_longest.calls kj13 _ _ l0 t268 _ ?side1 ?side2 A25.out).mono ?_); (case side1 => exact cC_ ((Kd.V_reads' HO_0.out).2.2)); (case side2 => exact (Kd.V_reads' HO_0.out).2.1); rintro e w31 ⟨rfl, hb⟩; replace HO_0 := Aside0.mk (Kd.V_below (cV_ HO_0.out) hb); replace HO_1 := Aside0.mk (Kd.V_below b11_6 hb); replace BK260 := Aside0.mk (blk_below (g := gb260) (o := .cells #[.int .i64 0, .slice none 0 0] 26 (0, 0)) b11_0 hb); replace HB := Aside0.mk (below_step b11_1 hb); (try clear hb); (try clear hb2); (try clear hk); (try clear hi)) | (go_at_call 85; (with_reducible refine (impl_longest.calls kj13 _ _ l1 t269 _ ?side1 ?side2 A26.out).mono ?_); (case side1 => exact cC_ ((Kd.V_reads' HO_1.out).2.2)); (case side2 => exact (Kd.V_reads' HO_1.out).2.1); rintro e w32 ⟨rfl, hb⟩; replace HO_0 := Aside0.mk (Kd.V_below (cV_ HO_0.out) hb); replace HO_1 := Aside0.mk (Kd.V_below b11_6 hb); replace BK260 := Aside0.mk (blk_below (g := gb260) (o := .cells #[.int .i64 0, .slice none 0 0] 26 (0, 0)) b11_0 hb); replace HB := Aside0.mk (below_step b11_1 hb); (try clear hb); (try clear hb2); (try clear hk); (try clear hi)))
    go_meet
    case rel => exact ⟨_, (0), H', ⟨q11_1⟩, ⟨cV_ HO_0.out⟩, ⟨cV_ HO_1.out⟩, ⟨cO_ BK260.out⟩, ⟨cB1_ GE260.out⟩⟩
 case rest =>
  clear HC7
  try clear c1
  try clear c2
  try clear p2
  try clear c4
  try clear c5
  try clear c6
  try clear p6
  try clear c7
  try clear c13
  try clear c13b0
  try clear c13b1
  try clear c16
  try clear c21
  try clear c23
  try clear c23b0
  try clear c23b1
  try clear c24
  try clear c24b0
  try clear c24b1
  try clear c27
  try clear c27b0
  try clear hcz22_0
  try clear hcz22_1
  try clear hcz30_0
  try clear hcz30_1
  try clear hcz33_0
  try clear hcz33_1
  try clear hfz22_0
  try clear hfz22_1
  try clear hfz30_0
  try clear hfz30_1
  try clear hfz33_0
  try clear hfz33_1
  try clear p2
  obtain ⟨kq, x261000_6, HA, HJ6, HO_0, HO_1, BK260, HB⟩ := hcut
  cases kq with
  | zero => exact absurd HA.out (by simp [impl_JoinSets.j1])
  | succ kj6 =>
   have H := HA.out
   clear HA
   simp only [impl_JoinSets.j1] at H
   obtain ⟨y270, hy_⟩ : ∃ y_ : List (S42), y_ = (([] : List (S42))) := ⟨_, rfl⟩
   replace H : (impl_JoinSets.l0 kj6 l1 a2 y270 l0 (l0.length : Int) 0) = some (r1, r2) := yb_
   have Ny270 := Aside0.mk hy_
   clear hy_
   have H' := Aside0.mk H
   clear H
   go_wp2_with (first | ((with_reducible refine gate_dst (N := 61) rfl ?_); (try (refine gate_guard (by rfl) ?_; dsimp only)); refine Kd.N_lit k42 _ 42 ?hg (N' := 61) ?hd (xs := ([] : List (S42))) (inner := []) (ok := (fun k_ => ((k_ < w.heap.size ∨ k_ < w.heap.size) ∨ w.heap.size ≤ k_) ∧ k_ ≠ gb260)) (okp := (fun k_ => ((k_ < w.heap.size ∨ k_ < w.heap.size) ∨ w.heap.size ≤ k_) ∧ k_ ≠ gb260)) ?hr ?hp (fun _ hk => hk) ((show ∀ k_, wc.heap.size ≤ k_ → (fun k_ => ((k_ < w.heap.size ∨ k_ < w.heap.size) ∨ w.heap.size ≤ k_) ∧ k_ ≠ gb260) k_ from fun k_ hk => ⟨(.inr (Nat.le_trans (below_size b11_1) hk)), Kd.freshB (g := gb260) (o := .cells #[.int .i64 x261000_6, .slice none 0 0] 26 (0, 0)) b11_0 k_ hk⟩) _ (Nat.le_refl _)) (Below.refl _ _) (Nat.le_refl _) (by simp) ?_; (case hd => rfl); (case hg => rfl); (case hr => first | (go_simp; done) | (go_simp; rfl)); (case hp => exact (Reps.none _ _)); intro v271 w34 ho35 hb hg_ hnew_; clear hg_ hnew_; (first | rw [← Ny270.out] at ho35 | (simp only [Int.reduceToNat] at ho35; rw [← Ny270.out] at ho35)); replace HO_0 := Aside0.mk (Kd.V_elder' (cV_ HO_0.out) (Kd.N_base ho35) hb); replace HO_1 := Aside0.mk (Kd.V_elder' b11_6 (Kd.N_base ho35) hb); have HO272 := Aside0.mk (Kd.N_lower ho35 (below_size b11_1)); replace BK260 := Aside0.mk (blk_below (g := gb260) (o := .cells #[.int .i64 x261000_6, .slice none 0 0] 26 (0, 0)) b11_0 hb); replace HB := Aside0.mk (below_step b11_1 hb); clear hb ho35))
   go_loopg [8, 64] kj6 (fun kq v8 v64 w' => ∃ (x8_2 : List (S42)) (x64_2 : Int) (x261000_2 : Int), v64 = .int .i64 x64_2 ∧ Aside0 (impl_JoinSets.l0 kq l1 a2 x8_2 l0 (l0.length : Int) x64_2 = some (r1, r2)) ∧ Aside0 (kq ≤ kj6) ∧ Aside0 (Kd.V k42 42 w' w.heap.size (fun k_ => ((k_ < w.heap.size ∨ k_ < w.heap.size) ∨ w.heap.size ≤ k_) ∧ some k_ ≠ (v8 : Value).ownBlock ∧ k_ ≠ gb260) (.slice A1 l1.length c1) l1) ∧ Aside0 (Kd.N k42 42 w' w.heap.size (fun k_ => ((k_ < w.heap.size ∨ k_ < w.heap.size) ∨ w.heap.size ≤ k_) ∧ k_ ≠ gb260) v8 x8_2) ∧ Aside0 (Kd.V k42 42 w' w.heap.size (fun k_ => ((k_ < w.heap.size ∨ k_ < w.heap.size) ∨ w.heap.size ≤ k_) ∧ some k_ ≠ (v8 : Value).ownBlock ∧ k_ ≠ gb260) (.slice A0 l0.length c0) l0) ∧ Aside0 (w'.heap[gb260]? = some (.cells #[.int .i64 x261000_2, (.slice none 0 0)] 26 (0, 0))) ∧ Aside0 (Below w.heap.size w w'))
   case atStart => exact ⟨(y270), (0), (x261000_6), cs_, H', ⟨Nat.le_refl _⟩, ⟨by refine cV_ ?_; exact Kd.V_mono HO_1.out (fun _ hk => ⟨hk.1.1, ⟨hk.2, hk.1.2⟩⟩)⟩, ⟨cN_ HO272.out⟩, ⟨by refine cV_ ?_; exact Kd.V_mono HO_0.out (fun _ hk => ⟨hk.1.1, ⟨hk.2, hk.1.2⟩⟩)⟩, ⟨cO_ BK260.out⟩, ⟨cB1_ GE260.out⟩⟩
   case round =>
    clear H'
    try clear c1
    try clear c2
    try clear p2
    try clear c4
    try clear c5
    try clear c6
    try clear p6
    try clear c7
    try clear c13
    try clear c13b0
    try clear c13b1
    try clear c16
    try clear c21
    try clear c23
    try clear c23b0
    try clear c23b1
    try clear c24
    try clear c24b0
    try clear c24b1
    try clear c27
    try clear c27b0
    try clear hcz22_0
    try clear hcz22_1
    try clear hcz30_0
    try clear hcz30_1
    try clear hcz33_0
    try clear hcz33_1
    try clear hfz22_0
    try clear hfz22_1
    try clear hfz30_0
    try clear hfz30_1
    try clear hfz33_0
    try clear hfz33_1
    try clear p2
    try clear p6
    obtain ⟨x8_2, x64_2, x261000_2, rfl, HA, HK2, HO_1, HO_8, HO_62, BK260, HB⟩ := hrel
    cases gk with
    | zero => exact absurd HA.out (by simp [impl_JoinSets.l0])
    | succ k2 =>
     have H := HA.out
     clear HA
     simp only [impl_JoinSets.l0] at H
     by_cases c36 : x64_2 < (l0.length : Int)
     rotate_left
     ·rw [if_neg c36] at H
      have c36b0 := decide_eq_false c36
      clear c36
      by_cases c97 : (x8_2.length : Int) > 800
      ·rw [if_pos c97] at H
       have c97b0 : decide (800 < (x8_2.length : Int)) = true := decide_eq_true c97
       have c97b1 : decide (800 < x8_2.length) = true := decide_eq_true (by omega)
       clear c97
       simp only [Option.some.injEq, Prod.mk.injEq] at H
       obtain ⟨rfl, rfl⟩ := H
       obtain ⟨Ao98, co98, eo98⟩ := Kd.N_slice HO_8.out
       subst eo98
       obtain ⟨hcz99_0, hcz99_1, hfz99_0, hfz99_1⟩ := cells2 BK260.out
       go_wp2
       refine bodyPost_ret (results_cell_row rfl _ _ gb260 26 #[.int .i64 2, .slice none 0 0] (0, 0) _ rfl (by refine cO_ ?_; refine blk_put (cs := #[.int .i64 2, .slice none 0 0]) ?_ 1 _ rfl; refine cO_ ?_; refine blk_put (cs := #[.int .i64 x261000_2, .slice none 0 0]) ?_ 0 _ rfl; refine cO_ ?_; exact BK260.out) Try.underlying26 rfl (by kernel_rfl)) rfl ?_
       exact ⟨_, ce_, q11_0, cB1_ GE260.out⟩
      rw [if_neg c97] at H
      have c97b0 : decide (800 < (x8_2.length : Int)) = false := decide_eq_false c97
      have c97b1 : decide (800 < x8_2.length) = false := decide_eq_false (by omega)
      clear c97
      obtain ⟨⟨t273, t274⟩, A100, H⟩ := bnd_ H
      try dsimp only at H
      simp only [Option.some.injEq, Prod.mk.injEq] at H
      obtain ⟨rfl, rfl⟩ := H
      obtain ⟨Ao101, co101, eo101⟩ := Kd.N_slice HO_8.out
      subst eo101
      go_wp2_with (first | (refine gl_ 50 (some 116) Try.func50 #[.slice Ao101 x8_2.length co101] ?_; (with_reducible refine (impl_summed.calls _ _ x8_2 t273 t274 _ ?side1 ?side2 A100.out).mono ?_); (case side1 => exact cC_ ((Kd.N_reads' HO_8.out).2.2)); (case side2 => exact (Kd.N_reads' HO_8.out).2.1); rintro e w102 ⟨v275, rfl, ho0, hb⟩; refine ⟨_, rfl, ?_⟩; replace HO_1 := Aside0.mk (Kd.V_elder' b11_6 (Kd.S_base ho0) hb); replace HO_8 := Aside0.mk (Kd.N_elder' b11_8 (Kd.S_base ho0) hb); replace HO_62 := Aside0.mk (Kd.V_elder' b11_9 (Kd.S_base ho0) hb); have HO276 := Aside0.mk (Kd.S_lower (Kd.S_mono (ok' := fun k_ => k_ ≠ gb260) (Kd.S_bound ho0) (fun k_ hk_ => Kd.freshB (g := gb260) (o := .cells #[.int .i64 x261000_2, .slice none 0 0] 26 (0, 0)) b11_0 k_ hk_.2.1)) (below_size b11_1)); replace BK260 := Aside0.mk (blk_below (g := gb260) (o := .cells #[.int .i64 x261000_2, .slice none 0 0] 26 (0, 0)) b11_0 hb); replace HB := Aside0.mk (below_step b11_1 hb); (try clear hb); (try clear hb2); (try clear hk); (try clear hi); (try clear ho0); obtain ⟨Ao103, co103, eo103⟩ := Kd.S_slice HO276.out; subst eo103; obtain ⟨hcz104_0, hcz104_1, hfz104_0, hfz104_1⟩ := cells2 BK260.out))
      refine bodyPost_ret (results_cell_row rfl _ _ gb260 26 #[.int .i64 t274, .slice Ao103 t273.length co103] (0, 0) _ rfl (by refine cO_ ?_; refine blk_put (cs := #[.int .i64 t274, .slice none 0 0]) ?_ 1 _ rfl; refine cO_ ?_; refine blk_put (cs := #[.int .i64 x261000_2, .slice none 0 0]) ?_ 0 _ rfl; refine cO_ ?_; exact BK260.out) Try.underlying26 rfl (by kernel_rfl)) rfl ?_
      exact ⟨_, ce_, by refine cS_ ?_; exact Kd.S_mono (Kd.S_far (p := ⟨gb260, 1, none⟩) (Kd.S_far (p := ⟨gb260, 0, none⟩) HO276.out (fun _ hk => hk) (.int .i64 t274)) (fun _ hk => hk) (.slice Ao103 t273.length co103)) (fun _ _ => trivial), cB1_ GE260.out⟩
     rw [if_pos c36] at H
     have c36b0 := decide_eq_true c36
     clear c36
     by_cases c37 : 0 ≤ x64_2
     rotate_left
     ·rw [if_neg c37] at H
      exact absurd H (by simp)
     rw [if_pos c37] at H
     have c37b0 := decide_eq_true c37
     clear c37
     by_cases c38 : x64_2 < (l0.length : Int)
     rotate_left
     ·rw [if_neg c38] at H
      exact absurd H (by simp)
     rw [if_pos c38] at H
     have c38b0 := decide_eq_true c38
     clear c38
     have H' := Aside0.mk H
     clear H
     have p277 : 0 ≤ (x64_2 : Int) := cd_
     have q277 : x64_2 < (l0.length : Int) := cd_
     obtain ⟨ad277, A277_0, c277_0, e277, hx277_0, hx277_1, hl277_0, hi277_0⟩ := at_T42 (Kd.V_reads' HO_62.out).2.2 x64_2 p277 q277
     cases e277
     obtain ⟨ce277, hce277, hMe277, hcc277⟩ := Kd.V_get HO_62.out z42 x64_2 p277 (by first | exact q277 | exact of_decide_eq_true ca_ | (have e_ := (Kd.V_reads' HO_62.out).1; omega))
     obtain ⟨ua277_0, uc277_0, rfl, ul277_0, ge277_0⟩ := k42_openF hMe277
     have hv277_0 := hcc277 0 _ rfl
     rw [Nat.add_zero] at hv277_0
     replace hv277_0 := Option.some.inj (hv277_0.symm.trans hx277_0)
     injection hv277_0 with hva_ hvn_ hvc_
     rw [hva_] at ge277_0
     rw [hvc_] at ul277_0
     have HL277_0 := Aside0.mk (show Kd.V (Kd.int .i64) 2 _ w.heap.size _ _ ((rd_T42 l0 x64_2).f0) from Kd.V_mk ul277_0 ge277_0)
     clear hva_ hvn_ hvc_ ge277_0 ul277_0
     clear hcc277 hce277
     have HRW277_0 : Aside0 (Kd.C (Kd.int .i64) w A277_0 ((rd_T42 l0 x64_2).f0).length ((rd_T42 l0 x64_2).f0)) := by
      obtain ⟨ad_, A_, c_, e_, hx0_, hx1_, hl_, hi_⟩ := at_T42 HP0_.out x64_2 p277 q277
      injection e_ with e2_
      subst e2_
      have q1_ := (HB.out.cell (World.block_lt_of_cell? _ _ hx0_)).trans hx0_
      have q2_ := Option.some.inj (q1_.symm.trans hx277_0)
      injection q2_ with q3_ q4_ q5_
      rw [q3_] at hi_
      exact ⟨hi_⟩
     have HR277_0 := Aside0.mk hi277_0
     have HC277_0 := Aside0.mk hl277_0
     clear hi277_0 hl277_0
     replace p277 := eq_true p277
     replace q277 := eq_true q277
     go_wp2_with (first | ((with_reducible refine gate_dst (N := 10) rfl ?_); (try (refine gate_guard (by rfl) ?_; dsimp only)); refine box_event ?hg (N := 10) ?hd (cs := #[.slice none 0 0, .int .i64 0]) (t := 42) ?hr ?_; (case hd => rfl); (case hg => rfl); (case hr => first | (go_simp; done) | (go_simp; rfl)); intro gb278 hg w39 hbox hb; replace HO_1 := Aside0.mk (Kd.V_below (Kd.V_elderB b11_6 gb278 (Nat.le_of_eq hg.symm)) hb); replace HO_8 := Aside0.mk (Kd.N_below (Kd.N_elderB b11_8 gb278 (Nat.le_of_eq hg.symm)) hb); replace HO_62 := Aside0.mk (Kd.V_below (Kd.V_elderB b11_9 gb278 (Nat.le_of_eq hg.symm)) hb); replace HL277_0 := Aside0.mk (Kd.V_below (Kd.V_elderB (cV_ HL277_0.out) gb278 (Nat.le_of_eq hg.symm)) hb); replace HR277_0 := Aside0.mk (Kd.C_below (by repeat (first | (with_reducible exact HR277_0.out) | (with_reducible refine Kd.C_alloc ?_ _) | (with_reducible refine Kd.C_drewN ?_ _) | (with_reducible refine Kd.C_drew ?_) | exact HR277_0.out)) hb); have BK278 := Aside0.mk (hbox); have GW278 := Aside0.mk ((by rw [hg]; exact (below_size b11_1) : w.heap.size ≤ gb278)); have GE278 := Aside0.mk ((by rw [hg]; exact (below_size b11_1) : w.heap.size ≤ gb278)); replace HB := Aside0.mk (below_step b11_1 hb); have NB260_278 := Aside0.mk ((by rw [hg]; exact Nat.ne_of_lt (blk_lt (g := gb260) (o := .cells #[.int .i64 x261000_2, .slice none 0 0] 26 (0, 0)) b11_0) : gb260 ≠ gb278)); have NB278_260 := Aside0.mk ((by rw [hg]; exact Nat.ne_of_gt (blk_lt (g := gb260) (o := .cells #[.int .i64 x261000_2, .slice none 0 0] 26 (0, 0)) b11_0) : gb278 ≠ gb260)); replace BK260 := Aside0.mk (blk_below (g := gb260) (o := .cells #[.int .i64 x261000_2, .slice none 0 0] 26 (0, 0)) b11_0 hb); clear hb hbox hg; have hnb40 := NB278_260.out; have hnc40 := NB260_278.out; obtain ⟨hcz41_0, hcz41_1, hfz41_0, hfz41_1⟩ := cells2 BK278.out))
     go_loopg [8, 70] k2 (fun kq v8 v70 w' => ∃ (x8_3 : List (S42)) (x70_3 : Int) (x261000_3 : Int), v70 = .int .i64 x70_3 ∧ Aside0 (impl_JoinSets.l1 kq l1 a2 x8_3 l0 (l0.length : Int) x64_2 l1 (l1.length : Int) x70_3 ((rd_T42 l0 x64_2).f0) ((rd_T42 l0 x64_2).f1) = some (r1, r2)) ∧ Aside0 (kq ≤ k2) ∧ Aside0 (Kd.V k42 42 w' w.heap.size (fun k_ => ((k_ < w.heap.size ∨ k_ < w.heap.size) ∨ w.heap.size ≤ k_) ∧ some k_ ≠ (v8 : Value).ownBlock ∧ k_ ≠ gb260 ∧ k_ ≠ gb278) (.slice A1 l1.length c1) l1) ∧ Aside0 (Kd.N k42 42 w' w.heap.size (fun k_ => ((k_ < w.heap.size ∨ k_ < w.heap.size) ∨ w.heap.size ≤ k_) ∧ k_ ≠ gb260 ∧ k_ ≠ gb278) v8 x8_3) ∧ Aside0 (Kd.V k42 42 w' w.heap.size (fun k_ => ((k_ < w.heap.size ∨ k_ < w.heap.size) ∨ w.heap.size ≤ k_) ∧ some k_ ≠ (v8 : Value).ownBlock ∧ k_ ≠ gb260 ∧ k_ ≠ gb278) (.slice (some ad277) l0.length c0) l0) ∧ Aside0 (Kd.V k42 42 w' w.heap.size (fun k_ => ((k_ < w.heap.size ∨ k_ < w.heap.size) ∨ w.heap.size ≤ k_) ∧ some k_ ≠ (v8 : Value).ownBlock ∧ k_ ≠ gb260 ∧ k_ ≠ gb278) (.slice A1 l1.length c1) l1) ∧ Aside0 (w'.heap[gb260]? = some (.cells #[.int .i64 x261000_3, (.slice none 0 0)] 26 (0, 0))) ∧ Aside0 (w'.heap[gb278]? = some (.cells #[(.slice A277_0 ((rd_T42 l0 x64_2).f0).length c277_0), .int .i64 ((rd_T42 l0 x64_2).f1)] 42 (0, 0))) ∧ Aside0 (Below w.heap.size w w'))
     case atStart => exact ⟨(x8_2), (0), (x261000_2), cs_, H', ⟨Nat.le_refl _⟩, ⟨by refine cV_ ?_; exact Kd.V_mono (Kd.V_far (p := ⟨gb278, 1, none⟩) (Kd.V_far (p := ⟨gb278, 0, none⟩) (Kd.V_mono HO_1.out (fun k_ hk => (⟨hk, hk.2⟩ : _ ∧ k_ ≠ gb278))) (fun _ hk => hk.2) (.slice A277_0 ((rd_T42 l0 x64_2).f0).length c277_0)) (fun _ hk => hk.2) (.int .i64 ((rd_T42 l0 x64_2).f1))) (fun _ hk => ⟨hk.1.1.1, ⟨hk.1.1.2.1, ⟨hk.1.1.2.2, hk.1.2⟩⟩⟩)⟩, ⟨by refine cN_ ?_; exact Kd.N_mono (Kd.N_far (p := ⟨gb278, 1, none⟩) (Kd.N_far (p := ⟨gb278, 0, none⟩) (Kd.N_mono HO_8.out (fun k_ hk => (⟨hk, hk.2⟩ : _ ∧ k_ ≠ gb278))) (fun _ hk => hk.2) (.slice A277_0 ((rd_T42 l0 x64_2).f0).length c277_0)) (fun _ hk => hk.2) (.int .i64 ((rd_T42 l0 x64_2).f1))) (fun _ hk => ⟨hk.1.1.1, ⟨hk.1.1.2, hk.1.2⟩⟩)⟩, ⟨by refine cV_ ?_; exact Kd.V_mono (Kd.V_far (p := ⟨gb278, 1, none⟩) (Kd.V_far (p := ⟨gb278, 0, none⟩) (Kd.V_mono HO_62.out (fun k_ hk => (⟨hk, hk.2⟩ : _ ∧ k_ ≠ gb278))) (fun _ hk => hk.2) (.slice A277_0 ((rd_T42 l0 x64_2).f0).length c277_0)) (fun _ hk => hk.2) (.int .i64 ((rd_T42 l0 x64_2).f1))) (fun _ hk => ⟨hk.1.1.1, ⟨hk.1.1.2.1, ⟨hk.1.1.2.2, hk.1.2⟩⟩⟩)⟩, ⟨by refine cV_ ?_; exact Kd.V_mono (Kd.V_far (p := ⟨gb278, 1, none⟩) (Kd.V_far (p := ⟨gb278, 0, none⟩) (Kd.V_mono HO_1.out (fun k_ hk => (⟨hk, hk.2⟩ : _ ∧ k_ ≠ gb278))) (fun _ hk => hk.2) (.slice A277_0 ((rd_T42 l0 x64_2).f0).length c277_0)) (fun _ hk => hk.2) (.int .i64 ((rd_T42 l0 x64_2).f1))) (fun _ hk => ⟨hk.1.1.1, ⟨hk.1.1.2.1, ⟨hk.1.1.2.2, hk.1.2⟩⟩⟩)⟩, ⟨by refine cO_ ?_; refine blk_far ?_ NB260_278.out _; refine cO_ ?_; refine blk_far ?_ NB260_278.out _; refine cO_ ?_; exact BK260.out⟩, ⟨by refine cO_ ?_; refine blk_put (cs := #[.slice A277_0 ((rd_T42 l0 x64_2).f0).length c277_0, .int .i64 0]) ?_ 1 _ rfl; refine cO_ ?_; refine blk_put (cs := #[.slice none 0 0, .int .i64 0]) ?_ 0 _ rfl; refine cO_ ?_; exact BK278.out⟩, ⟨cB2_ GE260.out GE278.out⟩⟩
     case round =>
      clear H'
      try clear c1
      try clear c2
      try clear p2
      try clear q2
      try clear hx2
      try clear c3
      try clear c4
      try clear c5
      try clear c6
      try clear p6
      try clear c7
      try clear c13
      try clear c13b0
      try clear c13b1
      try clear c16
      try clear c21
      try clear c23
      try clear c23b0
      try clear c23b1
      try clear c24
      try clear c24b0
      try clear c24b1
      try clear c27
      try clear c27b0
      try clear p27
      try clear q27
      try clear hx27
      try clear c36
      try clear c36b0
      try clear c37
      try clear c37b0
      try clear c38
      try clear c38b0
      try clear c40
      try clear hcz22_0
      try clear hcz22_1
      try clear hcz30_0
      try clear hcz30_1
      try clear hcz33_0
      try clear hcz33_1
      try clear hcz41_0
      try clear hcz41_1
      try clear hfz22_0
      try clear hfz22_1
      try clear hfz30_0
      try clear hfz30_1
      try clear hfz33_0
      try clear hfz33_1
      try clear hfz41_0
      try clear hfz41_1
      try clear hx277_0
      try clear hx277_1
      try clear p2
      try clear p277
      try clear p6
      try clear q277
      obtain ⟨x8_3, x70_3, x261000_3, rfl, HA, HK3, HO_1, HO_8, HO_62, HO_68, BK260, BK278, HB⟩ := hrel
      cases gk with
      | zero => exact absurd HA.out (by simp [impl_JoinSets.l1])
      | succ k3 =>
       have H := HA.out
       clear HA
       simp only [impl_JoinSets.l1] at H
       by_cases c42 : x70_3 < (l1.length : Int)
       rotate_left
       ·rw [if_neg c42] at H
        have c42b0 := decide_eq_false c42
        clear c42
        have H' := Aside0.mk H
        clear H
        go_wp2
        go_roundg k3
        case measure => have := HJ6.out; have := HK2.out; have := HK3.out; omega
        case rel => exact ⟨(x8_3), (wrap64 (x64_2 + 1)), (x261000_3), cs_, H', ⟨q11_2⟩, ⟨by refine cV_ ?_; exact Kd.V_mono HO_1.out (fun _ hk => ⟨hk.1, ⟨hk.2.1, hk.2.2.1⟩⟩)⟩, ⟨by refine cN_ ?_; exact Kd.N_mono HO_8.out (fun _ hk => ⟨hk.1, hk.2.1⟩)⟩, ⟨by refine cV_ ?_; exact Kd.V_mono HO_62.out (fun _ hk => ⟨hk.1, ⟨hk.2.1, hk.2.2.1⟩⟩)⟩, ⟨cO_ BK260.out⟩, ⟨cB2_ GE260.out GE278.out⟩⟩
       rw [if_pos c42] at H
       have c42b0 := decide_eq_true c42
       clear c42
       by_cases c43 : 0 ≤ x70_3
       rotate_left
       ·rw [if_neg c43] at H
        exact absurd H (by simp)
       rw [if_pos c43] at H
       have c43b0 := decide_eq_true c43
       clear c43
       by_cases c44 : x70_3 < (l1.length : Int)
       rotate_left
       ·rw [if_neg c44] at H
        exact absurd H (by simp)
       rw [if_pos c44] at H
       have c44b0 := decide_eq_true c44
       clear c44
       by_cases c45 : 0 ≤ a2
       rotate_left
       ·rw [if_neg c45] at H
        exact absurd H (by simp)
       rw [if_pos c45] at H
       have c45b0 := eq_true c45
       have c45b1 : decide (0 ≤ a2) = true := decide_eq_true c45
       clear c45
       by_cases c46 : a2 ≤ (((rd_T42 l0 x64_2).f0).length : Int)
       rotate_left
       ·rw [if_neg c46] at H
        exact absurd H (by simp)
       rw [if_pos c46] at H
       have c46b0 := eq_true c46
       have c46b1 : decide (a2 ≤ (((rd_T42 l0 x64_2).f0).length : Int)) = true := decide_eq_true c46
       clear c46
       have c47b0 := eq_true (of_decide_eq_true ca_ : 0 ≤ a2)
       by_cases c48 : a2 ≤ (((rd_T42 l1 x70_3).f0).length : Int)
       rotate_left
       ·rw [if_neg c48] at H
        exact absurd H (by simp)
       rw [if_pos c48] at H
       have c48b0 := eq_true c48
       have c48b1 : decide (a2 ≤ (((rd_T42 l1 x70_3).f0).length : Int)) = true := decide_eq_true c48
       clear c48
       obtain ⟨y282, hy_⟩ : ∃ y_ : List Int, y_ = (((rd_T42 l1 x70_3).f0).take (a2 : Int).toNat) := ⟨_, rfl⟩
       replace H : ((slices_Equal_int64_int64.f k3 (((rd_T42 l0 x64_2).f0).take (a2 : Int).toNat) y282).bind fun t287 => (if t287 = true then ((impl_mulWeight.f k3 ((rd_T42 l0 x64_2).f1) ((rd_T42 l1 x70_3).f1)).bind fun bt288 => (if bt288.2 = true then ((cat2.f ((rd_T42 l0 x64_2).f0) (((rd_T42 l1 x70_3).f0).drop (a2 : Int).toNat)).bind fun t298 => (if x8_3.length < 4398046511104 then (impl_JoinSets.l1 k3 l1 a2 (x8_3 ++ [(⟨t298, bt288.1⟩ : S42)]) l0 (l0.length : Int) x64_2 l1 (l1.length : Int) (wrap64 (x70_3 + 1)) ((rd_T42 l0 x64_2).f0) ((rd_T42 l0 x64_2).f1)) else (none))) else (some (8, ([] : List (S42)))))) else (impl_JoinSets.l1 k3 l1 a2 x8_3 l0 (l0.length : Int) x64_2 l1 (l1.length : Int) (wrap64 (x70_3 + 1)) ((rd_T42 l0 x64_2).f0) ((rd_T42 l0 x64_2).f1)))) = some (r1, r2) := yb_
       have Ny282 := Aside0.mk hy_
       clear hy_
       obtain ⟨t287, A49, H⟩ := bnd_ H
       try dsimp only at H
       by_cases c50 : t287 = true
       rotate_left
       ·replace c50 := Bool.eq_false_iff.mpr c50
        subst c50
        rw [if_neg (show ¬ (false = true) by decide)] at H
        have H' := Aside0.mk H
        clear H
        have p279 : 0 ≤ (x70_3 : Int) := cd_
        have q279 : x70_3 < (l1.length : Int) := cd_
        obtain ⟨ad279, A279_0, c279_0, e279, hx279_0, hx279_1, hl279_0, hi279_0⟩ := at_T42 (Kd.V_reads' HO_68.out).2.2 x70_3 p279 q279
        cases e279
        obtain ⟨ce279, hce279, hMe279, hcc279⟩ := Kd.V_get HO_68.out z42 x70_3 p279 (by first | exact q279 | exact of_decide_eq_true ca_ | (have e_ := (Kd.V_reads' HO_68.out).1; omega))
        obtain ⟨ua279_0, uc279_0, rfl, ul279_0, ge279_0⟩ := k42_openF hMe279
        have hv279_0 := hcc279 0 _ rfl
        rw [Nat.add_zero] at hv279_0
        replace hv279_0 := Option.some.inj (hv279_0.symm.trans hx279_0)
        injection hv279_0 with hva_ hvn_ hvc_
        rw [hva_] at ge279_0
        rw [hvc_] at ul279_0
        have HL279_0 := Aside0.mk (show Kd.V (Kd.int .i64) 2 _ w.heap.size _ _ ((rd_T42 l1 x70_3).f0) from Kd.V_mk ul279_0 ge279_0)
        clear hva_ hvn_ hvc_ ge279_0 ul279_0
        clear hcc279 hce279
        have HR279_0 := Aside0.mk hi279_0
        have HC279_0 := Aside0.mk hl279_0
        clear hi279_0 hl279_0
        replace p279 := eq_true p279
        replace q279 := eq_true q279
        try go_wp2_with (first | ((with_reducible refine gate_dst (N := 12) rfl ?_); (try (refine gate_guard (by rfl) ?_; dsimp only)); refine box_event ?hg (N := 12) ?hd (cs := #[.slice none 0 0, .int .i64 0]) (t := 42) ?hr ?_; (case hd => rfl); (case hg => rfl); (case hr => first | (go_simp; done) | (go_simp; rfl)); intro gb280 hg w89 hbox hb; replace HO_1 := Aside0.mk (Kd.V_below (Kd.V_elderB b11_6 gb280 (Nat.le_of_eq hg.symm)) hb); replace HO_8 := Aside0.mk (Kd.N_below (Kd.N_elderB b11_8 gb280 (Nat.le_of_eq hg.symm)) hb); replace HO_62 := Aside0.mk (Kd.V_below (Kd.V_elderB b11_9 gb280 (Nat.le_of_eq hg.symm)) hb); replace HO_68 := Aside0.mk (Kd.V_below (Kd.V_elderB (cV_ HO_68.out) gb280 (Nat.le_of_eq hg.symm)) hb); replace HL279_0 := Aside0.mk (Kd.V_below (Kd.V_elderB b11_14 gb280 (Nat.le_of_eq hg.symm)) hb); replace HR279_0 := Aside0.mk (Kd.C_below (by repeat (first | (with_reducible exact HR279_0.out) | (with_reducible refine Kd.C_alloc ?_ _) | (with_reducible refine Kd.C_drewN ?_ _) | (with_reducible refine Kd.C_drew ?_) | exact HR279_0.out)) hb); have BK280 := Aside0.mk (hbox); have GW280 := Aside0.mk ((by rw [hg]; exact (below_size b11_5) : w.heap.size ≤ gb280)); have GE280 := Aside0.mk ((by rw [hg]; exact (below_size b11_5) : w.heap.size ≤ gb280)); replace HB := Aside0.mk (below_step b11_5 hb); have NB260_280 := Aside0.mk ((by rw [hg]; exact Nat.ne_of_lt (blk_lt (g := gb260) (o := .cells #[.int .i64 x261000_3, .slice none 0 0] 26 (0, 0)) b11_0) : gb260 ≠ gb280)); have NB280_260 := Aside0.mk ((by rw [hg]; exact Nat.ne_of_gt (blk_lt (g := gb260) (o := .cells #[.int .i64 x261000_3, .slice none 0 0] 26 (0, 0)) b11_0) : gb280 ≠ gb260)); replace BK260 := Aside0.mk (blk_below (g := gb260) (o := .cells #[.int .i64 x261000_3, .slice none 0 0] 26 (0, 0)) b11_0 hb); have NB278_280 := Aside0.mk ((by rw [hg]; exact Nat.ne_of_lt (blk_lt (g := gb278) (o := .cells #[.slice A277_0 ((rd_T42 l0 x64_2).f0).length c277_0, .int .i64 ((rd_T42 l0 x64_2).f1)] 42 (0, 0)) b11_3) : gb278 ≠ gb280)); have NB280_278 := Aside0.mk ((by rw [hg]; exact Nat.ne_of_gt (blk_lt (g := gb278) (o := .cells #[.slice A277_0 ((rd_T42 l0 x64_2).f0).length c277_0, .int .i64 ((rd_T42 l0 x64_2).f1)] 42 (0, 0)) b11_3) : gb280 ≠ gb278)); replace BK278 := Aside0.mk (blk_below (g := gb278) (o := .cells #[.slice A277_0 ((rd_T42 l0 x64_2).f0).length c277_0, .int .i64 ((rd_T42 l0 x64_2).f1)] 42 (0, 0)) b11_3 hb); clear hb hbox hg; have hnb90 := NB280_260.out; have hnc90 := NB260_280.out; have hnb91 := NB280_278.out; have hnc91 := NB278_280.out; obtain ⟨hcz92_0, hcz92_1, hfz92_0, hfz92_1⟩ := cells2 BK280.out))
        have n0_ : Aside0 (Kd.V k42 42 ((w89.setCell ⟨gb280, 0, none⟩ (.slice A279_0 ((rd_T42 l1 x70_3).f0).length c279_0)).setCell ⟨gb280, 1, none⟩ (.int .i64 ((rd_T42 l1 x70_3).f1))) w.heap.size (fun k_ => ((k_ < w.heap.size ∨ k_ < w.heap.size) ∨ w.heap.size ≤ k_) ∧ some k_ ≠ (u8 : Value).ownBlock ∧ k_ ≠ gb260 ∧ k_ ≠ gb278 ∧ k_ ≠ gb280) (.slice (some ad279) l1.length c1) l1) := ⟨by refine cV_ ?_; exact Kd.V_mono (Kd.V_far (p := ⟨gb280, 1, none⟩) (Kd.V_far (p := ⟨gb280, 0, none⟩) (Kd.V_mono HO_1.out (fun k_ hk => (⟨hk, hk.2⟩ : _ ∧ k_ ≠ gb280))) (fun _ hk => hk.2) (.slice A279_0 ((rd_T42 l1 x70_3).f0).length c279_0)) (fun _ hk => hk.2) (.int .i64 ((rd_T42 l1 x70_3).f1))) (fun _ hk => ⟨hk.1.1.1, ⟨hk.1.1.2.1, ⟨hk.1.1.2.2.1, ⟨hk.1.1.2.2.2, hk.1.2⟩⟩⟩⟩)⟩
        have n1_ : Aside0 (Kd.N k42 42 ((w89.setCell ⟨gb280, 0, none⟩ (.slice A279_0 ((rd_T42 l1 x70_3).f0).length c279_0)).setCell ⟨gb280, 1, none⟩ (.int .i64 ((rd_T42 l1 x70_3).f1))) w.heap.size (fun k_ => ((k_ < w.heap.size ∨ k_ < w.heap.size) ∨ w.heap.size ≤ k_) ∧ k_ ≠ gb260 ∧ k_ ≠ gb278 ∧ k_ ≠ gb280) u8 x8_3) := ⟨by refine cN_ ?_; exact Kd.N_mono (Kd.N_far (p := ⟨gb280, 1, none⟩) (Kd.N_far (p := ⟨gb280, 0, none⟩) (Kd.N_mono HO_8.out (fun k_ hk => (⟨hk, hk.2⟩ : _ ∧ k_ ≠ gb280))) (fun _ hk => hk.2) (.slice A279_0 ((rd_T42 l1 x70_3).f0).length c279_0)) (fun _ hk => hk.2) (.int .i64 ((rd_T42 l1 x70_3).f1))) (fun _ hk => ⟨hk.1.1.1, ⟨hk.1.1.2.1, ⟨hk.1.1.2.2, hk.1.2⟩⟩⟩)⟩
        have n2_ : Aside0 (Kd.V k42 42 ((w89.setCell ⟨gb280, 0, none⟩ (.slice A279_0 ((rd_T42 l1 x70_3).f0).length c279_0)).setCell ⟨gb280, 1, none⟩ (.int .i64 ((rd_T42 l1 x70_3).f1))) w.heap.size (fun k_ => ((k_ < w.heap.size ∨ k_ < w.heap.size) ∨ w.heap.size ≤ k_) ∧ some k_ ≠ (u8 : Value).ownBlock ∧ k_ ≠ gb260 ∧ k_ ≠ gb278 ∧ k_ ≠ gb280) (.slice (some ad277) l0.length c0) l0) := ⟨by refine cV_ ?_; exact Kd.V_mono (Kd.V_far (p := ⟨gb280, 1, none⟩) (Kd.V_far (p := ⟨gb280, 0, none⟩) (Kd.V_mono HO_62.out (fun k_ hk => (⟨hk, hk.2⟩ : _ ∧ k_ ≠ gb280))) (fun _ hk => hk.2) (.slice A279_0 ((rd_T42 l1 x70_3).f0).length c279_0)) (fun _ hk => hk.2) (.int .i64 ((rd_T42 l1 x70_3).f1))) (fun _ hk => ⟨hk.1.1.1, ⟨hk.1.1.2.1, ⟨hk.1.1.2.2.1, ⟨hk.1.1.2.2.2, hk.1.2⟩⟩⟩⟩)⟩
        have n3_ : Aside0 (Kd.V k42 42 ((w89.setCell ⟨gb280, 0, none⟩ (.slice A279_0 ((rd_T42 l1 x70_3).f0).length c279_0)).setCell ⟨gb280, 1, none⟩ (.int .i64 ((rd_T42 l1 x70_3).f1))) w.heap.size (fun k_ => ((k_ < w.heap.size ∨ k_ < w.heap.size) ∨ w.heap.size ≤ k_) ∧ some k_ ≠ (u8 : Value).ownBlock ∧ k_ ≠ gb260 ∧ k_ ≠ gb278 ∧ k_ ≠ gb280) (.slice (some ad279) l1.length c1) l1) := ⟨by refine cV_ ?_; exact Kd.V_mono (Kd.V_far (p := ⟨gb280, 1, none⟩) (Kd.V_far (p := ⟨gb280, 0, none⟩) (Kd.V_mono HO_68.out (fun k_ hk => (⟨hk, hk.2⟩ : _ ∧ k_ ≠ gb280))) (fun _ hk => hk.2) (.slice A279_0 ((rd_T42 l1 x70_3).f0).length c279_0)) (fun _ hk => hk.2) (.int .i64 ((rd_T42 l1 x70_3).f1))) (fun _ hk => ⟨hk.1.1.1, ⟨hk.1.1.2.1, ⟨hk.1.1.2.2.1, ⟨hk.1.1.2.2.2, hk.1.2⟩⟩⟩⟩)⟩
        have n4_ : Aside0 (Kd.V (Kd.int .i64) 2 ((w89.setCell ⟨gb280, 0, none⟩ (.slice A279_0 ((rd_T42 l1 x70_3).f0).length c279_0)).setCell ⟨gb280, 1, none⟩ (.int .i64 ((rd_T42 l1 x70_3).f1))) w.heap.size (fun k_ => ((k_ < w.heap.size ∨ k_ < w.heap.size) ∨ w.heap.size ≤ k_) ∧ some k_ ≠ (u8 : Value).ownBlock ∧ k_ ≠ gb260 ∧ k_ ≠ gb278 ∧ k_ ≠ gb280) (.slice A279_0 ((rd_T42 l1 x70_3).f0).length c279_0) ((rd_T42 l1 x70_3).f0)) := ⟨by refine cV_ ?_; exact Kd.V_mono (Kd.V_far (p := ⟨gb280, 1, none⟩) (Kd.V_far (p := ⟨gb280, 0, none⟩) (Kd.V_mono HL279_0.out (fun k_ hk => (⟨hk, hk.2⟩ : _ ∧ k_ ≠ gb280))) (fun _ hk => hk.2) (.slice A279_0 ((rd_T42 l1 x70_3).f0).length c279_0)) (fun _ hk => hk.2) (.int .i64 ((rd_T42 l1 x70_3).f1))) (fun _ hk => ⟨hk.1.1.1, ⟨hk.1.1.2.1, ⟨hk.1.1.2.2.1, ⟨hk.1.1.2.2.2, hk.1.2⟩⟩⟩⟩)⟩
        have n5_ : Aside0 (((w89.setCell ⟨gb280, 0, none⟩ (.slice A279_0 ((rd_T42 l1 x70_3).f0).length c279_0)).setCell ⟨gb280, 1, none⟩ (.int .i64 ((rd_T42 l1 x70_3).f1))).heap[gb260]? = some (.cells #[.int .i64 x261000_3, .slice none 0 0] 26 (0, 0))) := ⟨by refine cO_ ?_; refine blk_far ?_ NB260_280.out _; refine cO_ ?_; refine blk_far ?_ NB260_280.out _; refine cO_ ?_; exact BK260.out⟩
        have n6_ : Aside0 (((w89.setCell ⟨gb280, 0, none⟩ (.slice A279_0 ((rd_T42 l1 x70_3).f0).length c279_0)).setCell ⟨gb280, 1, none⟩ (.int .i64 ((rd_T42 l1 x70_3).f1))).heap[gb278]? = some (.cells #[.slice A277_0 ((rd_T42 l0 x64_2).f0).length c277_0, .int .i64 ((rd_T42 l0 x64_2).f1)] 42 (0, 0))) := ⟨by refine cO_ ?_; refine blk_far ?_ NB278_280.out _; refine cO_ ?_; refine blk_far ?_ NB278_280.out _; refine cO_ ?_; exact BK278.out⟩
        have n7_ : Aside0 (((w89.setCell ⟨gb280, 0, none⟩ (.slice A279_0 ((rd_T42 l1 x70_3).f0).length c279_0)).setCell ⟨gb280, 1, none⟩ (.int .i64 ((rd_T42 l1 x70_3).f1))).heap[gb280]? = some (.cells #[.slice A279_0 ((rd_T42 l1 x70_3).f0).length c279_0, .int .i64 ((rd_T42 l1 x70_3).f1)] 42 (0, 0))) := ⟨by refine cO_ ?_; refine blk_put (cs := #[.slice A279_0 ((rd_T42 l1 x70_3).f0).length c279_0, .int .i64 0]) ?_ 1 _ rfl; refine cO_ ?_; refine blk_put (cs := #[.slice none 0 0, .int .i64 0]) ?_ 0 _ rfl; refine cO_ ?_; exact BK280.out⟩
        have n8_ : Aside0 (Below w.heap.size w ((w89.setCell ⟨gb280, 0, none⟩ (.slice A279_0 ((rd_T42 l1 x70_3).f0).length c279_0)).setCell ⟨gb280, 1, none⟩ (.int .i64 ((rd_T42 l1 x70_3).f1)))) := ⟨cB3_ GE260.out GE278.out GE280.out⟩
        (try clear HO_1)
        (try clear HO_8)
        (try clear HO_62)
        (try clear HO_68)
        (try clear HL279_0)
        (try clear BK260)
        (try clear BK278)
        (try clear BK280)
        (try clear HB)
        generalize ((w89.setCell ⟨gb280, 0, none⟩ (.slice A279_0 ((rd_T42 l1 x70_3).f0).length c279_0)).setCell ⟨gb280, 1, none⟩ (.int .i64 ((rd_T42 l1 x70_3).f1))) = w93 at n0_ n1_ n2_ n3_ n4_ n5_ n6_ n7_ n8_ ⊢
        have HO_1 := n0_
        have HO_8 := n1_
        have HO_62 := n2_
        have HO_68 := n3_
        have HL279_0 := n4_
        have BK260 := n5_
        have BK278 := n6_
        have BK280 := n7_
        have HB := n8_
        clear n0_ n1_ n2_ n3_ n4_ n5_ n6_ n7_ n8_
        replace HO_1 := Aside0.mk (Kd.V_drew HO_1.out)
        replace HO_8 := Aside0.mk (Kd.N_drew HO_8.out)
        replace HO_62 := Aside0.mk (Kd.V_drew HO_62.out)
        replace HO_68 := Aside0.mk (Kd.V_drew HO_68.out)
        replace HL279_0 := Aside0.mk (Kd.V_drew HL279_0.out)
        replace BK260 := Aside0.mk (blk_drew BK260.out)
        replace BK278 := Aside0.mk (blk_drew BK278.out)
        replace BK280 := Aside0.mk (blk_drew BK280.out)
        replace HB := Aside0.mk (below_drew1 HB.out)
        obtain ⟨i095, hi095, _, hsz95, _⟩ := info_parts info2
        obtain ⟨hcut95, hA95, hC95⟩ := print_take_of (P := Try.prog) (Value.int .i64) 0 40 2 .i64 Try.underlying40 hi095 hsz95 A277_0 c277_0 ((rd_T42 l0 x64_2).f0) a2 (of_decide_eq_true ca_) (of_decide_eq_true ca_) HC277_0.out
        have HTL95 := Aside0.mk (show (((rd_T42 l0 x64_2).f0).take (a2 : Int).toNat).length = (a2 : Int).toNat from by have h1_ : a2 ≤ (((rd_T42 l0 x64_2).f0).length : Int) := (of_decide_eq_true ca_); rw [List.length_take]; omega)
        have HR281 := Aside0.mk (Kd.C_of_reads (h1 := fun _ => rfl) (hA95 _ (Kd.reads_of_C HRW277_0.out)))
        have HC281 := Aside0.mk hC95
        clear hA95 hC95 hi095 hsz95
        have q96 : (a2 : Int) ≤ ((((rd_T42 l1 x70_3).f0).length : Int) : Int) := cd_
        obtain ⟨i096, hi096, _, hsz96, _⟩ := info_parts info2
        have hroom96 : ((rd_T42 l1 x70_3).f0).length ≤ c279_0 := HC279_0.out
        have hC96 : Kd.F (Kd.int .i64) _ _ A279_0 ((rd_T42 l1 x70_3).f0).length ((rd_T42 l1 x70_3).f0) := (Kd.V_at (base := w.heap.size) HL279_0.out).2.2
        have hcut96 := cut_to (P := Try.prog) 40 2 .i64 Try.underlying40 hi096 A279_0 ((rd_T42 l1 x70_3).f0).length c279_0 a2 (of_decide_eq_true ca_) q96 hroom96
        have hr96 := Kd.F_take (m := (a2 : Int).toNat) hC96 (by omega)
        have hy96 : y282.length = (a2 : Int).toNat := (by rw [Ny282.out, List.length_take]; omega)
        rw [← Ny282.out] at hr96
        rw [← hy96] at hcut96
        have HO286 := Aside0.mk (show Kd.V (Kd.int .i64) 2 _ w.heap.size _ (.slice A279_0 y282.length c279_0) y282 from Kd.V_mk (by omega) hr96)
        have HC286 := Aside0.mk (show y282.length ≤ c279_0 from by omega)
        clear hr96 hC96 hroom96 hi096 hsz96
        have KY96 := Aside0.mk hy96
        clear hy96
        replace q96 := eq_true q96
        refine start_ (n := 10) (S := fun w' => w'.cell? ⟨gb278, 0, none⟩ = some (.slice A277_0 ((rd_T42 l0 x64_2).f0).length c277_0) ∧ w'.cell? ⟨gb278, 1, none⟩ = some (.int .i64 ((rd_T42 l0 x64_2).f1)) ∧ w'.cell? ⟨gb280, 0, none⟩ = some (.slice A279_0 ((rd_T42 l1 x70_3).f0).length c279_0) ∧ w'.cell? ⟨gb280, 1, none⟩ = some (.int .i64 ((rd_T42 l1 x70_3).f1))) (ds := []) (bl 10 0) (by kernel_rfl) rfl rfl ⟨(blk_cell BK278.out 0).trans rfl, (blk_cell BK278.out 1).trans rfl, (blk_cell BK280.out 0).trans rfl, (blk_cell BK280.out 1).trans rfl⟩ (fun hHeld => ?_); refine with_tabW impl_JoinSets.tab17 impl_JoinSets.bits17 (fun HT_ HW_ => ?_)
        generalize w93.drew = w94 at HO_1 HO_8 HO_62 HO_68 HL279_0 BK260 BK278 BK280 HB HO286 HR281 hHeld ⊢
        refine pv_ 0 74 (bl 10 1) ?_
        refine pv_ 2 76 (bl 10 5) ?_
        refine pv_ 4 78 (bl 10 21) ?_
        refine pv_ 6 80 (bl 10 85) ?_
        refine tv_ 1 75 (bl 10 87) rfl hHeld (fun w' s_ => by obtain ⟨s0, s1, s2, s3⟩ := s_; go_simp; with_reducible rfl) ?_
        refine pv_ 3 77 (bl 10 95) ?_
        refine tv_ 5 79 (bl 10 127) rfl hHeld (fun w' s_ => by obtain ⟨s0, s1, s2, s3⟩ := s_; go_simp; with_reducible rfl) ?_
        refine pv_ 7 81 (bl 10 255) ?_
        refine ov_ 8 82 (bl 10 511) (fun K hK => ?_)
        refine goes_ Try.func86 (by kernel_rfl) rfl #[.slice A277_0 (((rd_T42 l0 x64_2).f0).take (a2 : Int).toNat).length c277_0, .slice A279_0 y282.length c279_0] (by rfl) rfl rfl b11_12 ?_
        with_reducible refine (slices_Equal_int64_int64.calls k3 _ _ (((rd_T42 l0 x64_2).f0).take (a2 : Int).toNat) _ _ y282 false _ ?side1 ?side2 ?side3 ?side4 A49.out).mono ?_
        (case side1 => exact cC_ (Kd.C_below HR281.out HB.out))
        (case side2 => exact HC281.out)
        (case side3 => exact cC_ ((Kd.V_reads' HO286.out).2.2))
        (case side4 => exact (Kd.V_reads' HO286.out).2.1)
        rintro e w' ⟨rfl, ⟨nd, rfl⟩⟩
        refine ⟨_, rfl, ?_⟩
        refine hK.out _ _ ⟨(blk_cell BK278.out 0).trans rfl, (blk_cell BK278.out 1).trans rfl, (blk_cell BK280.out 0).trans rfl, (blk_cell BK280.out 1).trans rfl⟩ (fun hHeld => ?_)
        clear hK K
        refine nm_ (some 82) ?_
        refine pv_ 9 83 (bl 10 1023) ?_
        refine done_ (done_of HT_.out (by kernel_rfl)) ?_
        try go_wp2
        go_roundg k3
        case measure => have := HJ6.out; have := HK2.out; have := HK3.out; omega
        case rel => exact ⟨(x8_3), (wrap64 (x70_3 + 1)), (x261000_3), cs_, H', ⟨q11_2⟩, ⟨by refine cV_ ?_; exact Kd.V_mono HO_1.out (fun _ hk => ⟨hk.1, ⟨hk.2.1, ⟨hk.2.2.1, hk.2.2.2.1⟩⟩⟩)⟩, ⟨by refine cN_ ?_; exact Kd.N_mono HO_8.out (fun _ hk => ⟨hk.1, ⟨hk.2.1, hk.2.2.1⟩⟩)⟩, ⟨by refine cV_ ?_; exact Kd.V_mono HO_62.out (fun _ hk => ⟨hk.1, ⟨hk.2.1, ⟨hk.2.2.1, hk.2.2.2.1⟩⟩⟩)⟩, ⟨by refine cV_ ?_; exact Kd.V_mono HO_68.out (fun _ hk => ⟨hk.1, ⟨hk.2.1, ⟨hk.2.2.1, hk.2.2.2.1⟩⟩⟩)⟩, ⟨cO_ BK260.out⟩, ⟨cO_ BK278.out⟩, ⟨cB3_ GE260.out GE278.out GE280.out⟩⟩
       subst c50
       rw [if_pos rfl] at H
       obtain ⟨⟨t288, t289⟩, A51, H⟩ := bnd_ H
       try dsimp only at H
       by_cases c52 : t289 = true
       rotate_left
       ·replace c52 := Bool.eq_false_iff.mpr c52
        subst c52
        rw [if_neg (show ¬ (false = true) by decide)] at H
        simp only [Option.some.injEq, Prod.mk.injEq] at H
        obtain ⟨rfl, rfl⟩ := H
        have p279 : 0 ≤ (x70_3 : Int) := cd_
        have q279 : x70_3 < (l1.length : Int) := cd_
        obtain ⟨ad279, A279_0, c279_0, e279, hx279_0, hx279_1, hl279_0, hi279_0⟩ := at_T42 (Kd.V_reads' HO_68.out).2.2 x70_3 p279 q279
        cases e279
        obtain ⟨ce279, hce279, hMe279, hcc279⟩ := Kd.V_get HO_68.out z42 x70_3 p279 (by first | exact q279 | exact of_decide_eq_true ca_ | (have e_ := (Kd.V_reads' HO_68.out).1; omega))
        obtain ⟨ua279_0, uc279_0, rfl, ul279_0, ge279_0⟩ := k42_openF hMe279
        have hv279_0 := hcc279 0 _ rfl
        rw [Nat.add_zero] at hv279_0
        replace hv279_0 := Option.some.inj (hv279_0.symm.trans hx279_0)
        injection hv279_0 with hva_ hvn_ hvc_
        rw [hva_] at ge279_0
        rw [hvc_] at ul279_0
        have HL279_0 := Aside0.mk (show Kd.V (Kd.int .i64) 2 _ w.heap.size _ _ ((rd_T42 l1 x70_3).f0) from Kd.V_mk ul279_0 ge279_0)
        clear hva_ hvn_ hvc_ ge279_0 ul279_0
        clear hcc279 hce279
        have HR279_0 := Aside0.mk hi279_0
        have HC279_0 := Aside0.mk hl279_0
        clear hi279_0 hl279_0
        replace p279 := eq_true p279
        replace q279 := eq_true q279
        try go_wp2_with (first | ((with_reducible refine gate_dst (N := 12) rfl ?_); (try (refine gate_guard (by rfl) ?_; dsimp only)); refine box_event ?hg (N := 12) ?hd (cs := #[.slice none 0 0, .int .i64 0]) (t := 42) ?hr ?_; (case hd => rfl); (case hg => rfl); (case hr => first | (go_simp; done) | (go_simp; rfl)); intro gb280 hg w76 hbox hb; replace HO_1 := Aside0.mk (Kd.V_below (Kd.V_elderB b11_6 gb280 (Nat.le_of_eq hg.symm)) hb); replace HO_8 := Aside0.mk (Kd.N_below (Kd.N_elderB b11_8 gb280 (Nat.le_of_eq hg.symm)) hb); replace HO_62 := Aside0.mk (Kd.V_below (Kd.V_elderB b11_9 gb280 (Nat.le_of_eq hg.symm)) hb); replace HO_68 := Aside0.mk (Kd.V_below (Kd.V_elderB (cV_ HO_68.out) gb280 (Nat.le_of_eq hg.symm)) hb); replace HL279_0 := Aside0.mk (Kd.V_below (Kd.V_elderB b11_14 gb280 (Nat.le_of_eq hg.symm)) hb); replace HR279_0 := Aside0.mk (Kd.C_below (by repeat (first | (with_reducible exact HR279_0.out) | (with_reducible refine Kd.C_alloc ?_ _) | (with_reducible refine Kd.C_drewN ?_ _) | (with_reducible refine Kd.C_drew ?_) | exact HR279_0.out)) hb); have BK280 := Aside0.mk (hbox); have GW280 := Aside0.mk ((by rw [hg]; exact (below_size b11_5) : w.heap.size ≤ gb280)); have GE280 := Aside0.mk ((by rw [hg]; exact (below_size b11_5) : w.heap.size ≤ gb280)); replace HB := Aside0.mk (below_step b11_5 hb); have NB260_280 := Aside0.mk ((by rw [hg]; exact Nat.ne_of_lt (blk_lt (g := gb260) (o := .cells #[.int .i64 x261000_3, .slice none 0 0] 26 (0, 0)) b11_0) : gb260 ≠ gb280)); have NB280_260 := Aside0.mk ((by rw [hg]; exact Nat.ne_of_gt (blk_lt (g := gb260) (o := .cells #[.int .i64 x261000_3, .slice none 0 0] 26 (0, 0)) b11_0) : gb280 ≠ gb260)); replace BK260 := Aside0.mk (blk_below (g := gb260) (o := .cells #[.int .i64 x261000_3, .slice none 0 0] 26 (0, 0)) b11_0 hb); have NB278_280 := Aside0.mk ((by rw [hg]; exact Nat.ne_of_lt (blk_lt (g := gb278) (o := .cells #[.slice A277_0 ((rd_T42 l0 x64_2).f0).length c277_0, .int .i64 ((rd_T42 l0 x64_2).f1)] 42 (0, 0)) b11_3) : gb278 ≠ gb280)); have NB280_278 := Aside0.mk ((by rw [hg]; exact Nat.ne_of_gt (blk_lt (g := gb278) (o := .cells #[.slice A277_0 ((rd_T42 l0 x64_2).f0).length c277_0, .int .i64 ((rd_T42 l0 x64_2).f1)] 42 (0, 0)) b11_3) : gb280 ≠ gb278)); replace BK278 := Aside0.mk (blk_below (g := gb278) (o := .cells #[.slice A277_0 ((rd_T42 l0 x64_2).f0).length c277_0, .int .i64 ((rd_T42 l0 x64_2).f1)] 42 (0, 0)) b11_3 hb); clear hb hbox hg; have hnb77 := NB280_260.out; have hnc77 := NB260_280.out; have hnb78 := NB280_278.out; have hnc78 := NB278_280.out; obtain ⟨hcz79_0, hcz79_1, hfz79_0, hfz79_1⟩ := cells2 BK280.out))
        have n0_ : Aside0 (Kd.V k42 42 ((w76.setCell ⟨gb280, 0, none⟩ (.slice A279_0 ((rd_T42 l1 x70_3).f0).length c279_0)).setCell ⟨gb280, 1, none⟩ (.int .i64 ((rd_T42 l1 x70_3).f1))) w.heap.size (fun k_ => ((k_ < w.heap.size ∨ k_ < w.heap.size) ∨ w.heap.size ≤ k_) ∧ some k_ ≠ (u8 : Value).ownBlock ∧ k_ ≠ gb260 ∧ k_ ≠ gb278 ∧ k_ ≠ gb280) (.slice (some ad279) l1.length c1) l1) := ⟨by refine cV_ ?_; exact Kd.V_mono (Kd.V_far (p := ⟨gb280, 1, none⟩) (Kd.V_far (p := ⟨gb280, 0, none⟩) (Kd.V_mono HO_1.out (fun k_ hk => (⟨hk, hk.2⟩ : _ ∧ k_ ≠ gb280))) (fun _ hk => hk.2) (.slice A279_0 ((rd_T42 l1 x70_3).f0).length c279_0)) (fun _ hk => hk.2) (.int .i64 ((rd_T42 l1 x70_3).f1))) (fun _ hk => ⟨hk.1.1.1, ⟨hk.1.1.2.1, ⟨hk.1.1.2.2.1, ⟨hk.1.1.2.2.2, hk.1.2⟩⟩⟩⟩)⟩
        have n1_ : Aside0 (Kd.N k42 42 ((w76.setCell ⟨gb280, 0, none⟩ (.slice A279_0 ((rd_T42 l1 x70_3).f0).length c279_0)).setCell ⟨gb280, 1, none⟩ (.int .i64 ((rd_T42 l1 x70_3).f1))) w.heap.size (fun k_ => ((k_ < w.heap.size ∨ k_ < w.heap.size) ∨ w.heap.size ≤ k_) ∧ k_ ≠ gb260 ∧ k_ ≠ gb278 ∧ k_ ≠ gb280) u8 x8_3) := ⟨by refine cN_ ?_; exact Kd.N_mono (Kd.N_far (p := ⟨gb280, 1, none⟩) (Kd.N_far (p := ⟨gb280, 0, none⟩) (Kd.N_mono HO_8.out (fun k_ hk => (⟨hk, hk.2⟩ : _ ∧ k_ ≠ gb280))) (fun _ hk => hk.2) (.slice A279_0 ((rd_T42 l1 x70_3).f0).length c279_0)) (fun _ hk => hk.2) (.int .i64 ((rd_T42 l1 x70_3).f1))) (fun _ hk => ⟨hk.1.1.1, ⟨hk.1.1.2.1, ⟨hk.1.1.2.2, hk.1.2⟩⟩⟩)⟩
        have n2_ : Aside0 (Kd.V k42 42 ((w76.setCell ⟨gb280, 0, none⟩ (.slice A279_0 ((rd_T42 l1 x70_3).f0).length c279_0)).setCell ⟨gb280, 1, none⟩ (.int .i64 ((rd_T42 l1 x70_3).f1))) w.heap.size (fun k_ => ((k_ < w.heap.size ∨ k_ < w.heap.size) ∨ w.heap.size ≤ k_) ∧ some k_ ≠ (u8 : Value).ownBlock ∧ k_ ≠ gb260 ∧ k_ ≠ gb278 ∧ k_ ≠ gb280) (.slice (some ad277) l0.length c0) l0) := ⟨by refine cV_ ?_; exact Kd.V_mono (Kd.V_far (p := ⟨gb280, 1, none⟩) (Kd.V_far (p := ⟨gb280, 0, none⟩) (Kd.V_mono HO_62.out (fun k_ hk => (⟨hk, hk.2⟩ : _ ∧ k_ ≠ gb280))) (fun _ hk => hk.2) (.slice A279_0 ((rd_T42 l1 x70_3).f0).length c279_0)) (fun _ hk => hk.2) (.int .i64 ((rd_T42 l1 x70_3).f1))) (fun _ hk => ⟨hk.1.1.1, ⟨hk.1.1.2.1, ⟨hk.1.1.2.2.1, ⟨hk.1.1.2.2.2, hk.1.2⟩⟩⟩⟩)⟩
        have n3_ : Aside0 (Kd.V k42 42 ((w76.setCell ⟨gb280, 0, none⟩ (.slice A279_0 ((rd_T42 l1 x70_3).f0).length c279_0)).setCell ⟨gb280, 1, none⟩ (.int .i64 ((rd_T42 l1 x70_3).f1))) w.heap.size (fun k_ => ((k_ < w.heap.size ∨ k_ < w.heap.size) ∨ w.heap.size ≤ k_) ∧ some k_ ≠ (u8 : Value).ownBlock ∧ k_ ≠ gb260 ∧ k_ ≠ gb278 ∧ k_ ≠ gb280) (.slice (some ad279) l1.length c1) l1) := ⟨by refine cV_ ?_; exact Kd.V_mono (Kd.V_far (p := ⟨gb280, 1, none⟩) (Kd.V_far (p := ⟨gb280, 0, none⟩) (Kd.V_mono HO_68.out (fun k_ hk => (⟨hk, hk.2⟩ : _ ∧ k_ ≠ gb280))) (fun _ hk => hk.2) (.slice A279_0 ((rd_T42 l1 x70_3).f0).length c279_0)) (fun _ hk => hk.2) (.int .i64 ((rd_T42 l1 x70_3).f1))) (fun _ hk => ⟨hk.1.1.1, ⟨hk.1.1.2.1, ⟨hk.1.1.2.2.1, ⟨hk.1.1.2.2.2, hk.1.2⟩⟩⟩⟩)⟩
        have n4_ : Aside0 (Kd.V (Kd.int .i64) 2 ((w76.setCell ⟨gb280, 0, none⟩ (.slice A279_0 ((rd_T42 l1 x70_3).f0).length c279_0)).setCell ⟨gb280, 1, none⟩ (.int .i64 ((rd_T42 l1 x70_3).f1))) w.heap.size (fun k_ => ((k_ < w.heap.size ∨ k_ < w.heap.size) ∨ w.heap.size ≤ k_) ∧ some k_ ≠ (u8 : Value).ownBlock ∧ k_ ≠ gb260 ∧ k_ ≠ gb278 ∧ k_ ≠ gb280) (.slice A279_0 ((rd_T42 l1 x70_3).f0).length c279_0) ((rd_T42 l1 x70_3).f0)) := ⟨by refine cV_ ?_; exact Kd.V_mono (Kd.V_far (p := ⟨gb280, 1, none⟩) (Kd.V_far (p := ⟨gb280, 0, none⟩) (Kd.V_mono HL279_0.out (fun k_ hk => (⟨hk, hk.2⟩ : _ ∧ k_ ≠ gb280))) (fun _ hk => hk.2) (.slice A279_0 ((rd_T42 l1 x70_3).f0).length c279_0)) (fun _ hk => hk.2) (.int .i64 ((rd_T42 l1 x70_3).f1))) (fun _ hk => ⟨hk.1.1.1, ⟨hk.1.1.2.1, ⟨hk.1.1.2.2.1, ⟨hk.1.1.2.2.2, hk.1.2⟩⟩⟩⟩)⟩
        have n5_ : Aside0 (((w76.setCell ⟨gb280, 0, none⟩ (.slice A279_0 ((rd_T42 l1 x70_3).f0).length c279_0)).setCell ⟨gb280, 1, none⟩ (.int .i64 ((rd_T42 l1 x70_3).f1))).heap[gb260]? = some (.cells #[.int .i64 x261000_3, .slice none 0 0] 26 (0, 0))) := ⟨by refine cO_ ?_; refine blk_far ?_ NB260_280.out _; refine cO_ ?_; refine blk_far ?_ NB260_280.out _; refine cO_ ?_; exact BK260.out⟩
        have n6_ : Aside0 (((w76.setCell ⟨gb280, 0, none⟩ (.slice A279_0 ((rd_T42 l1 x70_3).f0).length c279_0)).setCell ⟨gb280, 1, none⟩ (.int .i64 ((rd_T42 l1 x70_3).f1))).heap[gb278]? = some (.cells #[.slice A277_0 ((rd_T42 l0 x64_2).f0).length c277_0, .int .i64 ((rd_T42 l0 x64_2).f1)] 42 (0, 0))) := ⟨by refine cO_ ?_; refine blk_far ?_ NB278_280.out _; refine cO_ ?_; refine blk_far ?_ NB278_280.out _; refine cO_ ?_; exact BK278.out⟩
        have n7_ : Aside0 (((w76.setCell ⟨gb280, 0, none⟩ (.slice A279_0 ((rd_T42 l1 x70_3).f0).length c279_0)).setCell ⟨gb280, 1, none⟩ (.int .i64 ((rd_T42 l1 x70_3).f1))).heap[gb280]? = some (.cells #[.slice A279_0 ((rd_T42 l1 x70_3).f0).length c279_0, .int .i64 ((rd_T42 l1 x70_3).f1)] 42 (0, 0))) := ⟨by refine cO_ ?_; refine blk_put (cs := #[.slice A279_0 ((rd_T42 l1 x70_3).f0).length c279_0, .int .i64 0]) ?_ 1 _ rfl; refine cO_ ?_; refine blk_put (cs := #[.slice none 0 0, .int .i64 0]) ?_ 0 _ rfl; refine cO_ ?_; exact BK280.out⟩
        have n8_ : Aside0 (Below w.heap.size w ((w76.setCell ⟨gb280, 0, none⟩ (.slice A279_0 ((rd_T42 l1 x70_3).f0).length c279_0)).setCell ⟨gb280, 1, none⟩ (.int .i64 ((rd_T42 l1 x70_3).f1)))) := ⟨cB3_ GE260.out GE278.out GE280.out⟩
        (try clear HO_1)
        (try clear HO_8)
        (try clear HO_62)
        (try clear HO_68)
        (try clear HL279_0)
        (try clear BK260)
        (try clear BK278)
        (try clear BK280)
        (try clear HB)
        generalize ((w76.setCell ⟨gb280, 0, none⟩ (.slice A279_0 ((rd_T42 l1 x70_3).f0).length c279_0)).setCell ⟨gb280, 1, none⟩ (.int .i64 ((rd_T42 l1 x70_3).f1))) = w80 at n0_ n1_ n2_ n3_ n4_ n5_ n6_ n7_ n8_ ⊢
        have HO_1 := n0_
        have HO_8 := n1_
        have HO_62 := n2_
        have HO_68 := n3_
        have HL279_0 := n4_
        have BK260 := n5_
        have BK278 := n6_
        have BK280 := n7_
        have HB := n8_
        clear n0_ n1_ n2_ n3_ n4_ n5_ n6_ n7_ n8_
        replace HO_1 := Aside0.mk (Kd.V_drew HO_1.out)
        replace HO_8 := Aside0.mk (Kd.N_drew HO_8.out)
        replace HO_62 := Aside0.mk (Kd.V_drew HO_62.out)
        replace HO_68 := Aside0.mk (Kd.V_drew HO_68.out)
        replace HL279_0 := Aside0.mk (Kd.V_drew HL279_0.out)
        replace BK260 := Aside0.mk (blk_drew BK260.out)
        replace BK278 := Aside0.mk (blk_drew BK278.out)
        replace BK280 := Aside0.mk (blk_drew BK280.out)
        replace HB := Aside0.mk (below_drew1 HB.out)
        obtain ⟨i082, hi082, _, hsz82, _⟩ := info_parts info2
        obtain ⟨hcut82, hA82, hC82⟩ := print_take_of (P := Try.prog) (Value.int .i64) 0 40 2 .i64 Try.underlying40 hi082 hsz82 A277_0 c277_0 ((rd_T42 l0 x64_2).f0) a2 (of_decide_eq_true ca_) (of_decide_eq_true ca_) HC277_0.out
        have HTL82 := Aside0.mk (show (((rd_T42 l0 x64_2).f0).take (a2 : Int).toNat).length = (a2 : Int).toNat from by have h1_ : a2 ≤ (((rd_T42 l0 x64_2).f0).length : Int) := (of_decide_eq_true ca_); rw [List.length_take]; omega)
        have HR281 := Aside0.mk (Kd.C_of_reads (h1 := fun _ => rfl) (hA82 _ (Kd.reads_of_C HRW277_0.out)))
        have HC281 := Aside0.mk hC82
        clear hA82 hC82 hi082 hsz82
        have q83 : (a2 : Int) ≤ ((((rd_T42 l1 x70_3).f0).length : Int) : Int) := cd_
        obtain ⟨i083, hi083, _, hsz83, _⟩ := info_parts info2
        have hroom83 : ((rd_T42 l1 x70_3).f0).length ≤ c279_0 := HC279_0.out
        have hC83 : Kd.F (Kd.int .i64) _ _ A279_0 ((rd_T42 l1 x70_3).f0).length ((rd_T42 l1 x70_3).f0) := (Kd.V_at (base := w.heap.size) HL279_0.out).2.2
        have hcut83 := cut_to (P := Try.prog) 40 2 .i64 Try.underlying40 hi083 A279_0 ((rd_T42 l1 x70_3).f0).length c279_0 a2 (of_decide_eq_true ca_) q83 hroom83
        have hr83 := Kd.F_take (m := (a2 : Int).toNat) hC83 (by omega)
        have hy83 : y282.length = (a2 : Int).toNat := (by rw [Ny282.out, List.length_take]; omega)
        rw [← Ny282.out] at hr83
        rw [← hy83] at hcut83
        have HO286 := Aside0.mk (show Kd.V (Kd.int .i64) 2 _ w.heap.size _ (.slice A279_0 y282.length c279_0) y282 from Kd.V_mk (by omega) hr83)
        have HC286 := Aside0.mk (show y282.length ≤ c279_0 from by omega)
        clear hr83 hC83 hroom83 hi083 hsz83
        have KY83 := Aside0.mk hy83
        clear hy83
        replace q83 := eq_true q83
        refine start_ (n := 10) (S := fun w' => w'.cell? ⟨gb278, 0, none⟩ = some (.slice A277_0 ((rd_T42 l0 x64_2).f0).length c277_0) ∧ w'.cell? ⟨gb278, 1, none⟩ = some (.int .i64 ((rd_T42 l0 x64_2).f1)) ∧ w'.cell? ⟨gb280, 0, none⟩ = some (.slice A279_0 ((rd_T42 l1 x70_3).f0).length c279_0) ∧ w'.cell? ⟨gb280, 1, none⟩ = some (.int .i64 ((rd_T42 l1 x70_3).f1))) (ds := []) (bl 10 0) (by kernel_rfl) rfl rfl ⟨(blk_cell BK278.out 0).trans rfl, (blk_cell BK278.out 1).trans rfl, (blk_cell BK280.out 0).trans rfl, (blk_cell BK280.out 1).trans rfl⟩ (fun hHeld => ?_); refine with_tabW impl_JoinSets.tab17 impl_JoinSets.bits17 (fun HT_ HW_ => ?_)
        generalize w80.drew = w81 at HO_1 HO_8 HO_62 HO_68 HL279_0 BK260 BK278 BK280 HB HO286 HR281 hHeld ⊢
        refine pv_ 0 74 (bl 10 1) ?_
        refine pv_ 2 76 (bl 10 5) ?_
        refine pv_ 4 78 (bl 10 21) ?_
        refine pv_ 6 80 (bl 10 85) ?_
        refine tv_ 1 75 (bl 10 87) rfl hHeld (fun w' s_ => by obtain ⟨s0, s1, s2, s3⟩ := s_; go_simp; with_reducible rfl) ?_
        refine pv_ 3 77 (bl 10 95) ?_
        refine tv_ 5 79 (bl 10 127) rfl hHeld (fun w' s_ => by obtain ⟨s0, s1, s2, s3⟩ := s_; go_simp; with_reducible rfl) ?_
        refine pv_ 7 81 (bl 10 255) ?_
        refine ov_ 8 82 (bl 10 511) (fun K hK => ?_)
        refine goes_ Try.func86 (by kernel_rfl) rfl #[.slice A277_0 (((rd_T42 l0 x64_2).f0).take (a2 : Int).toNat).length c277_0, .slice A279_0 y282.length c279_0] (by rfl) rfl rfl b11_12 ?_
        with_reducible refine (slices_Equal_int64_int64.calls k3 _ _ (((rd_T42 l0 x64_2).f0).take (a2 : Int).toNat) _ _ y282 true _ ?side1 ?side2 ?side3 ?side4 A49.out).mono ?_
        (case side1 => exact cC_ (Kd.C_below HR281.out HB.out))
        (case side2 => exact HC281.out)
        (case side3 => exact cC_ ((Kd.V_reads' HO286.out).2.2))
        (case side4 => exact (Kd.V_reads' HO286.out).2.1)
        rintro e w' ⟨rfl, ⟨nd, rfl⟩⟩
        refine ⟨_, rfl, ?_⟩
        refine hK.out _ _ ⟨(blk_cell BK278.out 0).trans rfl, (blk_cell BK278.out 1).trans rfl, (blk_cell BK280.out 0).trans rfl, (blk_cell BK280.out 1).trans rfl⟩ (fun hHeld => ?_)
        clear hK K
        refine nm_ (some 82) ?_
        refine pv_ 9 83 (bl 10 1023) ?_
        refine done_ (done_of HT_.out (by kernel_rfl)) ?_
        have hnb84 := NB278_260.out
        have hnc84 := NB260_278.out
        obtain ⟨hcz85_0, hcz85_1, hfz85_0, hfz85_1⟩ := cells2 BK278.out
        obtain ⟨hcz86_0, hcz86_1, hfz86_0, hfz86_1⟩ := cells2 BK280.out
        try go_wp2_with (first | (refine gl_ 87 (some 89) Try.func87 #[.int .i64 ((rd_T42 l0 x64_2).f1), .int .i64 ((rd_T42 l1 x70_3).f1)] ?_; (with_reducible refine (impl_mulWeight.calls k3 ((rd_T42 l0 x64_2).f1) ((rd_T42 l1 x70_3).f1) t288 false _ A51.out).mono ?_); rintro e w87 ⟨rfl, hb⟩; refine ⟨_, rfl, ?_⟩; replace HO_1 := Aside0.mk (Kd.V_below b11_6 hb); replace HO_8 := Aside0.mk (Kd.N_below b11_8 hb); replace HO_62 := Aside0.mk (Kd.V_below b11_9 hb); replace HO_68 := Aside0.mk (Kd.V_below (cV_ HO_68.out) hb); replace HL279_0 := Aside0.mk (Kd.V_below b11_14 hb); replace HO286 := Aside0.mk (Kd.V_below (cV_ HO286.out) hb); replace BK260 := Aside0.mk (blk_below (g := gb260) (o := .cells #[.int .i64 x261000_3, .slice none 0 0] 26 (0, 0)) b11_0 hb); replace BK278 := Aside0.mk (blk_below (g := gb278) (o := .cells #[.slice A277_0 ((rd_T42 l0 x64_2).f0).length c277_0, .int .i64 ((rd_T42 l0 x64_2).f1)] 42 (0, 0)) b11_3 hb); replace BK280 := Aside0.mk (blk_below (g := gb280) (o := .cells #[.slice A279_0 ((rd_T42 l1 x70_3).f0).length c279_0, .int .i64 ((rd_T42 l1 x70_3).f1)] 42 (0, 0)) (cO_ BK280.out) hb); replace HB := Aside0.mk (below_step b11_2 hb); (try clear hb); (try clear hb2); (try clear hk); (try clear hi); obtain ⟨hcz88_0, hcz88_1, hfz88_0, hfz88_1⟩ := cells2 BK260.out))
        refine bodyPost_ret (results_cell_row rfl _ _ gb260 26 #[.int .i64 8, .slice none 0 0] (0, 0) _ rfl (by refine cO_ ?_; refine blk_put (cs := #[.int .i64 8, .slice none 0 0]) ?_ 1 _ rfl; refine cO_ ?_; refine blk_put (cs := #[.int .i64 x261000_3, .slice none 0 0]) ?_ 0 _ rfl; refine cO_ ?_; exact BK260.out) Try.underlying26 rfl (by kernel_rfl)) rfl ?_
        exact ⟨_, ce_, q11_0, cB3_ GE260.out GE278.out GE280.out⟩
       subst c52
       rw [if_pos rfl] at H
       have c53b0 := eq_true (of_decide_eq_true ca_ : 0 ≤ a2)
       have c54b0 := eq_true (of_decide_eq_true ca_ : a2 ≤ (((rd_T42 l1 x70_3).f0).length : Int))
       obtain ⟨y290, hy_⟩ : ∃ y_ : List Int, y_ = (((rd_T42 l1 x70_3).f0).drop (a2 : Int).toNat) := ⟨_, rfl⟩
       replace H : ((cat2.f ((rd_T42 l0 x64_2).f0) y290).bind fun t298 => (if x8_3.length < 4398046511104 then (impl_JoinSets.l1 k3 l1 a2 (x8_3 ++ [(⟨t298, t288⟩ : S42)]) l0 (l0.length : Int) x64_2 l1 (l1.length : Int) (wrap64 (x70_3 + 1)) ((rd_T42 l0 x64_2).f0) ((rd_T42 l0 x64_2).f1)) else (none))) = some (r1, r2) := yb_
       have Ny290 := Aside0.mk hy_
       clear hy_
       obtain ⟨y295, hy_⟩ : ∃ y_ : List Int, y_ = (([0, 0] : List Int)) := ⟨_, rfl⟩
       replace H : ((cat2.f ((rd_T42 l0 x64_2).f0) y290).bind fun t298 => (if x8_3.length < 4398046511104 then (impl_JoinSets.l1 k3 l1 a2 (x8_3 ++ [(⟨t298, t288⟩ : S42)]) l0 (l0.length : Int) x64_2 l1 (l1.length : Int) (wrap64 (x70_3 + 1)) ((rd_T42 l0 x64_2).f0) ((rd_T42 l0 x64_2).f1)) else (none))) = some (r1, r2) := yb_
       have Ny295 := Aside0.mk hy_
       clear hy_
       obtain ⟨t298, A55, H⟩ := bnd_ H
       try dsimp only at H
       by_cases c56 : x8_3.length < 4398046511104
       rotate_left
       ·rw [if_neg c56] at H
        exact absurd H (by simp)
       rw [if_pos c56] at H
       have LMc56 := Aside0.mk c56
       clear c56
       obtain ⟨y301, hy_⟩ : ∃ y_ : List (S42), y_ = (x8_3 ++ [(⟨t298, t288⟩ : S42)]) := ⟨_, rfl⟩
       replace H : (impl_JoinSets.l1 k3 l1 a2 y301 l0 (l0.length : Int) x64_2 l1 (l1.length : Int) (wrap64 (x70_3 + 1)) ((rd_T42 l0 x64_2).f0) ((rd_T42 l0 x64_2).f1)) = some (r1, r2) := yb_
       have Ny301 := Aside0.mk hy_
       clear hy_
       have H' := Aside0.mk H
       clear H
       have p279 : 0 ≤ (x70_3 : Int) := cd_
       have q279 : x70_3 < (l1.length : Int) := cd_
       obtain ⟨ad279, A279_0, c279_0, e279, hx279_0, hx279_1, hl279_0, hi279_0⟩ := at_T42 (Kd.V_reads' HO_68.out).2.2 x70_3 p279 q279
       cases e279
       obtain ⟨ce279, hce279, hMe279, hcc279⟩ := Kd.V_get HO_68.out z42 x70_3 p279 (by first | exact q279 | exact of_decide_eq_true ca_ | (have e_ := (Kd.V_reads' HO_68.out).1; omega))
       obtain ⟨ua279_0, uc279_0, rfl, ul279_0, ge279_0⟩ := k42_openF hMe279
       have hv279_0 := hcc279 0 _ rfl
       rw [Nat.add_zero] at hv279_0
       replace hv279_0 := Option.some.inj (hv279_0.symm.trans hx279_0)
       injection hv279_0 with hva_ hvn_ hvc_
       rw [hva_] at ge279_0
       rw [hvc_] at ul279_0
       have HL279_0 := Aside0.mk (show Kd.V (Kd.int .i64) 2 _ w.heap.size _ _ ((rd_T42 l1 x70_3).f0) from Kd.V_mk ul279_0 ge279_0)
       clear hva_ hvn_ hvc_ ge279_0 ul279_0
       clear hcc279 hce279
       have HR279_0 := Aside0.mk hi279_0
       have HC279_0 := Aside0.mk hl279_0
       clear hi279_0 hl279_0
       replace p279 := eq_true p279
       replace q279 := eq_true q279
       try go_wp2_with (first | ((with_reducible refine gate_dst (N := 12) rfl ?_); (try (refine gate_guard (by rfl) ?_; dsimp only)); refine box_event ?hg (N := 12) ?hd (cs := #[.slice none 0 0, .int .i64 0]) (t := 42) ?hr ?_; (case hd => rfl); (case hg => rfl); (case hr => first | (go_simp; done) | (go_simp; rfl)); intro gb280 hg w57 hbox hb; replace HO_1 := Aside0.mk (Kd.V_below (Kd.V_elderB b11_6 gb280 (Nat.le_of_eq hg.symm)) hb); replace HO_8 := Aside0.mk (Kd.N_below (Kd.N_elderB b11_8 gb280 (Nat.le_of_eq hg.symm)) hb); replace HO_62 := Aside0.mk (Kd.V_below (Kd.V_elderB b11_9 gb280 (Nat.le_of_eq hg.symm)) hb); replace HO_68 := Aside0.mk (Kd.V_below (Kd.V_elderB (cV_ HO_68.out) gb280 (Nat.le_of_eq hg.symm)) hb); replace HL279_0 := Aside0.mk (Kd.V_below (Kd.V_elderB b11_14 gb280 (Nat.le_of_eq hg.symm)) hb); replace HR279_0 := Aside0.mk (Kd.C_below (by repeat (first | (with_reducible exact HR279_0.out) | (with_reducible refine Kd.C_alloc ?_ _) | (with_reducible refine Kd.C_drewN ?_ _) | (with_reducible refine Kd.C_drew ?_) | exact HR279_0.out)) hb); have BK280 := Aside0.mk (hbox); have GW280 := Aside0.mk ((by rw [hg]; exact (below_size b11_5) : w.heap.size ≤ gb280)); have GE280 := Aside0.mk ((by rw [hg]; exact (below_size b11_5) : w.heap.size ≤ gb280)); replace HB := Aside0.mk (below_step b11_5 hb); have NB260_280 := Aside0.mk ((by rw [hg]; exact Nat.ne_of_lt (blk_lt (g := gb260) (o := .cells #[.int .i64 x261000_3, .slice none 0 0] 26 (0, 0)) b11_0) : gb260 ≠ gb280)); have NB280_260 := Aside0.mk ((by rw [hg]; exact Nat.ne_of_gt (blk_lt (g := gb260) (o := .cells #[.int .i64 x261000_3, .slice none 0 0] 26 (0, 0)) b11_0) : gb280 ≠ gb260)); replace BK260 := Aside0.mk (blk_below (g := gb260) (o := .cells #[.int .i64 x261000_3, .slice none 0 0] 26 (0, 0)) b11_0 hb); have NB278_280 := Aside0.mk ((by rw [hg]; exact Nat.ne_of_lt (blk_lt (g := gb278) (o := .cells #[.slice A277_0 ((rd_T42 l0 x64_2).f0).length c277_0, .int .i64 ((rd_T42 l0 x64_2).f1)] 42 (0, 0)) b11_3) : gb278 ≠ gb280)); have NB280_278 := Aside0.mk ((by rw [hg]; exact Nat.ne_of_gt (blk_lt (g := gb278) (o := .cells #[.slice A277_0 ((rd_T42 l0 x64_2).f0).length c277_0, .int .i64 ((rd_T42 l0 x64_2).f1)] 42 (0, 0)) b11_3) : gb280 ≠ gb278)); replace BK278 := Aside0.mk (blk_below (g := gb278) (o := .cells #[.slice A277_0 ((rd_T42 l0 x64_2).f0).length c277_0, .int .i64 ((rd_T42 l0 x64_2).f1)] 42 (0, 0)) b11_3 hb); clear hb hbox hg; have hnb58 := NB280_260.out; have hnc58 := NB260_280.out; have hnb59 := NB280_278.out; have hnc59 := NB278_280.out; obtain ⟨hcz60_0, hcz60_1, hfz60_0, hfz60_1⟩ := cells2 BK280.out))
       have n0_ : Aside0 (Kd.V k42 42 ((w57.setCell ⟨gb280, 0, none⟩ (.slice A279_0 ((rd_T42 l1 x70_3).f0).length c279_0)).setCell ⟨gb280, 1, none⟩ (.int .i64 ((rd_T42 l1 x70_3).f1))) w.heap.size (fun k_ => ((k_ < w.heap.size ∨ k_ < w.heap.size) ∨ w.heap.size ≤ k_) ∧ some k_ ≠ (u8 : Value).ownBlock ∧ k_ ≠ gb260 ∧ k_ ≠ gb278 ∧ k_ ≠ gb280) (.slice (some ad279) l1.length c1) l1) := ⟨by refine cV_ ?_; exact Kd.V_mono (Kd.V_far (p := ⟨gb280, 1, none⟩) (Kd.V_far (p := ⟨gb280, 0, none⟩) (Kd.V_mono HO_1.out (fun k_ hk => (⟨hk, hk.2⟩ : _ ∧ k_ ≠ gb280))) (fun _ hk => hk.2) (.slice A279_0 ((rd_T42 l1 x70_3).f0).length c279_0)) (fun _ hk => hk.2) (.int .i64 ((rd_T42 l1 x70_3).f1))) (fun _ hk => ⟨hk.1.1.1, ⟨hk.1.1.2.1, ⟨hk.1.1.2.2.1, ⟨hk.1.1.2.2.2, hk.1.2⟩⟩⟩⟩)⟩
       have n1_ : Aside0 (Kd.N k42 42 ((w57.setCell ⟨gb280, 0, none⟩ (.slice A279_0 ((rd_T42 l1 x70_3).f0).length c279_0)).setCell ⟨gb280, 1, none⟩ (.int .i64 ((rd_T42 l1 x70_3).f1))) w.heap.size (fun k_ => ((k_ < w.heap.size ∨ k_ < w.heap.size) ∨ w.heap.size ≤ k_) ∧ k_ ≠ gb260 ∧ k_ ≠ gb278 ∧ k_ ≠ gb280) u8 x8_3) := ⟨by refine cN_ ?_; exact Kd.N_mono (Kd.N_far (p := ⟨gb280, 1, none⟩) (Kd.N_far (p := ⟨gb280, 0, none⟩) (Kd.N_mono HO_8.out (fun k_ hk => (⟨hk, hk.2⟩ : _ ∧ k_ ≠ gb280))) (fun _ hk => hk.2) (.slice A279_0 ((rd_T42 l1 x70_3).f0).length c279_0)) (fun _ hk => hk.2) (.int .i64 ((rd_T42 l1 x70_3).f1))) (fun _ hk => ⟨hk.1.1.1, ⟨hk.1.1.2.1, ⟨hk.1.1.2.2, hk.1.2⟩⟩⟩)⟩
       have n2_ : Aside0 (Kd.V k42 42 ((w57.setCell ⟨gb280, 0, none⟩ (.slice A279_0 ((rd_T42 l1 x70_3).f0).length c279_0)).setCell ⟨gb280, 1, none⟩ (.int .i64 ((rd_T42 l1 x70_3).f1))) w.heap.size (fun k_ => ((k_ < w.heap.size ∨ k_ < w.heap.size) ∨ w.heap.size ≤ k_) ∧ some k_ ≠ (u8 : Value).ownBlock ∧ k_ ≠ gb260 ∧ k_ ≠ gb278 ∧ k_ ≠ gb280) (.slice (some ad277) l0.length c0) l0) := ⟨by refine cV_ ?_; exact Kd.V_mono (Kd.V_far (p := ⟨gb280, 1, none⟩) (Kd.V_far (p := ⟨gb280, 0, none⟩) (Kd.V_mono HO_62.out (fun k_ hk => (⟨hk, hk.2⟩ : _ ∧ k_ ≠ gb280))) (fun _ hk => hk.2) (.slice A279_0 ((rd_T42 l1 x70_3).f0).length c279_0)) (fun _ hk => hk.2) (.int .i64 ((rd_T42 l1 x70_3).f1))) (fun _ hk => ⟨hk.1.1.1, ⟨hk.1.1.2.1, ⟨hk.1.1.2.2.1, ⟨hk.1.1.2.2.2, hk.1.2⟩⟩⟩⟩)⟩
       have n3_ : Aside0 (Kd.V k42 42 ((w57.setCell ⟨gb280, 0, none⟩ (.slice A279_0 ((rd_T42 l1 x70_3).f0).length c279_0)).setCell ⟨gb280, 1, none⟩ (.int .i64 ((rd_T42 l1 x70_3).f1))) w.heap.size (fun k_ => ((k_ < w.heap.size ∨ k_ < w.heap.size) ∨ w.heap.size ≤ k_) ∧ some k_ ≠ (u8 : Value).ownBlock ∧ k_ ≠ gb260 ∧ k_ ≠ gb278 ∧ k_ ≠ gb280) (.slice (some ad279) l1.length c1) l1) := ⟨by refine cV_ ?_; exact Kd.V_mono (Kd.V_far (p := ⟨gb280, 1, none⟩) (Kd.V_far (p := ⟨gb280, 0, none⟩) (Kd.V_mono HO_68.out (fun k_ hk => (⟨hk, hk.2⟩ : _ ∧ k_ ≠ gb280))) (fun _ hk => hk.2) (.slice A279_0 ((rd_T42 l1 x70_3).f0).length c279_0)) (fun _ hk => hk.2) (.int .i64 ((rd_T42 l1 x70_3).f1))) (fun _ hk => ⟨hk.1.1.1, ⟨hk.1.1.2.1, ⟨hk.1.1.2.2.1, ⟨hk.1.1.2.2.2, hk.1.2⟩⟩⟩⟩)⟩
       have n4_ : Aside0 (Kd.V (Kd.int .i64) 2 ((w57.setCell ⟨gb280, 0, none⟩ (.slice A279_0 ((rd_T42 l1 x70_3).f0).length c279_0)).setCell ⟨gb280, 1, none⟩ (.int .i64 ((rd_T42 l1 x70_3).f1))) w.heap.size (fun k_ => ((k_ < w.heap.size ∨ k_ < w.heap.size) ∨ w.heap.size ≤ k_) ∧ some k_ ≠ (u8 : Value).ownBlock ∧ k_ ≠ gb260 ∧ k_ ≠ gb278 ∧ k_ ≠ gb280) (.slice A279_0 ((rd_T42 l1 x70_3).f0).length c279_0) ((rd_T42 l1 x70_3).f0)) := ⟨by refine cV_ ?_; exact Kd.V_mono (Kd.V_far (p := ⟨gb280, 1, none⟩) (Kd.V_far (p := ⟨gb280, 0, none⟩) (Kd.V_mono HL279_0.out (fun k_ hk => (⟨hk, hk.2⟩ : _ ∧ k_ ≠ gb280))) (fun _ hk => hk.2) (.slice A279_0 ((rd_T42 l1 x70_3).f0).length c279_0)) (fun _ hk => hk.2) (.int .i64 ((rd_T42 l1 x70_3).f1))) (fun _ hk => ⟨hk.1.1.1, ⟨hk.1.1.2.1, ⟨hk.1.1.2.2.1, ⟨hk.1.1.2.2.2, hk.1.2⟩⟩⟩⟩)⟩
       have n5_ : Aside0 (((w57.setCell ⟨gb280, 0, none⟩ (.slice A279_0 ((rd_T42 l1 x70_3).f0).length c279_0)).setCell ⟨gb280, 1, none⟩ (.int .i64 ((rd_T42 l1 x70_3).f1))).heap[gb260]? = some (.cells #[.int .i64 x261000_3, .slice none 0 0] 26 (0, 0))) := ⟨by refine cO_ ?_; refine blk_far ?_ NB260_280.out _; refine cO_ ?_; refine blk_far ?_ NB260_280.out _; refine cO_ ?_; exact BK260.out⟩
       have n6_ : Aside0 (((w57.setCell ⟨gb280, 0, none⟩ (.slice A279_0 ((rd_T42 l1 x70_3).f0).length c279_0)).setCell ⟨gb280, 1, none⟩ (.int .i64 ((rd_T42 l1 x70_3).f1))).heap[gb278]? = some (.cells #[.slice A277_0 ((rd_T42 l0 x64_2).f0).length c277_0, .int .i64 ((rd_T42 l0 x64_2).f1)] 42 (0, 0))) := ⟨by refine cO_ ?_; refine blk_far ?_ NB278_280.out _; refine cO_ ?_; refine blk_far ?_ NB278_280.out _; refine cO_ ?_; exact BK278.out⟩
       have n7_ : Aside0 (((w57.setCell ⟨gb280, 0, none⟩ (.slice A279_0 ((rd_T42 l1 x70_3).f0).length c279_0)).setCell ⟨gb280, 1, none⟩ (.int .i64 ((rd_T42 l1 x70_3).f1))).heap[gb280]? = some (.cells #[.slice A279_0 ((rd_T42 l1 x70_3).f0).length c279_0, .int .i64 ((rd_T42 l1 x70_3).f1)] 42 (0, 0))) := ⟨by refine cO_ ?_; refine blk_put (cs := #[.slice A279_0 ((rd_T42 l1 x70_3).f0).length c279_0, .int .i64 0]) ?_ 1 _ rfl; refine cO_ ?_; refine blk_put (cs := #[.slice none 0 0, .int .i64 0]) ?_ 0 _ rfl; refine cO_ ?_; exact BK280.out⟩
       have n8_ : Aside0 (Below w.heap.size w ((w57.setCell ⟨gb280, 0, none⟩ (.slice A279_0 ((rd_T42 l1 x70_3).f0).length c279_0)).setCell ⟨gb280, 1, none⟩ (.int .i64 ((rd_T42 l1 x70_3).f1)))) := ⟨cB3_ GE260.out GE278.out GE280.out⟩
       (try clear HO_1)
       (try clear HO_8)
       (try clear HO_62)
       (try clear HO_68)
       (try clear HL279_0)
       (try clear BK260)
       (try clear BK278)
       (try clear BK280)
       (try clear HB)
       generalize ((w57.setCell ⟨gb280, 0, none⟩ (.slice A279_0 ((rd_T42 l1 x70_3).f0).length c279_0)).setCell ⟨gb280, 1, none⟩ (.int .i64 ((rd_T42 l1 x70_3).f1))) = w61 at n0_ n1_ n2_ n3_ n4_ n5_ n6_ n7_ n8_ ⊢
       have HO_1 := n0_
       have HO_8 := n1_
       have HO_62 := n2_
       have HO_68 := n3_
       have HL279_0 := n4_
       have BK260 := n5_
       have BK278 := n6_
       have BK280 := n7_
       have HB := n8_
       clear n0_ n1_ n2_ n3_ n4_ n5_ n6_ n7_ n8_
       replace HO_1 := Aside0.mk (Kd.V_drew HO_1.out)
       replace HO_8 := Aside0.mk (Kd.N_drew HO_8.out)
       replace HO_62 := Aside0.mk (Kd.V_drew HO_62.out)
       replace HO_68 := Aside0.mk (Kd.V_drew HO_68.out)
       replace HL279_0 := Aside0.mk (Kd.V_drew HL279_0.out)
       replace BK260 := Aside0.mk (blk_drew BK260.out)
       replace BK278 := Aside0.mk (blk_drew BK278.out)
       replace BK280 := Aside0.mk (blk_drew BK280.out)
       replace HB := Aside0.mk (below_drew1 HB.out)
       obtain ⟨i063, hi063, _, hsz63, _⟩ := info_parts info2
       obtain ⟨hcut63, hA63, hC63⟩ := print_take_of (P := Try.prog) (Value.int .i64) 0 40 2 .i64 Try.underlying40 hi063 hsz63 A277_0 c277_0 ((rd_T42 l0 x64_2).f0) a2 (of_decide_eq_true ca_) (of_decide_eq_true ca_) HC277_0.out
       have HTL63 := Aside0.mk (show (((rd_T42 l0 x64_2).f0).take (a2 : Int).toNat).length = (a2 : Int).toNat from by have h1_ : a2 ≤ (((rd_T42 l0 x64_2).f0).length : Int) := (of_decide_eq_true ca_); rw [List.length_take]; omega)
       have HR281 := Aside0.mk (Kd.C_of_reads (h1 := fun _ => rfl) (hA63 _ (Kd.reads_of_C HRW277_0.out)))
       have HC281 := Aside0.mk hC63
       clear hA63 hC63 hi063 hsz63
       have q64 : (a2 : Int) ≤ ((((rd_T42 l1 x70_3).f0).length : Int) : Int) := cd_
       obtain ⟨i064, hi064, _, hsz64, _⟩ := info_parts info2
       have hroom64 : ((rd_T42 l1 x70_3).f0).length ≤ c279_0 := HC279_0.out
       have hC64 : Kd.F (Kd.int .i64) _ _ A279_0 ((rd_T42 l1 x70_3).f0).length ((rd_T42 l1 x70_3).f0) := (Kd.V_at (base := w.heap.size) HL279_0.out).2.2
       have hcut64 := cut_to (P := Try.prog) 40 2 .i64 Try.underlying40 hi064 A279_0 ((rd_T42 l1 x70_3).f0).length c279_0 a2 (of_decide_eq_true ca_) q64 hroom64
       have hr64 := Kd.F_take (m := (a2 : Int).toNat) hC64 (by omega)
       have hy64 : y282.length = (a2 : Int).toNat := (by rw [Ny282.out, List.length_take]; omega)
       rw [← Ny282.out] at hr64
       rw [← hy64] at hcut64
       have HO286 := Aside0.mk (show Kd.V (Kd.int .i64) 2 _ w.heap.size _ (.slice A279_0 y282.length c279_0) y282 from Kd.V_mk (by omega) hr64)
       have HC286 := Aside0.mk (show y282.length ≤ c279_0 from by omega)
       clear hr64 hC64 hroom64 hi064 hsz64
       have KY64 := Aside0.mk hy64
       clear hy64
       replace q64 := eq_true q64
       refine start_ (n := 10) (S := fun w' => w'.cell? ⟨gb278, 0, none⟩ = some (.slice A277_0 ((rd_T42 l0 x64_2).f0).length c277_0) ∧ w'.cell? ⟨gb278, 1, none⟩ = some (.int .i64 ((rd_T42 l0 x64_2).f1)) ∧ w'.cell? ⟨gb280, 0, none⟩ = some (.slice A279_0 ((rd_T42 l1 x70_3).f0).length c279_0) ∧ w'.cell? ⟨gb280, 1, none⟩ = some (.int .i64 ((rd_T42 l1 x70_3).f1))) (ds := []) (bl 10 0) (by kernel_rfl) rfl rfl ⟨(blk_cell BK278.out 0).trans rfl, (blk_cell BK278.out 1).trans rfl, (blk_cell BK280.out 0).trans rfl, (blk_cell BK280.out 1).trans rfl⟩ (fun hHeld => ?_); refine with_tabW impl_JoinSets.tab17 impl_JoinSets.bits17 (fun HT_ HW_ => ?_)
       generalize w61.drew = w62 at HO_1 HO_8 HO_62 HO_68 HL279_0 BK260 BK278 BK280 HB HO286 HR281 hHeld ⊢
       refine pv_ 0 74 (bl 10 1) ?_
       refine pv_ 2 76 (bl 10 5) ?_
       refine pv_ 4 78 (bl 10 21) ?_
       refine pv_ 6 80 (bl 10 85) ?_
       refine tv_ 1 75 (bl 10 87) rfl hHeld (fun w' s_ => by obtain ⟨s0, s1, s2, s3⟩ := s_; go_simp; with_reducible rfl) ?_
       refine pv_ 3 77 (bl 10 95) ?_
       refine tv_ 5 79 (bl 10 127) rfl hHeld (fun w' s_ => by obtain ⟨s0, s1, s2, s3⟩ := s_; go_simp; with_reducible rfl) ?_
       refine pv_ 7 81 (bl 10 255) ?_
       refine ov_ 8 82 (bl 10 511) (fun K hK => ?_)
       refine goes_ Try.func86 (by kernel_rfl) rfl #[.slice A277_0 (((rd_T42 l0 x64_2).f0).take (a2 : Int).toNat).length c277_0, .slice A279_0 y282.length c279_0] (by rfl) rfl rfl b11_12 ?_
       with_reducible refine (slices_Equal_int64_int64.calls k3 _ _ (((rd_T42 l0 x64_2).f0).take (a2 : Int).toNat) _ _ y282 true _ ?side1 ?side2 ?side3 ?side4 A49.out).mono ?_
       (case side1 => exact cC_ (Kd.C_below HR281.out HB.out))
       (case side2 => exact HC281.out)
       (case side3 => exact cC_ ((Kd.V_reads' HO286.out).2.2))
       (case side4 => exact (Kd.V_reads' HO286.out).2.1)
       rintro e w' ⟨rfl, ⟨nd, rfl⟩⟩
       refine ⟨_, rfl, ?_⟩
       refine hK.out _ _ ⟨(blk_cell BK278.out 0).trans rfl, (blk_cell BK278.out 1).trans rfl, (blk_cell BK280.out 0).trans rfl, (blk_cell BK280.out 1).trans rfl⟩ (fun hHeld => ?_)
       clear hK K
       refine nm_ (some 82) ?_
       refine pv_ 9 83 (bl 10 1023) ?_
       refine done_ (done_of HT_.out (by kernel_rfl)) ?_
       have hnb65 := NB278_260.out
       have hnc65 := NB260_278.out
       obtain ⟨hcz66_0, hcz66_1, hfz66_0, hfz66_1⟩ := cells2 BK278.out
       obtain ⟨hcz67_0, hcz67_1, hfz67_0, hfz67_1⟩ := cells2 BK280.out
       try go_wp2_with (first | (refine gl_ 87 (some 89) Try.func87 #[.int .i64 ((rd_T42 l0 x64_2).f1), .int .i64 ((rd_T42 l1 x70_3).f1)] ?_; (with_reducible refine (impl_mulWeight.calls k3 ((rd_T42 l0 x64_2).f1) ((rd_T42 l1 x70_3).f1) t288 true _ A51.out).mono ?_); rintro e w68 ⟨rfl, hb⟩; refine ⟨_, rfl, ?_⟩; replace HO_1 := Aside0.mk (Kd.V_below b11_6 hb); replace HO_8 := Aside0.mk (Kd.N_below b11_8 hb); replace HO_62 := Aside0.mk (Kd.V_below b11_9 hb); replace HO_68 := Aside0.mk (Kd.V_below (cV_ HO_68.out) hb); replace HL279_0 := Aside0.mk (Kd.V_below b11_14 hb); replace HO286 := Aside0.mk (Kd.V_below (cV_ HO286.out) hb); replace BK260 := Aside0.mk (blk_below (g := gb260) (o := .cells #[.int .i64 x261000_3, .slice none 0 0] 26 (0, 0)) b11_0 hb); replace BK278 := Aside0.mk (blk_below (g := gb278) (o := .cells #[.slice A277_0 ((rd_T42 l0 x64_2).f0).length c277_0, .int .i64 ((rd_T42 l0 x64_2).f1)] 42 (0, 0)) b11_3 hb); replace BK280 := Aside0.mk (blk_below (g := gb280) (o := .cells #[.slice A279_0 ((rd_T42 l1 x70_3).f0).length c279_0, .int .i64 ((rd_T42 l1 x70_3).f1)] 42 (0, 0)) (cO_ BK280.out) hb); replace HB := Aside0.mk (below_step b11_2 hb); (try clear hb); (try clear hb2); (try clear hk); (try clear hi)))
       replace HO_1 := Aside0.mk (Kd.V_drew HO_1.out)
       replace HO_8 := Aside0.mk (Kd.N_drew HO_8.out)
       replace HO_62 := Aside0.mk (Kd.V_drew HO_62.out)
       replace HO_68 := Aside0.mk (Kd.V_drew HO_68.out)
       replace HL279_0 := Aside0.mk (Kd.V_drew HL279_0.out)
       replace HO286 := Aside0.mk (Kd.V_drew HO286.out)
       replace BK260 := Aside0.mk (blk_drew BK260.out)
       replace BK278 := Aside0.mk (blk_drew BK278.out)
       replace BK280 := Aside0.mk (blk_drew BK280.out)
       replace HB := Aside0.mk (below_drew1 HB.out)
       have q70 : (a2 : Int) ≤ ((((rd_T42 l1 x70_3).f0).length : Int) : Int) := cd_
       obtain ⟨i070, hi070, _, hsz70, _⟩ := info_parts info2
       have hroom70 : ((rd_T42 l1 x70_3).f0).length ≤ c279_0 := HC279_0.out
       have hC70 : Kd.F (Kd.int .i64) _ _ A279_0 ((rd_T42 l1 x70_3).f0).length ((rd_T42 l1 x70_3).f0) := (Kd.V_at (base := w.heap.size) HL279_0.out).2.2
       have q070 : (0 : Int) ≤ (a2 : Int) := cd_
       have hcut70 := cut_from (P := Try.prog) 40 2 .i64 Try.underlying40 hi070 1 hsz70 A279_0 ((rd_T42 l1 x70_3).f0).length c279_0 a2 q070 q70
       have hr70 := Kd.F_cut (m := (a2 : Int).toNat) (c := c279_0) hC70 (by omega) hroom70
       obtain ⟨A70, hA70⟩ : ∃ A1, A1 = (if c279_0 = (a2 : Int).toNat then A279_0 else (A279_0 : Option Addr).map (·.add ((a2 : Int).toNat * 1))) := ⟨_, rfl⟩
       obtain ⟨c70, hc70⟩ : ∃ c1, c1 = c279_0 - (a2 : Int).toNat := ⟨_, rfl⟩
       have hy70 : y290.length = ((rd_T42 l1 x70_3).f0).length - (a2 : Int).toNat := (by rw [Ny290.out, List.length_drop] <;> omega)
       rw [show ((rd_T42 l1 x70_3).f0).drop (a2 : Int).toNat = y290 from Ny290.out.symm] at hr70
       replace hr70 : Kd.F (Kd.int .i64) _ _ A70 y290.length y290 := (by rw [hA70]; exact hr70)
       rw [← hy70, ← hA70, ← hc70] at hcut70
       have HO294 := Aside0.mk (show Kd.V (Kd.int .i64) 2 _ w.heap.size _ (.slice A70 y290.length c70) y290 from Kd.V_mk (by rw [hy70, hc70]; exact Nat.sub_le_sub_right hroom70 _) hr70)
       have HC294 := Aside0.mk (show y290.length ≤ c70 from by rw [hy70, hc70]; exact Nat.sub_le_sub_right hroom70 _)
       clear hr70 hC70 hroom70 hi070 hsz70 hc70
       have KY70 := Aside0.mk hy70
       have KA70 := Aside0.mk hA70
       clear hy70 hA70
       replace q70 := eq_true q70
       refine start_ (n := 14) (S := fun w' => w'.cell? ⟨gb278, 0, none⟩ = some (.slice A277_0 ((rd_T42 l0 x64_2).f0).length c277_0) ∧ w'.cell? ⟨gb278, 1, none⟩ = some (.int .i64 ((rd_T42 l0 x64_2).f1)) ∧ w'.cell? ⟨gb280, 0, none⟩ = some (.slice A279_0 ((rd_T42 l1 x70_3).f0).length c279_0) ∧ w'.cell? ⟨gb280, 1, none⟩ = some (.int .i64 ((rd_T42 l1 x70_3).f1))) (ds := []) (bl 14 0) (by kernel_rfl) rfl rfl ⟨(blk_cell BK278.out 0).trans rfl, (blk_cell BK278.out 1).trans rfl, (blk_cell BK280.out 0).trans rfl, (blk_cell BK280.out 1).trans rfl⟩ (fun hHeld => ?_); refine with_tabW impl_JoinSets.tab21 impl_JoinSets.bits21 (fun HT_ HW_ => ?_)
       generalize w68.drew = w69 at HO_1 HO_8 HO_62 HO_68 HL279_0 HO286 BK260 BK278 BK280 HB HO294 hHeld ⊢
       refine pv_ 0 95 (bl 14 1) ?_
       refine pv_ 1 96 (bl 14 3) ?_
       refine pv_ 3 98 (bl 14 11) ?_
       refine pv_ 5 100 (bl 14 43) ?_
       refine pv_ 9 104 (bl 14 555) ?_
       refine tv_ 2 97 (bl 14 559) rfl hHeld (fun w' s_ => by obtain ⟨s0, s1, s2, s3⟩ := s_; go_simp; with_reducible rfl) ?_
       refine tv_ 4 99 (bl 14 575) rfl hHeld (fun w' s_ => by obtain ⟨s0, s1, s2, s3⟩ := s_; go_simp; with_reducible rfl) ?_
       refine pv_ 6 101 (bl 14 639) ?_
       refine ov_ 7 102 (bl 14 767) (fun K hK => ?_)
       refine Kd.R_lit_step (Kd.raw 1) _ 40 ?hg (N := 102) ?hd (xs := ([[.slice A277_0 ((rd_T42 l0 x64_2).f0).length c277_0], [.slice A70 y290.length c70]] : List (List Value))) (inner := [.slice A277_0 ((rd_T42 l0 x64_2).f0).length c277_0, .slice A70 y290.length c70]) (ok := fun _ => True) (okp := fun _ => True) ?hr ?hp (fun _ hk => hk) trivial (Below.refl _ _) (Nat.le_refl _) (by simp) ?_; (case hd => rfl); (case hg => rfl); (case hr => first | (go_simp; done) | (go_simp; rfl)); (case hp => exact (Reps.one (show Kd.M (Kd.raw 1) _ _ _ [.slice A277_0 ((rd_T42 l0 x64_2).f0).length c277_0] [.slice A277_0 ((rd_T42 l0 x64_2).f0).length c277_0] from ⟨rfl, rfl, fun u_ hu_ => by simp at hu_; subst hu_; rfl⟩) (Reps.one (show Kd.M (Kd.raw 1) _ _ _ [.slice A70 y290.length c70] [.slice A70 y290.length c70] from ⟨rfl, rfl, fun u_ hu_ => by simp at hu_; subst hu_; rfl⟩) (Reps.none _ _))))
       intro v296 w71 ho72 hb hg_ hnew_
       clear hg_ hnew_
       skip
       replace HO_1 := Aside0.mk (Kd.V_elder' b11_6 (Kd.R_base ho72) hb)
       replace HO_8 := Aside0.mk (Kd.N_elder' b11_8 (Kd.R_base ho72) hb)
       replace HO_62 := Aside0.mk (Kd.V_elder' b11_9 (Kd.R_base ho72) hb)
       replace HO_68 := Aside0.mk (Kd.V_elder' (cV_ HO_68.out) (Kd.R_base ho72) hb)
       replace HL279_0 := Aside0.mk (Kd.V_elder' b11_14 (Kd.R_base ho72) hb)
       replace HO286 := Aside0.mk (Kd.V_elder' (cV_ HO286.out) (Kd.R_base ho72) hb)
       replace HO294 := Aside0.mk (Kd.V_elder' (cV_ HO294.out) (Kd.R_base ho72) hb)
       have HO297 := Aside0.mk (Kd.R_lower (Kd.R_newM (M := fun k_ => (w.heap.size ≤ k_)) ho72 (below_size b11_2) (fun k_ h_ => h_)) (below_size b11_2))
       replace BK260 := Aside0.mk (blk_below (g := gb260) (o := .cells #[.int .i64 x261000_3, .slice none 0 0] 26 (0, 0)) b11_0 hb)
       replace BK278 := Aside0.mk (blk_below (g := gb278) (o := .cells #[.slice A277_0 ((rd_T42 l0 x64_2).f0).length c277_0, .int .i64 ((rd_T42 l0 x64_2).f1)] 42 (0, 0)) b11_3 hb)
       replace BK280 := Aside0.mk (blk_below (g := gb280) (o := .cells #[.slice A279_0 ((rd_T42 l1 x70_3).f0).length c279_0, .int .i64 ((rd_T42 l1 x70_3).f1)] 42 (0, 0)) (cO_ BK280.out) hb)
       replace HB := Aside0.mk (below_step b11_2 hb)
       clear hb ho72
       refine hK.out _ _ ⟨(blk_cell BK278.out 0).trans rfl, (blk_cell BK278.out 1).trans rfl, (blk_cell BK280.out 0).trans rfl, (blk_cell BK280.out 1).trans rfl⟩ (fun hHeld => ?_)
       clear hK K
       refine nm_ (some 102) ?_
       refine ov_ 8 103 (bl 14 1023) (fun K hK => ?_)
       obtain ⟨gq_, cq_, eq_, _, _, _⟩ := Kd.R_form HO297.out (by simp)
       subst eq_
       have hcc_ := cat2.ok A55.out
       have HCL := Aside0.mk hcc_.1
       have HCQ := Aside0.mk hcc_.2
       clear hcc_
       refine goes_ Try.func88 (by kernel_rfl) rfl #[.slice (some ⟨gq_, 0, none⟩) 2 cq_] (by rfl) rfl rfl (by (try simp only [List.map_toArray, List.map_cons, List.map_nil]); first | done | rfl) ?_
       refine (Concat.concatI gq_ cq_ A277_0 A70 c277_0 c70 ((rd_T42 l0 x64_2).f0) y290 _ ?x0 ?x1 ?side1 ?side3 ?hn).mono ?_
       (case x0 => exact (by exact (Concat.lit0 (e := 40) (X := .slice A277_0 ((rd_T42 l0 x64_2).f0).length c277_0) (Y := .slice A70 y290.length c70) (cR_ HO297.out))))
       (case x1 => exact (by exact (Concat.lit1 (e := 40) (X := .slice A277_0 ((rd_T42 l0 x64_2).f0).length c277_0) (Y := .slice A70 y290.length c70) (cR_ HO297.out))))
       (case side1 => exact cC_ (Kd.C_below HRW277_0.out HB.out))
       (case side3 => exact cC_ ((Kd.V_reads' HO294.out).2.2))
       (case hn => exact co_ HCL.out)
       rintro e w73 ⟨v299, rfl, ho0, hb⟩
       refine ⟨_, rfl, ?_⟩
       rw [← HCQ.out] at ho0
       replace HO_1 := Aside0.mk (Kd.V_elder' b11_6 (Kd.R_base ho0) hb)
       replace HO_8 := Aside0.mk (Kd.N_elder' b11_8 (Kd.R_base ho0) hb)
       replace HO_62 := Aside0.mk (Kd.V_elder' b11_9 (Kd.R_base ho0) hb)
       replace HO_68 := Aside0.mk (Kd.V_elder' (cV_ HO_68.out) (Kd.R_base ho0) hb)
       replace HL279_0 := Aside0.mk (Kd.V_elder' b11_14 (Kd.R_base ho0) hb)
       replace HO286 := Aside0.mk (Kd.V_elder' (cV_ HO286.out) (Kd.R_base ho0) hb)
       replace HO294 := Aside0.mk (Kd.V_elder' (cV_ HO294.out) (Kd.R_base ho0) hb)
       have HO300 := Aside0.mk (Kd.R_lower (Kd.R_new' (Kd.R_newM (M := fun k_ => (w.heap.size ≤ k_)) ho0 (below_size b11_2) (fun k_ h_ => h_)) (Kd.R_lt (cR_ HO297.out))) (below_size b11_2))
       replace HO297 := Aside0.mk (Kd.R_elder' (cR_ HO297.out) (Kd.R_base ho0) hb)
       replace BK260 := Aside0.mk (blk_below (g := gb260) (o := .cells #[.int .i64 x261000_3, .slice none 0 0] 26 (0, 0)) b11_0 hb)
       replace BK278 := Aside0.mk (blk_below (g := gb278) (o := .cells #[.slice A277_0 ((rd_T42 l0 x64_2).f0).length c277_0, .int .i64 ((rd_T42 l0 x64_2).f1)] 42 (0, 0)) b11_3 hb)
       replace BK280 := Aside0.mk (blk_below (g := gb280) (o := .cells #[.slice A279_0 ((rd_T42 l1 x70_3).f0).length c279_0, .int .i64 ((rd_T42 l1 x70_3).f1)] 42 (0, 0)) (cO_ BK280.out) hb)
       replace HB := Aside0.mk (below_step b11_2 hb)
       (try clear hb)
       (try clear hb2)
       (try clear hk)
       (try clear hi)
       (try clear ho0)
       obtain ⟨Ao74, co74, eo74⟩ := Kd.R_slice HO300.out
       (first | subst eo74 | (injection eo74 with f1_ f2_ f3_; have f4_ := f1_.symm; have f5_ := f3_.symm; clear f1_ f2_ f3_; subst f4_; subst f5_))
       refine hK.out _ _ ⟨(blk_cell BK278.out 0).trans rfl, (blk_cell BK278.out 1).trans rfl, (blk_cell BK280.out 0).trans rfl, (blk_cell BK280.out 1).trans rfl⟩ (fun hHeld => ?_)
       clear hK K
       refine nm_ (some 103) ?_
       refine pv_ 10 105 (bl 14 2047) ?_
       refine ov_ 11 106 (bl 14 4095) (fun K hK => ?_)
       refine value_ (w1 := ?_) (v := ?_) (by rfl) rfl ?_ ?_
       rotate_left 2
       ·go_simp
        constructor
        ·rfl
        ·rfl
       refine hK.out _ _ ⟨(blk_cell (blk_alloc BK278.out _) 0).trans rfl, (blk_cell (blk_alloc BK278.out _) 1).trans rfl, (blk_cell (blk_alloc BK280.out _) 0).trans rfl, (blk_cell (blk_alloc BK280.out _) 1).trans rfl⟩ (fun hHeld => ?_)
       clear hK K
       refine nm_ (some 106) ?_
       refine ov_ 12 107 (bl 14 8191) (fun K hK => ?_)
       refine Kd.N_append_step k42 (w0 := w) w.heap.size (by rfl) (.tmp 95) (.tmp 106) 24 42 (.agg #[(.slice none 0 0), (.int .i64 0)]) 32 rfl Try.underlying24 info42 rfl (by decide) (by omega) u8 x8_3 (⟨t298, t288⟩ : S42) [.slice Ao74 t298.length co74, .int .i64 t288] (fun k_ => ((k_ < w.heap.size ∨ k_ < w.heap.size) ∨ w.heap.size ≤ k_) ∧ some k_ ≠ (.slice (some ⟨gq_, 0, none⟩) 2 cq_ : Value).ownBlock ∧ k_ ≠ gb260 ∧ k_ ≠ gb278 ∧ k_ ≠ gb280) (fun k_ => ((fun k_ => ((k_ < w.heap.size ∨ k_ < w.heap.size) ∨ w.heap.size ≤ k_) ∧ some k_ ≠ (.slice (some ⟨gq_, 0, none⟩) 2 cq_ : Value).ownBlock ∧ k_ ≠ gb260 ∧ k_ ≠ gb278 ∧ k_ ≠ gb280)) k_ ∧ some k_ ≠ (u8 : Value).ownBlock) rfl rfl ?aP (fun _ hk => hk) ?aF ?aO ?aB ?aS ?aL ?_
       (case aP => exact (by exact (k42_mkF _ _ (⟨t298, t288⟩ : S42) (Kd.R_reads' (Kd.R_mono (ok' := (fun k_ => ((fun k_ => ((k_ < w.heap.size ∨ k_ < w.heap.size) ∨ w.heap.size ≤ k_) ∧ some k_ ≠ (.slice (some ⟨gq_, 0, none⟩) 2 cq_ : Value).ownBlock ∧ k_ ≠ gb260 ∧ k_ ≠ gb278 ∧ k_ ≠ gb280)) k_ ∧ some k_ ≠ (u8 : Value).ownBlock)) (Kd.R_types (Kd.R_types (Kd.R_types (Kd.R_apart' (HO300.out) (Kd.N_typed HO_8.out) (by decide)) BK260.out (by decide)) BK278.out (by decide)) BK280.out (by decide)) (fun k_ hk => ⟨⟨(.inr (hk.1.1.1.1.1.1)), ⟨hk.1.1.1.1.2, ⟨hk.1.1.2, ⟨hk.1.2, hk.2⟩⟩⟩⟩, hk.1.1.1.2⟩))).2.1 (Kd.R_F (Kd.R_mono (ok' := (fun k_ => ((fun k_ => ((k_ < w.heap.size ∨ k_ < w.heap.size) ∨ w.heap.size ≤ k_) ∧ some k_ ≠ (.slice (some ⟨gq_, 0, none⟩) 2 cq_ : Value).ownBlock ∧ k_ ≠ gb260 ∧ k_ ≠ gb278 ∧ k_ ≠ gb280)) k_ ∧ some k_ ≠ (u8 : Value).ownBlock)) (Kd.R_types (Kd.R_types (Kd.R_types (Kd.R_apart' (HO300.out) (Kd.N_typed HO_8.out) (by decide)) BK260.out (by decide)) BK278.out (by decide)) BK280.out (by decide)) (fun k_ hk => ⟨⟨(.inr (hk.1.1.1.1.1.1)), ⟨hk.1.1.1.1.2, ⟨hk.1.1.2, ⟨hk.1.2, hk.2⟩⟩⟩⟩, hk.1.1.1.2⟩))))))
       (case aB => exact b11_2)
       (case aF => exact (by exact (fun k_ hk => ⟨(.inr (Nat.le_trans (below_size b11_2) hk)), Kd.fresh' (Kd.R_lt (cR_ HO297.out)) k_ hk, Kd.freshB (g := gb260) (o := .cells #[.int .i64 x261000_3, .slice none 0 0] 26 (0, 0)) b11_0 k_ hk, Kd.freshB (g := gb278) (o := .cells #[.slice A277_0 ((rd_T42 l0 x64_2).f0).length c277_0, .int .i64 ((rd_T42 l0 x64_2).f1)] 42 (0, 0)) b11_3 k_ hk, Kd.freshB (g := gb280) (o := .cells #[.slice A279_0 ((rd_T42 l1 x70_3).f0).length c279_0, .int .i64 ((rd_T42 l1 x70_3).f1)] 42 (0, 0)) (cO_ BK280.out) k_ hk⟩)))
       (case aO => exact (by exact (by refine cN_ ?_; exact Kd.N_mono HO_8.out (fun _ hk => ⟨hk.1.1.1, ⟨hk.1.2, ⟨hk.1.1.2.1, ⟨hk.1.1.2.2.1, hk.1.1.2.2.2⟩⟩⟩⟩))))
       (case aS => exact (by exact (below_size b11_2)))
       (case aL => exact co_ LMc56.out)
       intro v302 w75 ho hb hg hat
       rw [← Ny301.out] at ho
       replace HO_1 := Aside0.mk (Kd.V_afterv (ok := (fun k_ => ((k_ < w.heap.size ∨ k_ < w.heap.size) ∨ w.heap.size ≤ k_) ∧ some k_ ≠ (.slice (some ⟨gq_, 0, none⟩) 2 cq_ : Value).ownBlock ∧ some k_ ≠ (.slice Ao74 t298.length co74 : Value).ownBlock ∧ k_ ≠ gb260 ∧ k_ ≠ gb278 ∧ k_ ≠ gb280)) (by refine cV_ ?_; exact Kd.V_mono HO_1.out (fun _ hk => ⟨⟨hk.1.1.1, ⟨hk.1.2, ⟨hk.2, ⟨hk.1.1.2.2.1, ⟨hk.1.1.2.2.2.1, hk.1.1.2.2.2.2⟩⟩⟩⟩⟩, hk.1.1.2.1⟩)) hg hat)
       replace HO_62 := Aside0.mk (Kd.V_afterv (ok := (fun k_ => ((k_ < w.heap.size ∨ k_ < w.heap.size) ∨ w.heap.size ≤ k_) ∧ some k_ ≠ (.slice (some ⟨gq_, 0, none⟩) 2 cq_ : Value).ownBlock ∧ some k_ ≠ (.slice Ao74 t298.length co74 : Value).ownBlock ∧ k_ ≠ gb260 ∧ k_ ≠ gb278 ∧ k_ ≠ gb280)) (by refine cV_ ?_; exact Kd.V_mono HO_62.out (fun _ hk => ⟨⟨hk.1.1.1, ⟨hk.1.2, ⟨hk.2, ⟨hk.1.1.2.2.1, ⟨hk.1.1.2.2.2.1, hk.1.1.2.2.2.2⟩⟩⟩⟩⟩, hk.1.1.2.1⟩)) hg hat)
       replace HO_68 := Aside0.mk (Kd.V_afterv (ok := (fun k_ => ((k_ < w.heap.size ∨ k_ < w.heap.size) ∨ w.heap.size ≤ k_) ∧ some k_ ≠ (.slice (some ⟨gq_, 0, none⟩) 2 cq_ : Value).ownBlock ∧ some k_ ≠ (.slice Ao74 t298.length co74 : Value).ownBlock ∧ k_ ≠ gb260 ∧ k_ ≠ gb278 ∧ k_ ≠ gb280)) (by refine cV_ ?_; exact Kd.V_mono HO_68.out (fun _ hk => ⟨⟨hk.1.1.1, ⟨hk.1.2, ⟨hk.2, ⟨hk.1.1.2.2.1, ⟨hk.1.1.2.2.2.1, hk.1.1.2.2.2.2⟩⟩⟩⟩⟩, hk.1.1.2.1⟩)) hg hat)
       replace BK260 := Aside0.mk (blk_grown (g := gb260) (o := .cells #[.int .i64 x261000_3, .slice none 0 0] 26 (0, 0)) b11_0 hg (Kd.N_ne HO_8.out BK260.out (by decide)))
       replace BK278 := Aside0.mk (blk_grown (g := gb278) (o := .cells #[.slice A277_0 ((rd_T42 l0 x64_2).f0).length c277_0, .int .i64 ((rd_T42 l0 x64_2).f1)] 42 (0, 0)) b11_3 hg (Kd.N_away HO_8.out (fun _ hk => hk.1.1.2.2.1)))
       replace HL279_0 := Aside0.mk (Kd.V_afterv (ok := (fun k_ => ((k_ < w.heap.size ∨ k_ < w.heap.size) ∨ w.heap.size ≤ k_) ∧ some k_ ≠ (.slice (some ⟨gq_, 0, none⟩) 2 cq_ : Value).ownBlock ∧ some k_ ≠ (.slice Ao74 t298.length co74 : Value).ownBlock ∧ k_ ≠ gb260 ∧ k_ ≠ gb278 ∧ k_ ≠ gb280)) (by refine cV_ ?_; exact Kd.V_mono HL279_0.out (fun _ hk => ⟨⟨hk.1.1.1, ⟨hk.1.2, ⟨hk.2, ⟨hk.1.1.2.2.1, ⟨hk.1.1.2.2.2.1, hk.1.1.2.2.2.2⟩⟩⟩⟩⟩, hk.1.1.2.1⟩)) hg hat)
       replace BK280 := Aside0.mk (blk_grown (g := gb280) (o := .cells #[.slice A279_0 ((rd_T42 l1 x70_3).f0).length c279_0, .int .i64 ((rd_T42 l1 x70_3).f1)] 42 (0, 0)) (cO_ BK280.out) hg (Kd.N_away HO_8.out (fun _ hk => hk.1.1.2.2.2)))
       replace HO286 := Aside0.mk (Kd.V_afterv (ok := (fun k_ => ((k_ < w.heap.size ∨ k_ < w.heap.size) ∨ w.heap.size ≤ k_) ∧ some k_ ≠ (.slice (some ⟨gq_, 0, none⟩) 2 cq_ : Value).ownBlock ∧ some k_ ≠ (.slice Ao74 t298.length co74 : Value).ownBlock ∧ k_ ≠ gb260 ∧ k_ ≠ gb278 ∧ k_ ≠ gb280)) (by refine cV_ ?_; exact Kd.V_mono HO286.out (fun _ hk => ⟨⟨hk.1.1.1, ⟨hk.1.2, ⟨hk.2, ⟨hk.1.1.2.2.1, ⟨hk.1.1.2.2.2.1, hk.1.1.2.2.2.2⟩⟩⟩⟩⟩, hk.1.1.2.1⟩)) hg hat)
       replace HO294 := Aside0.mk (Kd.V_afterv (ok := (fun k_ => ((k_ < w.heap.size ∨ k_ < w.heap.size) ∨ w.heap.size ≤ k_) ∧ some k_ ≠ (.slice (some ⟨gq_, 0, none⟩) 2 cq_ : Value).ownBlock ∧ some k_ ≠ (.slice Ao74 t298.length co74 : Value).ownBlock ∧ k_ ≠ gb260 ∧ k_ ≠ gb278 ∧ k_ ≠ gb280)) (by refine cV_ ?_; exact Kd.V_mono HO294.out (fun _ hk => ⟨⟨hk.1.1.1, ⟨hk.1.2, ⟨hk.2, ⟨hk.1.1.2.2.1, ⟨hk.1.1.2.2.2.1, hk.1.1.2.2.2.2⟩⟩⟩⟩⟩, hk.1.1.2.1⟩)) hg hat)
       replace HO297 := Aside0.mk (Kd.R_over' (cR_ HO297.out) (Kd.N_typed b11_8) (by decide) hg)
       replace HB := Aside0.mk (hb)
       have HO303 := Aside0.mk (ho)
       clear HO_8
       clear HO300
       clear ho hb hg hat
       refine hK.out _ _ ⟨(blk_cell BK278.out 0).trans rfl, (blk_cell BK278.out 1).trans rfl, (blk_cell BK280.out 0).trans rfl, (blk_cell BK280.out 1).trans rfl⟩ (fun hHeld => ?_)
       clear hK K
       refine nm_ (some 107) ?_
       refine pv_ 13 8 (bl 14 16383) ?_
       refine done_ (done_of HT_.out (by kernel_rfl)) ?_
       try go_wp2
       go_roundg k3
       case measure => have := HJ6.out; have := HK2.out; have := HK3.out; omega
       case rel => exact ⟨(y301), (wrap64 (x70_3 + 1)), (x261000_3), cs_, H', ⟨q11_2⟩, ⟨by refine cV_ ?_; exact Kd.V_mono HO_1.out (fun _ hk => ⟨hk.1.1, ⟨hk.2, ⟨hk.1.2.2.2.1, hk.1.2.2.2.2.1⟩⟩⟩)⟩, ⟨by refine cN_ ?_; exact Kd.N_mono HO303.out (fun _ hk => ⟨hk.1, ⟨hk.2.2.1, hk.2.2.2.1⟩⟩)⟩, ⟨by refine cV_ ?_; exact Kd.V_mono HO_62.out (fun _ hk => ⟨hk.1.1, ⟨hk.2, ⟨hk.1.2.2.2.1, hk.1.2.2.2.2.1⟩⟩⟩)⟩, ⟨by refine cV_ ?_; exact Kd.V_mono HO_68.out (fun _ hk => ⟨hk.1.1, ⟨hk.2, ⟨hk.1.2.2.2.1, hk.1.2.2.2.2.1⟩⟩⟩)⟩, ⟨cO_ BK260.out⟩, ⟨cO_ BK278.out⟩, ⟨cB3_ GE260.out GE278.out GE280.out⟩⟩

end Go.Proofs.Ythgmicingbjemaa.PFnJoins
