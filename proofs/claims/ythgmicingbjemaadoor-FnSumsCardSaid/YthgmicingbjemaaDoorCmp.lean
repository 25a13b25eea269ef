/- Rows compared by the program's CompareRows and byRow, in whatever world; nothing is turned: draws, and blocks of the call's own. -/
import Derived.Test.YthgmicingbjemaaDoorProg
import Derived.Test.YthgmicingbjemaaDoorWWords
import Derived.Test.YthgmicingbjemaaDoorWLast
import Derived.Test.YthgmicingbjemaaDoorWMore
import Derived.Test.YthgmicingbjemaaDoorSum
import Derived.Test.YthgmicingbjemaaDoorSort
import Derived.Deep.Cut
set_option linter.unusedVariables false
namespace Go.Proofs.YthgmicingbjemaaDoor.Cmp
open Go.RowKit Go.Sort Go.Proofs.YthgmicingbjemaaDoorW.PrintWords Go.Proofs.YthgmicingbjemaaDoorW.PrintLast Go.Proofs.YthgmicingbjemaaDoor.Sum

/-- cmp.Compare at int64. -/
def c1 (x y : Int) : Int := if x < y then -1 else if y < x then 1 else 0
set_option maxHeartbeats 4000000 in
set_option maxRecDepth 100000 in
theorem compareInt (x y : Int) (w : World) : Calls Tryd.prog 44 #[.int .i64 x, .int .i64 y] w fun e w' => e = .returned (.int .i64 (c1 x y)) ∧ ∃ n, w' = w.drewN n := by
  have nx : (x != x) = false := bne_self_eq_false x
  have ny : (y != y) = false := bne_self_eq_false y
  by_cases h1 : x < y
  · have hc : c1 x y = -1 := by unfold c1; rw [if_pos h1]
    rw [hc]
    have d1 : decide (x < y) = true := decide_eq_true h1
    have d2 : decide (x > y) = false := decide_eq_false (by omega)
    go_enter Tryd.func44, Tryd.ntmps44
    go_wp2
    go_ret
    exact ⟨rfl, by first | exact ⟨0, rfl⟩ | exact ⟨_, rfl⟩⟩
  · by_cases h2 : y < x
    · have hc : c1 x y = 1 := by unfold c1; rw [if_neg h1, if_pos h2]
      rw [hc]
      have d1 : decide (x < y) = false := decide_eq_false h1
      have d2 : decide (x > y) = true := decide_eq_true h2
      go_enter Tryd.func44, Tryd.ntmps44
      go_wp2
      go_ret
      exact ⟨rfl, by first | exact ⟨0, rfl⟩ | exact ⟨_, rfl⟩⟩
    · have hc : c1 x y = 0 := by unfold c1; rw [if_neg h1, if_neg h2]
      rw [hc]
      have d1 : decide (x < y) = false := decide_eq_false h1
      have d2 : decide (x > y) = false := decide_eq_false h2
      go_enter Tryd.func44, Tryd.ntmps44
      go_wp2
      go_ret
      exact ⟨rfl, by first | exact ⟨0, rfl⟩ | exact ⟨_, rfl⟩⟩
set_option maxHeartbeats 4000000 in
set_option maxRecDepth 100000 in
theorem compareLen (x y : Int) (w : World) : Calls Tryd.prog 45 #[.int .i64 x, .int .i64 y] w fun e w' => e = .returned (.int .i64 (c1 x y)) ∧ ∃ n, w' = w.drewN n := by
  have nx : (x != x) = false := bne_self_eq_false x
  have ny : (y != y) = false := bne_self_eq_false y
  by_cases h1 : x < y
  · have hc : c1 x y = -1 := by unfold c1; rw [if_pos h1]
    rw [hc]
    have d1 : decide (x < y) = true := decide_eq_true h1
    have d2 : decide (x > y) = false := decide_eq_false (by omega)
    go_enter Tryd.func45, Tryd.ntmps45
    go_wp2
    go_ret
    exact ⟨rfl, by first | exact ⟨0, rfl⟩ | exact ⟨_, rfl⟩⟩
  · by_cases h2 : y < x
    · have hc : c1 x y = 1 := by unfold c1; rw [if_neg h1, if_pos h2]
      rw [hc]
      have d1 : decide (x < y) = false := decide_eq_false h1
      have d2 : decide (x > y) = true := decide_eq_true h2
      go_enter Tryd.func45, Tryd.ntmps45
      go_wp2
      go_ret
      exact ⟨rfl, by first | exact ⟨0, rfl⟩ | exact ⟨_, rfl⟩⟩
    · have hc : c1 x y = 0 := by unfold c1; rw [if_neg h1, if_neg h2]
      rw [hc]
      have d1 : decide (x < y) = false := decide_eq_false h1
      have d2 : decide (x > y) = false := decide_eq_false h2
      go_enter Tryd.func45, Tryd.ntmps45
      go_wp2
      go_ret
      exact ⟨rfl, by first | exact ⟨0, rfl⟩ | exact ⟨_, rfl⟩⟩
theorem cmp_step {l m : List Int} {i : Nat} (h0 : i < l.length) (h1 : i < m.length) : cmpR (l.drop i) (m.drop i) = if c1 l[i] m[i] = 0 then cmpR (l.drop (i + 1)) (m.drop (i + 1)) else c1 l[i] m[i] := by
  rw [List.drop_eq_getElem_cons h0, List.drop_eq_getElem_cons h1]
  unfold c1
  rw [cmpR]
  by_cases a : l[i] < m[i]
  · rw [if_pos a, if_pos a, if_neg (by decide)]
  · by_cases b : m[i] < l[i]
    · rw [if_neg a, if_pos b, if_neg a, if_pos b, if_neg (by decide)]
    · rw [if_neg a, if_neg b, if_neg a, if_neg b, if_pos rfl]
theorem cmp_end {l m : List Int} {i : Nat} (h : i = l.length ∨ i = m.length) (h0 : i ≤ l.length) (h1 : i ≤ m.length) : cmpR (l.drop i) (m.drop i) = c1 (l.length : Int) (m.length : Int) := by
  unfold c1
  rcases Nat.lt_trichotomy l.length m.length with c | c | c
  · obtain rfl : i = l.length := by omega
    rw [if_pos (by omega), List.drop_eq_nil_of_le (Nat.le_refl _), List.drop_eq_getElem_cons c]; rfl
  · rw [if_neg (by omega), if_neg (by omega), List.drop_eq_nil_of_le (by omega), List.drop_eq_nil_of_le (by omega)]; rfl
  · obtain rfl : i = m.length := by omega
    rw [if_neg (by omega), if_pos (by omega), List.drop_eq_nil_of_le (Nat.le_refl m.length), List.drop_eq_getElem_cons c]; rfl
theorem rd_at {l : List Int} {i : Nat} (h : i < l.length) : rd l (i : Int) = l[i] := by
  unfold rd
  rw [Int.toNat_natCast, List.getD_eq_getElem?_getD, List.getElem?_eq_getElem h, Option.getD_some]
set_option maxHeartbeats 8000000 in
set_option maxRecDepth 100000 in
/-- impl.CompareRows tells how two rows stand; it draws and nothing else. -/
theorem compareRows (A0 : Option Addr) (k0 : Nat) (l0 : List Int) (A1 : Option Addr) (k1 : Nat) (l1 : List Int) (w : World) (hr0 : Kd.C (Kd.int .i64) w A0 l0.length l0) (hc0 : l0.length ≤ k0) (hr1 : Kd.C (Kd.int .i64) w A1 l1.length l1) (hc1 : l1.length ≤ k1) :
    Calls Tryd.prog 26 #[.slice A0 l0.length k0, .slice A1 l1.length k1] w fun e w' => e = .returned (.int .i64 (cmpR l0 l1)) ∧ ∃ n, w' = w.drewN n := by
  have HR0 := Aside0.mk hr0
  have HR1 := Aside0.mk hr1
  have hm0 : l0.length ≤ 9223372036854775807 := hr0.2.1
  have hm1 : l1.length ≤ 9223372036854775807 := hr1.2.1
  clear hr0 hc0 hr1 hc1
  obtain ⟨M, hM⟩ : ∃ M : Nat, M = min l0.length l1.length := ⟨_, rfl⟩
  have hM0 : M ≤ l0.length := by omega
  have hM1 : M ≤ l1.length := by omega
  have hME : M = l0.length ∨ M = l1.length := by omega
  have HME := Aside0.mk hME
  clear hME
  have hMz : min (l0.length : Int) (l1.length : Int) = (M : Int) := by omega
  have HM := Aside0.mk hM
  clear hM
  go_enter Tryd.func26, Tryd.ntmps26
  go_wp2
  clear hMz
  go_loopg [12] M (fun kx v12 wr => ∃ (i n : Nat), v12 = .int .i64 i ∧ i ≤ M ∧ M - i ≤ kx ∧ Aside0 (wr = w.drewN n) ∧ Aside0 (cmpR (l0.drop i) (l1.drop i) = cmpR l0 l1))
  case atStart => exact ⟨0, 0, rfl, by omega, by omega, ⟨rfl⟩, ⟨by simp⟩⟩
  case round =>
    obtain ⟨i, n, rfl, hi, hkx, HW, HC⟩ := hrel
    by_cases hlt : i < M
    · have hltz : (i : Int) < (M : Int) := by omega
      have h0 : i < l0.length := by omega
      have h1 : i < l1.length := by omega
      have z0 : (0 : Int) ≤ (i : Int) := by omega
      have z1 : (i : Int) < (l0.length : Int) := by omega
      have z2 : (i : Int) < (l1.length : Int) := by omega
      have st := cmp_step h0 h1
      obtain ⟨ad0, e0, hx0⟩ := Kd.at_int HR0.out (i : Int) z0 z1
      obtain ⟨ad1, e1, hx1⟩ := Kd.at_int HR1.out (i : Int) z0 z2
      rw [rd_at h0] at hx0
      rw [rd_at h1] at hx1
      obtain ⟨x0, hx0e⟩ : ∃ x, x = l0[i] := ⟨_, rfl⟩
      obtain ⟨x1, hx1e⟩ : ∃ x, x = l1[i] := ⟨_, rfl⟩
      rw [← hx0e] at hx0 st
      rw [← hx1e] at hx1 st
      clear hx0e hx1e
      have ST := Aside0.mk st
      clear st
      cases e0
      cases e1
      have hy0 : wr.cell? (ad0.add (i : Int).toNat) = some (.int .i64 x0) := by rw [HW.out]; exact hx0
      have hy1 : wr.cell? (ad1.add (i : Int).toNat) = some (.int .i64 x1) := by rw [HW.out]; exact hx1
      clear hx0 hx1
      rw [Int.toNat_natCast] at hy0 hy1
      by_cases hc : c1 x0 x1 = 0
      · have hcb : (c1 x0 x1 != 0) = false := bne_eq_false_iff_eq.mpr hc
        have HCC := Aside0.mk hc
        clear hc
        go_wp2_with fail
        go_quiet (first | (go_at_call 44; refine (compareInt x0 x1 _).mono ?_; rintro e w' ⟨rfl, nd, rfl⟩; exact ⟨rfl, _, World.drewN_drewN _ _ _⟩))
        go_wp2
        go_roundg (M - (i + 1))
        case measure => omega
        case rel =>
          refine ⟨i + 1, n + nq, by first | rfl | (simp; done), by omega, Nat.le_refl _, ⟨by rw [HW.out, World.drewN_drewN]⟩, ⟨?_⟩⟩
          rw [← HC.out, ST.out, if_pos HCC.out]
      · have hcb : (c1 x0 x1 != 0) = true := bne_iff_ne.mpr hc
        have HCC := Aside0.mk hc
        clear hc
        go_wp2_with fail
        go_quiet (first | (go_at_call 44; refine (compareInt x0 x1 _).mono ?_; rintro e w' ⟨rfl, nd, rfl⟩; exact ⟨rfl, _, World.drewN_drewN _ _ _⟩))
        go_wp2
        go_ret
        exact ⟨by rw [← HC.out, ST.out, if_neg HCC.out]; rfl, n + nq, by rw [HW.out, World.drewN_drewN]⟩
    · have hltz : ¬ (i : Int) < (M : Int) := by omega
      have hend := Aside0.mk (cmp_end (l := l0) (m := l1) (i := i) (by have := HME.out; omega) (by omega) (by omega))
      go_wp2_with (first | (go_at_call 45; refine (compareLen (l0.length : Int) (l1.length : Int) _).mono ?_; rintro e w' ⟨rfl, nd, rfl⟩))
      go_ret
      exact ⟨by rw [← HC.out, hend.out]; rfl, n + nd, by rw [HW.out, World.drewN_drewN]⟩
/-- impl.byRow: two blocks are laid. -/
theorem byRow (A0 : Option Addr) (k0 : Nat) (l0 : List Int) (x0 : Int) (A1 : Option Addr) (k1 : Nat) (l1 : List Int) (x1 : Int) (w : World) (hr0 : Kd.C (Kd.int .i64) w A0 l0.length l0) (hc0 : l0.length ≤ k0) (hr1 : Kd.C (Kd.int .i64) w A1 l1.length l1) (hc1 : l1.length ≤ k1) :
    Calls Tryd.prog 35 #[.agg #[.slice A0 l0.length k0, .int .i64 x0], .agg #[.slice A1 l1.length k1, .int .i64 x1]] w fun e w' => e = .returned (.int .i64 (cmpR l0 l1)) ∧ ∃ q os', w' = grow (w.drewN q) os' := by
  have hu := Tryd.underlying31
  have HR0 := Aside0.mk hr0
  have HR1 := Aside0.mk hr1
  have HC0 := Aside0.mk hc0
  have HC1 := Aside0.mk hc1
  clear hr0 hr1 hc0 hc1
  go_enter Tryd.func35, Tryd.ntmps35
  go_wp2_with (first | (go_at_call 26; refine (compareRows A0 k0 l0 A1 k1 l1 _ (Kd.C_alloc (Kd.C_alloc HR0.out _) _) HC0.out (Kd.C_alloc (Kd.C_alloc HR1.out _) _) HC1.out).mono ?_; rintro e w' ⟨rfl, nd, rfl⟩))
  go_ret
  refine ⟨rfl, nd, #[.cells #[.slice A0 l0.length k0, .int .i64 x0] 31, .cells #[.slice A1 l1.length k1, .int .i64 x1] 31], ?_⟩
  rw [alloc_eq_grow, alloc_eq_grow, grow_grow]
  rfl
end Go.Proofs.YthgmicingbjemaaDoor.Cmp
