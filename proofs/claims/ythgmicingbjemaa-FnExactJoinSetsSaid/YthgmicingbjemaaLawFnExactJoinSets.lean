-- Written by fprint, a program of this session, out of Lean's own print of the translation. Lean checks it.
import Derived.Test.YthgmicingbjemaaRows
import Derived.Test.YthgmicingbjemaaVFnExactJoinSets
import Derived.Test.YthgmicingbjemaaPureFnExactJoinSets
import Derived.Test.YthgmicingbjemaaOpen
import Derived.WalkKit
import Derived.ProofKit
import Derived.OpenShut
import Derived.ShutString
import Derived.ChangeOld
import Derived.Below
import Derived.SizedLaws
import Derived.Test.YthgmicingbjemaaWSized
namespace Go.Proofs.Ythgmicingbjemaa.fnExactJoinSets
open Go.ChangeShapes Go.WideShapes Go.ChangeAt Go.RowKit
open Go.ChangeMaps (open_string shut_string)
open Go.Proofs.Ythgmicingbjemaa.PFnExactJoinSets Go.Proofs.YthgmicingbjemaaW.PrintWords
set_option linter.unusedVariables false
theorem own : ownKnob Try.prog.godebug = none := by kernel_rfl
theorem laidOut : laidOutB Try.prog = true := by kernel_rfl
set_option maxRecDepth 100000 in
theorem opens_st64 : Opened.Opens Try.prog k64 64 (fun x : S64 => (fun l : List Int => l.length ≤ maxLen ∧ ∀ y ∈ l, (fun x : Int => (Lit.int .i64 x).wf = true) y) x.f0 ∧ (fun x : Int => (Lit.int .i64 x).wf = true) x.f1) := by
  intro H enc w fuel cs x h
  obtain ⟨xs, n, _, _, hl, hlen, hf⟩ := DataW.trod_struct Try.underlying64 h
  have hl' : cs.length = 2 := hl.trans (by kernel_rfl)
  obtain ⟨c0, c1, rfl⟩ : ∃ c0 c1, cs = [c0, c1] := by
    match cs, hl' with
    | [c0, c1], _ => exact ⟨c0, c1, rfl⟩
  have hlen' : xs.length = 2 := hlen
  have e0 : DataW.trod enc Try.prog w 0 (fun _ => true) true n 40 [c0] = xs[0]? := by
    have h_ := hf 0 _ rfl
    have hz : Try.prog.cellsOf 40 = 1 := by kernel_rfl
    simpa [hz] using h_
  rw [List.getElem?_eq_getElem (by omega)] at e0
  obtain ⟨y0, k0_, o0⟩ := (Opened.opens_slice (0 : Int) (t := 40) (e := 2) Try.underlying40 (by kernel_rfl) (Opened.opens_int (t := 2) Try.underlying2)) H enc w n _ _ e0
  have e1 : DataW.trod enc Try.prog w 0 (fun _ => true) true n 2 [c1] = xs[1]? := by
    have h_ := hf 1 _ rfl
    have hz : Try.prog.cellsOf 2 = 1 := by kernel_rfl
    simpa [hz] using h_
  rw [List.getElem?_eq_getElem (by omega)] at e1
  obtain ⟨y1, k1_, o1⟩ := (Opened.opens_int (t := 2) Try.underlying2) H enc w n _ _ e1
  exact ⟨⟨y0, y1⟩, ⟨[c0], [c1], rfl, k0_, k1_⟩, ⟨o0, o1⟩⟩
set_option maxRecDepth 100000 in
theorem lifted (os : Os) (started : os.Started) (H : Type) (enc : TypeId × Value → H) :
    ReturnsInHanded {} Try.checked os 9 .any (Rows.fnExactJoinSetsSpec.pre6 enc Try.prog Try.f9 Rows.fnExactJoinSetsRow.domain false) (Rows.fnExactJoinSetsSpec.post enc Try.prog Try.f9 false true false false) := by
  refine returnsInHanded_of_change_sized (C := Try.checked) own started (by kernel_rfl) Try.func9
    (ChangeSpec.witness6 (enc := enc) (C := Try.checked) false ⟨#[], #[.slice none 0 0, .slice none 0 0, .int .i64 0], []⟩ 8 (by kernel_rfl) (by kernel_rfl) (by kernel_rfl) (by kernel_rfl)) ?_
  intro W base args ds gs before hval0 hW hcnd hsz0 _
  have hsz : (DataW.weightsEach Try.prog (Try.f9.params.toList ++ Rows.fnExactJoinSetsSpec.plain.varTypes Try.prog) (ds ++ gs)).all (· ≤ reachBytes) = true := hsz0
  have hval : ∀ (j : Nat) t v, Try.f9.params[j]? = some t → args[j]? = some v → Value.okWide Try.prog W .any base t v := hval0
  have hW' := hW
  obtain ⟨p, q, hA0, hV, rfl, hfz, hnd⟩ := hW
  have hA : DataW.TrodAll enc Try.prog W 0 (fun _ => true) true Try.f9.params.toList args.toList ds p := hA0
  rw [Try.params9] at hA hval hsz
  obtain ⟨v0, vs0, d0, ds0, p0, q0, hargs, rfl, rfl, h0, r0⟩ := trodAll_cons hA
  obtain ⟨v1, vs1, d1, ds1, p1, q1, rfl, rfl, rfl, h1, r1⟩ := trodAll_cons r0
  obtain ⟨v2, vs2, d2, ds2, p2, q2, rfl, rfl, rfl, h2, r2⟩ := trodAll_cons r1
  obtain ⟨rfl, rfl, rfl⟩ := trodAll_nil r2
  obtain rfl : args = #[v0, v1, v2] := by cases args; simp_all
  obtain ⟨rfl, rfl⟩ := trodVars_none hV
  have k0 := h0
  have lt0 : ∀ x ∈ p0, x.block < W.heap.size := by obtain ⟨m, hm⟩ := k0; exact DataW.trod_lt m _ _ _ hm
  obtain ⟨b0, len0, cap0, rfl⟩ := okWide_slice Try.underlying22 (hval 0 22 v0 rfl rfl)
  have y0 : len0 * 32 ≤ 140737488351232 := by
    obtain ⟨fuel, hf⟩ := h0
    rcases Deep.open_slice Try.underlying22 hf with ⟨hcs, _⟩ | ⟨a, len, cap, m, n, D, Pl, hcs, _, hl, hm, hmm, hx, _⟩
    · simp [Value.cells] at hcs
      obtain ⟨rfl, rfl, rfl⟩ := hcs
      simp
    · simp [Value.cells] at hcs
      obtain ⟨rfl, rfl, rfl⟩ := hcs
      obtain ⟨hx, _⟩ := Prod.mk.inj hx
      subst hx
      have z := sized_slice hsz (j := 0) (t := 22) rfl rfl Try.underlying22
      rw [show Try.prog.bytesOf 64 = 32 from by kernel_rfl] at z
      simp only [List.length_map, List.length_range, reachBytes] at z
      have := Nat.mul_le_mul_right 32 (Nat.le_add_right len0 (m - len0))
      omega
  obtain ⟨l0, hK0, g0⟩ : ∃ l, (Kd.slice 64 k64).K W l [.slice b0 len0 cap0] ∧ (fun l : List (S64) => l.length ≤ maxLen ∧ ∀ y ∈ l, (fun x : S64 => (fun l : List Int => l.length ≤ maxLen ∧ ∀ y ∈ l, (fun x : Int => (Lit.int .i64 x).wf = true) y) x.f0 ∧ (fun x : Int => (Lit.int .i64 x).wf = true) x.f1) y) l := by
    obtain ⟨fuel, hf⟩ := h0
    exact (Opened.opens_slice (z64 : S64) (t := 22) (e := 64) Try.underlying22 (by kernel_rfl) opens_st64) H enc W fuel _ _ hf
  obtain ⟨A0_, c0_, e0_, hc0, hr0⟩ := hK0
  obtain ⟨rfl, rfl, rfl⟩ : b0 = A0_ ∧ len0 = l0.length ∧ cap0 = c0_ := by simpa using e0_
  have k1 := h1
  have lt1 : ∀ x ∈ p1, x.block < W.heap.size := by obtain ⟨m, hm⟩ := k1; exact DataW.trod_lt m _ _ _ hm
  obtain ⟨b1, len1, cap1, rfl⟩ := okWide_slice Try.underlying22 (hval 1 22 v1 rfl rfl)
  have y1 : len1 * 32 ≤ 140737488351232 := by
    obtain ⟨fuel, hf⟩ := h1
    rcases Deep.open_slice Try.underlying22 hf with ⟨hcs, _⟩ | ⟨a, len, cap, m, n, D, Pl, hcs, _, hl, hm, hmm, hx, _⟩
    · simp [Value.cells] at hcs
      obtain ⟨rfl, rfl, rfl⟩ := hcs
      simp
    · simp [Value.cells] at hcs
      obtain ⟨rfl, rfl, rfl⟩ := hcs
      obtain ⟨hx, _⟩ := Prod.mk.inj hx
      subst hx
      have z := sized_slice hsz (j := 1) (t := 22) rfl rfl Try.underlying22
      rw [show Try.prog.bytesOf 64 = 32 from by kernel_rfl] at z
      simp only [List.length_map, List.length_range, reachBytes] at z
      have := Nat.mul_le_mul_right 32 (Nat.le_add_right len1 (m - len1))
      omega
  obtain ⟨l1, hK1, g1⟩ : ∃ l, (Kd.slice 64 k64).K W l [.slice b1 len1 cap1] ∧ (fun l : List (S64) => l.length ≤ maxLen ∧ ∀ y ∈ l, (fun x : S64 => (fun l : List Int => l.length ≤ maxLen ∧ ∀ y ∈ l, (fun x : Int => (Lit.int .i64 x).wf = true) y) x.f0 ∧ (fun x : Int => (Lit.int .i64 x).wf = true) x.f1) y) l := by
    obtain ⟨fuel, hf⟩ := h1
    exact (Opened.opens_slice (z64 : S64) (t := 22) (e := 64) Try.underlying22 (by kernel_rfl) opens_st64) H enc W fuel _ _ hf
  obtain ⟨A1_, c1_, e1_, hc1, hr1⟩ := hK1
  obtain ⟨rfl, rfl, rfl⟩ : b1 = A1_ ∧ len1 = l1.length ∧ cap1 = c1_ := by simpa using e1_
  obtain ⟨a2, rfl, rfl, rfl, w2⟩ := open_int Try.underlying2 (hval 2 2 v2 rfl rfl) h2
  clear hA0 hval0 hsz0 hsz
  obtain ⟨k, h⟩ := Pure.FnExactJoinSets l0 l1 a2 g0 y0 g1 y1 w2
  refine (laws_FnExactJoinSets.calls k _ _ l0 _ _ l1 a2 true W hr0 hc0 hr1 hc1 h).mono fun e W' ⟨he, hd⟩ => ?_
  have bel : Below W.heap.size W W' := hd
  subst he
  exact ⟨_, rfl, _, _, _, [], _, [], hW', trodAll_mk1 (shut_bool Try.underlying4 _), (trodAll_cons_mk (Below.trod laidOut (by kernel_rfl) (of_decide_eq_true (by kernel_rfl)) k0 bel lt0) (trodAll_cons_mk (Below.trod laidOut (by kernel_rfl) (of_decide_eq_true (by kernel_rfl)) k1 bel lt1) (trodAll_cons_mk (shut_int Try.underlying2 w2) trodAll_mk0))), rfl, bel.frame _, fun h => by cases h⟩
theorem over : Rows.fnExactJoinSetsRow.holds Try.pinned (OpenSpec.ofChange Rows.fnExactJoinSetsSpec) :=
  OpenClaim.holds_of_wide 9 Try.f9 rfl rfl rfl rfl rfl rfl rfl ⟨rfl, rfl, rfl, rfl, rfl⟩ rfl rfl rfl rfl rfl (by kernel_rfl) Try.func9 (by kernel_rfl)
    (of_decide_eq_true (by kernel_rfl)) (by unfold Func.isWrapper; first | (rw [if_pos (by decide +kernel)]; kernel_rfl) | (rw [if_neg (by decide +kernel)]; exact ⟨rfl, rfl⟩))
    (fun os started H enc _ => lifted os started H enc)
theorem proved : Rows.FnExactJoinSetsSaid := over
#print axioms proved
end Go.Proofs.Ythgmicingbjemaa.fnExactJoinSets
namespace Go.Proofs.Ythgmicingbjemaa
/-- The row, under a short name, for the claim. -/
theorem fnExactJoinSets_holds : Rows.FnExactJoinSetsSaid := fnExactJoinSets.proved
end Go.Proofs.Ythgmicingbjemaa
