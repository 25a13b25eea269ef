/- The table of the powers of ten, as the text lays it, and that internal/bytealg.MaxLen holds some number, as they are in every later world; numbers in decimal, strings joined, and a string split, by the library's contracts laid at this program. -/
import Derived.Test.YteibdjkfkcckkaaGreatDoorShelf
import Derived.Test.YteibdjkfkcckkaaGreatDoorWWords
import Derived.Test.YteibdjkfkcckkaaGreatDoorWLast
import Derived.Lib.LaidTab
import Derived.Lib.AppendIntMem
set_option linter.unusedVariables false
namespace Go.Proofs.YteibdjkfkcckkaaGreatDoor.Tab
open Go.RowKit Go.Proofs.YteibdjkfkcckkaaGreatDoorW Go.Proofs.YteibdjkfkcckkaaGreatDoorW.PrintWords
/-- The table reads as the text lays it; MaxLen holds some number. -/
structure Tab (w : World) : Prop where
  tab : Lib.TabIs Tryz.prog w "internal/strconv.uint64pow10" .u64 Lib.pow10Tab
  most : ∃ m, w.cell? ⟨0, 0, none⟩ = some (.int .i64 m)
theorem tabIs {w : World} (h : Tab w) : Lib.TabIs Tryz.prog w "internal/strconv.uint64pow10" .u64 Lib.pow10Tab := h.tab
theorem tabB {w w1 : World} (h : Tab w) (hb : Below w.heap.size w w1) : Tab w1 := ⟨Lib.tabBelow_of_tabIs h.tab _ hb, by
  obtain ⟨m, hm⟩ := h.most
  exact ⟨m, pw_cell_below hb hm⟩⟩
theorem most_of {w : World} (h : w.ShapedOpen Tryz.prog) : ∃ m, w.cell? ⟨0, 0, none⟩ = some (.int .i64 m) := Tryz.laysM146.s1_3 w h
/-- One operation alone may come up now, and yields in this world: it is taken. -/
theorem lone_ {P : Program} {ops : Array Oper} {Q : Exit → Act → World → Prop} {md : Region.Mode} {S S' : World → Prop} {ds : List Nat} {i : Nat} {N : Option Tmp} {oi : Oper} {v : Value} {fuel : Nat} {l : Array Bool} {a : Act} {w : World} (l' : Array Bool) (hi : ops[i]? = some oi) (hN : oi.dst = N) (hc : PrintLast.readyB md ops l l' i = true)
    (hy : YieldsIf P ops S' oi v a) (hS : S' w) {a' : Act} (ha : a.put N v = a') (h : PrintLast.wpAnyLast P md ops Q S ds fuel l' a' w) : PrintLast.wpAnyLast P md ops Q S ds (fuel + 1) l a w := by
  subst ha
  subst hN
  simp only [PrintLast.readyB, Bool.and_eq_true, beq_iff_eq] at hc
  obtain ⟨h1, h2⟩ := hc
  subst h2
  refine PrintLast.wpAnyLast_all h1 (by simp) (fun j hj => ?_)
  rcases List.mem_singleton.1 hj with rfl
  exact hy.wpOp hi hS ⟨fun _ hS => hS, h⟩
theorem below_grow (w : World) (k : Nat) (os : Array Obj) : Below w.heap.size w (Sort.grow (w.drewN k) os) := by
  refine ⟨rfl, rfl, rfl, ?_, fun j hj => ?_⟩
  · show w.heap.size ≤ (w.heap ++ os).size
    rw [Array.size_append]; omega
  · show (w.heap ++ os)[j]? = _
    rw [Array.getElem?_append_left hj]
theorem join_rows {w : World} {A : Option Addr} {c : Nat} {xs : List ByteArray} {sep : ByteArray} (hA : ∀ ad, A = some ad → ∃ g, ad = ⟨g, 0, none⟩) (hr : Kd.C Kd.string w A xs.length xs) (hc : xs.length ≤ c) (hN : xs.length ≤ 140737488355328) (hlen : (Lib.join (xs.map (·.data.toList)) sep.data.toList).length ≤ 140737488355328) :
    Calls Tryz.prog 33 #[.slice A xs.length c, .string sep] w fun e w' => e = .returned (.string ⟨(Lib.join (xs.map (·.data.toList)) sep.data.toList).toArray⟩) ∧ Below w.heap.size w w' := by
  rcases Nat.eq_zero_or_pos xs.length with h0 | hp
  · obtain rfl : xs = [] := List.eq_nil_of_length_eq_zero h0
    refine (Tryz.strings_Join_none A c sep w).mono ?_
    rintro e w' ⟨rfl, rfl⟩
    exact ⟨rfl, Below.refl _ _⟩
  · obtain ⟨ad, rfl, hcell⟩ := hr.2.2 hp
    obtain ⟨g, rfl⟩ := hA ad rfl
    have hcells : ∀ (j : Nat) x, xs[j]? = some x → w.cell? ⟨g, 0 + j, none⟩ = some (.string x) := by
      intro j x hx
      obtain ⟨cs, _, hk, hu⟩ := hcell j x hx
      have hk' : cs = [.string x] := hk
      subst hk'
      have := hu 0 _ rfl
      rw [add_plain] at this
      have e : j * Kd.string.sz + 0 = 0 + j := by show j * 1 + 0 = 0 + j; omega
      rwa [e] at this
    obtain ⟨x0, hx0⟩ : ∃ x0, xs[0]? = some x0 := ⟨_, List.getElem?_eq_getElem hp⟩
    exact Tryz.strings_Join g 0 c xs sep w hcells (World.block_lt_of_cell? w _ (hcells 0 x0 hx0)) hN hc hlen
/-- strings.Split, the separator not empty: the pieces in a row of the call's own. -/
theorem split_rows {w : World} {s sep : ByteArray} (h : Tab w) (hs : s.size < 4294967281) (h1 : 1 ≤ sep.size) :
    Calls Tryz.prog 47 #[.string s, .string sep] w fun e w' => ∃ v0_ : Value, e = .returned v0_ ∧ Kd.R Kd.string 9 w' w.heap.size (fun _ => True) v0_ (Lib.splitB sep 0 (Lib.countB s sep) s) ∧ Below w.heap.size w w' := by
  obtain ⟨m, hm⟩ := h.most
  refine (Tryz.strings_Split s sep m w hs hm h1).mono ?_
  rintro e w' ⟨rfl, rfl⟩
  have hlen : (Lib.splitB sep 0 (Lib.countB s sep) s).length = Lib.countB s sep + 1 := Lib.splitB_all sep h1 0 _ s rfl
  have hcl := Lib.countB_le sep h1 s.size s (Nat.le_refl _)
  refine ⟨_, rfl, ⟨fun _ _ => trivial, (Lib.splitB sep 0 (Lib.countB s sep) s).map Value.string, ?_, ?_⟩, below_alloc (Below.refl _ _) _⟩
  · rw [hlen]
    have h2 := World.ownsRow_lit (base := w.heap.size) (e := 9) (size := 1) w ((Lib.splitB sep 0 (Lib.countB s sep) s).map Value.string).toArray (Lib.countB s sep + 1) (Nat.le_refl _) (by simp only [maxLen]; omega) (by simp [hlen])
    rw [List.toList_toArray] at h2
    exact h2
  · refine ⟨by rw [List.length_map]; exact (Nat.mul_one _).symm, fun j x hj => ?_⟩
    have e1 : (((Lib.splitB sep 0 (Lib.countB s sep) s).map Value.string).drop (j * 1)).take 1 = [.string x] := by
      rw [Nat.mul_one]
      have hlt : j < ((Lib.splitB sep 0 (Lib.countB s sep) s).map Value.string).length := by
        rw [List.length_map]; exact (List.getElem?_eq_some_iff.1 hj).1
      rw [List.drop_eq_getElem_cons hlt, List.take_succ_cons, List.take_zero]
      congr 1
      rw [List.getElem_map]
      exact congrArg _ (List.getElem?_eq_some_iff.1 hj).2
    show _ = _
    exact e1
end Go.Proofs.YteibdjkfkcckkaaGreatDoor.Tab
