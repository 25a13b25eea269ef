/- The table of the powers of ten, as the text lays it, stays as it is in every later world; numbers in decimal, and strings joined, by the library's contracts laid at this program. -/
import Derived.Test.YthgmicingbjemaaDoorShelf
import Derived.Test.YthgmicingbjemaaDoorWWords
import Derived.Lib.LaidTab
import Derived.Lib.AppendIntMem
set_option linter.unusedVariables false
namespace Go.Proofs.YthgmicingbjemaaDoor.Tab
open Go.RowKit Go.Proofs.YthgmicingbjemaaDoorW.PrintWords
/-- The table reads as the text lays it. -/
abbrev Tab (w : World) : Prop := Lib.TabIs Tryd.prog w "internal/strconv.uint64pow10" .u64 Lib.pow10Tab
theorem tabIs {w : World} (h : Tab w) : Lib.TabIs Tryd.prog w "internal/strconv.uint64pow10" .u64 Lib.pow10Tab := h
theorem tabB {w w1 : World} (h : Tab w) (hb : Below w.heap.size w w1) : Tab w1 := Lib.tabBelow_of_tabIs h _ hb
theorem below_grow (w : World) (k : Nat) (os : Array Obj) : Below w.heap.size w (Sort.grow (w.drewN k) os) := by
  refine ⟨rfl, rfl, rfl, ?_, fun j hj => ?_⟩
  · show w.heap.size ≤ (w.heap ++ os).size
    rw [Array.size_append]; omega
  · show (w.heap ++ os)[j]? = _
    rw [Array.getElem?_append_left hj]
theorem join_rows {w : World} {A : Option Addr} {c : Nat} {xs : List ByteArray} {sep : ByteArray} (hA : ∀ ad, A = some ad → ∃ g, ad = ⟨g, 0, none⟩) (hr : Kd.C Kd.string w A xs.length xs) (hc : xs.length ≤ c) (hN : xs.length ≤ 140737488355328) (hlen : (Lib.join (xs.map (·.data.toList)) sep.data.toList).length ≤ 140737488355328) :
    Calls Tryd.prog 29 #[.slice A xs.length c, .string sep] w fun e w' => e = .returned (.string ⟨(Lib.join (xs.map (·.data.toList)) sep.data.toList).toArray⟩) ∧ Below w.heap.size w w' := by
  rcases Nat.eq_zero_or_pos xs.length with h0 | hp
  · obtain rfl : xs = [] := List.eq_nil_of_length_eq_zero h0
    refine (Tryd.strings_Join_none A c sep w).mono ?_
    rintro e w' ⟨rfl, rfl⟩
    exact ⟨rfl, Below.refl _ _⟩
  · obtain ⟨ad, rfl, hcell⟩ := hr.2.2 hp
    obtain ⟨g, rfl⟩ := hA ad rfl
    have hcells : ∀ (j : Nat) x, xs[j]? = some x → w.cell? ⟨g, 0 + j, none⟩ = some (.string x) := by
      intro j x hx
      obtain ⟨cs, _, hk, hu⟩ := hcell j x hx
      have hk' : cs = [.string x] := hk
      subst hk'
      have := hu 0 _ rfl
      rw [add_plain] at this
      have e : j * Kd.string.sz + 0 = 0 + j := by show j * 1 + 0 = 0 + j; omega
      rwa [e] at this
    obtain ⟨x0, hx0⟩ : ∃ x0, xs[0]? = some x0 := ⟨_, List.getElem?_eq_getElem hp⟩
    exact Tryd.strings_Join g 0 c xs sep w hcells (World.block_lt_of_cell? w _ (hcells 0 x0 hx0)) hN hc hlen
end Go.Proofs.YthgmicingbjemaaDoor.Tab
