/- Lists of texts: slices.Index, slices.Delete, strings.IndexByte by the library's contracts laid at this program. -/
import Derived.Test.YteibdjkfkcckkaaGreatDoorTab
import Derived.Lib.RowBridge
set_option linter.unusedVariables false
namespace Go.Proofs.YteibdjkfkcckkaaGreatDoor.Text
open Go.RowKit Go.Proofs.YteibdjkfkcckkaaGreatDoorW Go.Proofs.YteibdjkfkcckkaaGreatDoorW.PrintWords
theorem cells_of {w : World} {g c : Nat} {xs : List ByteArray} (hr : Kd.C Kd.string w (some ⟨g, 0, none⟩) xs.length xs) : ∀ (j : Nat) x, xs[j]? = some x → w.cell? ⟨g, 0 + j, none⟩ = some (.string x) := by
  intro j x hx
  have hp : 0 < xs.length := by have := (List.getElem?_eq_some_iff.1 hx).1; omega
  obtain ⟨ad, e, hcell⟩ := hr.2.2 hp
  cases e
  obtain ⟨cs, _, hk, hu⟩ := hcell j x hx
  have hk' : cs = [.string x] := hk
  subst hk'
  have := hu 0 _ rfl
  rw [add_plain] at this
  have e : j * Kd.string.sz + 0 = 0 + j := by show j * 1 + 0 = 0 + j; omega
  rwa [e] at this
/-- slices.Index over texts. -/
theorem index_rows {w : World} {A : Option Addr} {c : Nat} {xs : List ByteArray} {x : ByteArray} (hA : ∀ ad, A = some ad → ∃ g, ad = ⟨g, 0, none⟩) (hr : Kd.C Kd.string w A xs.length xs) (hl : xs.length ≤ 9223372036854775807) :
    Calls Tryz.prog 49 #[.slice A xs.length c, .string x] w fun e w' => e = .returned (.int .i64 (Lib.idxOfS xs x)) ∧ Below w.heap.size w w' := by
  rcases Nat.eq_zero_or_pos xs.length with h0 | hp
  · obtain rfl : xs = [] := List.eq_nil_of_length_eq_zero h0
    refine (Tryz.slices_Index_string_empty A c x w).mono ?_
    rintro e w' ⟨rfl, rfl⟩
    exact ⟨rfl, Below.refl _ _⟩
  · obtain ⟨ad, rfl, hcell⟩ := hr.2.2 hp
    obtain ⟨g, rfl⟩ := hA ad rfl
    have hcells := cells_of (c := c) hr
    refine (Tryz.slices_Index_string g 0 xs.length c xs x w (Nat.le_refl _) hl (fun j hj => ?_)).mono ?_
    · rw [hcells j _ (List.getElem?_eq_getElem hj), List.getD_eq_getElem?_getD, List.getElem?_eq_getElem hj]; rfl
    · rintro e w' ⟨rfl, rfl⟩
      rw [List.take_length]
      exact ⟨rfl, Below.refl _ _⟩
theorem indexByte_rows (s : ByteArray) (c : Int) (w : World) :
    Calls Tryz.prog 50 #[.string s, .int .u8 c] w fun e w' => e = .returned (.int .i64 (Lib.indexByte s.data.toList c.toNat.toUInt8)) ∧ Below w.heap.size w w' := by
  refine (Tryz.strings_IndexByte s c w).mono ?_
  rintro e w' ⟨rfl, rfl⟩
  exact ⟨rfl, Below.refl _ _⟩
/-- slices.Delete over texts, of a row of one's own: the row it was, shorter. -/
theorem delete_rows {w : World} {base : Nat} {ok : Nat → Prop} {A : Option Addr} {c : Nat} {xs : List ByteArray} (HO : Kd.R Kd.string 9 w base ok (.slice A xs.length c) xs) (hp : 0 < xs.length) {i j : Nat} (hij : i ≤ j) (hj : j ≤ xs.length) :
    Calls Tryz.prog 51 #[.slice A xs.length c, .int .i64 i, .int .i64 j] w fun e w' => ∃ v0_ : Value, e = .returned v0_ ∧ Kd.R Kd.string 9 w' base ok v0_ (xs.take i ++ xs.drop j) ∧ w.grownBy w' (Value.slice A xs.length c).ownBlock := by
  obtain ⟨g, cap, he, hbase, hlt, _⟩ := Kd.R_form HO hp
  cases he
  have ho := Kd.own_of_R HO
  obtain ⟨hl, ho2⟩ := ho
  rcases ho2 with ⟨hv, _⟩ | ⟨g', cap', cur, hv, hb, hh, hnc, hcm, hcs, ht⟩
  · cases hv
  cases hv
  have hc : ∀ q, q < xs.length → w.cell? ⟨g, 0 + q, none⟩ = some (.string (xs.getD q ByteArray.empty)) := by
    intro q hq
    have h := (Kd.R_cell ByteArray.empty HO (q : Int) (by omega) (by omega)).1
    rw [Int.toNat_natCast] at h
    rw [Nat.zero_add, h]
    rfl
  have hf : ∀ q, q < xs.length → w.frozen? ⟨g, 0 + q, none⟩ = false := by
    intro q hq
    have h := (Kd.R_cell ByteArray.empty HO (q : Int) (by omega) (by omega)).2
    rw [Int.toNat_natCast] at h
    rw [Nat.zero_add, h]
  refine (Tryz.slices_Delete_string_cells g 0 xs.length c i j (fun q => xs.getD q ByteArray.empty) w hnc (by simpa [maxLen] using hcm) hij hj hc hf).mono ?_
  rintro e w' ⟨rfl, q, rfl⟩
  have hstrs : Lib.strsOf (fun q => xs.getD q ByteArray.empty) xs.length = xs.map (·.data.toList) := by
    apply List.ext_getElem?
    intro k
    unfold Lib.strsOf
    rw [List.getElem?_map, List.getElem?_map]
    by_cases hk : k < xs.length
    · rw [List.getElem?_range hk, List.getElem?_eq_getElem hk]
      simp [List.getD_eq_getElem?_getD, hk]
    · rw [List.getElem?_eq_none (by simpa using hk), List.getElem?_eq_none (by omega)]; rfl
  have hvs : (((Lib.strsOf (fun q => xs.getD q ByteArray.empty) xs.length).take i ++ (Lib.strsOf (fun q => xs.getD q ByteArray.empty) xs.length).drop j ++ List.replicate (j - i) []).map Go.Proofs.encStr) = encs Value.string (xs.take i ++ xs.drop j) ++ List.replicate (j - i) (Value.string ⟨#[]⟩) := by
    rw [hstrs, ← List.map_take, ← List.map_drop, ← List.map_append, List.map_append, List.map_map, encs]
    congr 1
    rw [List.map_replicate]
  rw [hvs]
  have hsz : (encs Value.string (xs.take i ++ xs.drop j)).length = xs.length - (j - i) := by
    rw [encs_length, List.length_append, List.length_take, List.length_drop]; omega
  have hlen : (encs Value.string (xs.take i ++ xs.drop j) ++ List.replicate (j - i) (Value.string ⟨#[]⟩)).length = xs.length := by
    rw [List.length_append, hsz, List.length_replicate]; omega
  obtain ⟨cur', hh', hs', ht'⟩ := setCells_row (encs Value.string (xs.take i ++ xs.drop j) ++ List.replicate (j - i) (Value.string ⟨#[]⟩)) 0 (w.drewN q) cur hh (by rw [hlen]; omega)
  refine ⟨_, rfl, Kd.R_of_own ⟨?_, .inr ⟨g, c, cur', ?_, hb, hh', ?_, hcm, ?_, ?_⟩⟩ (fun k hk => HO.1 k hk), ?_⟩
  · rw [encs_length]; omega
  · rw [List.length_append, List.length_take, List.length_drop]
    congr 1; omega
  · rw [List.length_append, List.length_take, List.length_drop]; omega
  · rw [hs']; exact hcs
  · rw [ht', List.take_zero, List.nil_append, List.append_assoc, List.take_append_of_le_length (by rw [encs_length]; omega), Nat.mul_one, List.take_of_length_le (by rw [encs_length]; omega)]
  · have hs := setCells_same g (encs Value.string (xs.take i ++ xs.drop j) ++ List.replicate (j - i) (Value.string ⟨#[]⟩)) 0 (w.drewN q)
    exact ⟨hs.1, hs.2.1, hs.2.2.1, by rw [hs.2.2.2]; exact Nat.le_refl _, fun k hk hne => by rw [setCells_far _ 0 k (fun e_ => hne (by rw [e_]; rfl))]; rfl⟩
/-- A block of another type, behind what was done to a row of one's own. -/
theorem blk_grown {W w1 : World} {α : Type} {d : Kd α} {e t g base : Nat} {ok : Nat → Prop} {v : Value} {xs : List α} {cs : Array Value} (hg : W.grownBy w1 v.ownBlock) (HO : Kd.R d e W base ok v xs) (hb : W.heap[g]? = some (.cells cs t (0, 0))) (ht : e ≠ t) : w1.heap[g]? = some (.cells cs t (0, 0)) := by
  rw [hg.block g (blk_lt hb) (fun h => ?_)]
  · exact hb
  · obtain ⟨cs', hc⟩ := Kd.R_typed HO g h.symm
    rw [hb] at hc
    cases hc
    exact ht rfl
end Go.Proofs.YteibdjkfkcckkaaGreatDoor.Text
