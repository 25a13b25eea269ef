/- impl.readNumber at the text of a number: strings.TrimPrefix, strings.Trim with a set of ASCII bytes, strconv.ParseInt. -/
import Derived.Test.YteibdjkfkcckkaaGreatDoorText
import Derived.Test.YteibdjkfkcckkaaGreatDoorWMore
import Derived.Test.YteibdjkfkcckkaaGreatDoorFn
import Derived.Shelf.Strings.SlTrimAscii
import Derived.Lib.UnsafeStr
import Derived.RegionTactic
import Derived.Deep.RegionWith
set_option linter.unusedVariables false
set_option linter.unusedSimpArgs false
namespace Go.Proofs.YteibdjkfkcckkaaGreatDoor.Text
open Go.RowKit Go.Proofs.YteibdjkfkcckkaaGreatDoorW Go.Proofs.YteibdjkfkcckkaaGreatDoorW.PrintWords Go.Proofs.YteibdjkfkcckkaaGreatDoorW.PrintLast
def digitSet : ByteArray := ⟨#[48, 49, 50, 51, 52, 53, 54, 55, 56, 57]⟩
theorem trim_rows (s : ByteArray) (w : World) (hs : s.size ≤ 9223372036854775807) :
    Calls Tryz.prog 86 #[.string s, .string digitSet] w fun e w' => e = .returned (.string ⟨(Lib.trimS s.data.toList digitSet.data.toList).toArray⟩) ∧ Below w.heap.size w w' :=
  Any.strings_Trim_laid Tryz.lays160 (by kernel_rfl) s digitSet w hs (by decide) (ascii_of_all (by decide))
theorem trimPrefix_rows (s p : ByteArray) (w : World) :
    Calls Tryz.prog 85 #[.string s, .string p] w fun e w' => e = .returned (.string ⟨(Lib.trimPrefix s.data.toList p.data.toList).toArray⟩) ∧ Below w.heap.size w w' := by
  refine (Tryz.strings_TrimPrefix s p w).mono ?_
  rintro e w' ⟨rfl, rfl⟩
  exact ⟨rfl, Below.refl _ _⟩
theorem parseInt_rows (s : ByteArray) (hs : s.size ≤ 9223372036854775806) (v : Int) (h : Lib.parseIntB 64 s.data.toList = .ok v) (w : World) :
    Calls Tryz.prog 87 #[.string s, .int .i64 10, .int .i64 64] w fun e w' => e = .returned (.tuple #[.int .i64 v, .nilIface]) ∧ Below w.heap.size w w' := by
  refine (Tryz.strconv_ParseInt_10_at64_ok s hs v h w).mono ?_
  rintro e w' ⟨rfl, h | ⟨t, h⟩⟩
  · subst h
    exact ⟨rfl, Below.refl _ _⟩
  · subst h
    exact ⟨rfl, by unfold Lib.bytesWorld; exact Lib.below_freeze (below_alloc (below_drew1 (Below.refl _ _)) _) (Nat.le_refl _) _⟩
/-- The number that a text tells, if it tells one of at most so many digits. -/
def numF (s : ByteArray) (most : Int) : Option (Int × Bool) :=
  match Lib.parseIntB 64 s.data.toList with
  | .ok v => if s.size ≤ 1000000 ∧ (Lib.trimPrefix s.data.toList [45]).length ≠ 0 ∧ ((Lib.trimPrefix s.data.toList [45]).length : Int) ≤ most ∧ Lib.trimS (Lib.trimPrefix s.data.toList [45]) digitSet.data.toList = [] then some (v, true) else none
  | _ => none
set_option maxHeartbeats 4000000 in
set_option maxRecDepth 100000 in
theorem number_rows (s : ByteArray) (most v : Int) (b : Bool) (w : World) (h : numF s most = some (v, b)) :
    Calls Tryz.prog 74 #[.string s, .int .i64 most] w fun e w' => e = .returned (.tuple #[.int .i64 v, .bool b]) ∧ Below w.heap.size w w' := by
  unfold numF at h
  cases hp : Lib.parseIntB 64 s.data.toList with
  | ok v' =>
    rw [hp] at h
    simp only at h
    by_cases hc : s.size ≤ 1000000 ∧ (Lib.trimPrefix s.data.toList [45]).length ≠ 0 ∧ ((Lib.trimPrefix s.data.toList [45]).length : Int) ≤ most ∧ Lib.trimS (Lib.trimPrefix s.data.toList [45]) digitSet.data.toList = []
    · rw [if_pos hc] at h
      simp only [Option.some.injEq, Prod.mk.injEq] at h
      obtain ⟨rfl, rfl⟩ := h
      obtain ⟨h1, h2, h3, h4⟩ := hc
      obtain ⟨d, hd⟩ : ∃ d : ByteArray, d = ⟨(Lib.trimPrefix s.data.toList [45]).toArray⟩ := ⟨_, rfl⟩
      have hdl : d.data.toList = Lib.trimPrefix s.data.toList [45] := by rw [hd]
      have hdz : d.size = (Lib.trimPrefix s.data.toList [45]).length := by rw [hd, Lib.size_mk]
      have hle : d.size ≤ s.size := by
        rw [hdz]; unfold Lib.trimPrefix
        split
        · rw [List.length_drop, Lib.size_eq]; omega
        · rw [Lib.size_eq]; exact Nat.le_refl _
      have HT : Aside0 (∀ W : World, Calls Tryz.prog 85 #[.string s, .string ⟨#[45]⟩] W fun e w' => e = .returned (.string d) ∧ Below W.heap.size W w') := ⟨fun W => by rw [hd]; exact trimPrefix_rows s ⟨#[45]⟩ W⟩
      have HM : Aside0 (∀ W : World, Calls Tryz.prog 86 #[.string d, .string ⟨#[48, 49, 50, 51, 52, 53, 54, 55, 56, 57]⟩] W fun e w' => e = .returned (.string ⟨#[]⟩) ∧ Below W.heap.size W w') := ⟨fun W => by
        have := trim_rows d W (by omega)
        rw [hdl, h4] at this
        exact this⟩
      have HP : Aside0 (∀ W : World, Calls Tryz.prog 87 #[.string s, .int .i64 10, .int .i64 64] W fun e w' => e = .returned (.tuple #[.int .i64 v', .nilIface]) ∧ Below W.heap.size W w') := ⟨fun W => parseInt_rows s (by omega) v' hp W⟩
      have hne : (d.toList = []) = False := eq_false (fun e => by
        have e1 : d.data.toList = [] := by rw [← Lib.toList_data]; exact e
        rw [hdl] at e1
        rw [e1] at h2
        exact h2 rfl)
      have hne2 : d.toList.isEmpty = false := by
        cases he : d.toList.isEmpty with
        | false => rfl
        | true => exact absurd (by simpa using he) (fun e => hne.mp e)
      have hmo : ¬ (most < (d.size : Int)) := by rw [hdz]; omega
      have HB := Aside0.mk (Below.refl w.heap.size w)
      have hmo2 : decide (most < (d.size : Int)) = false := decide_eq_false hmo
      clear h1 h2 h3 h4 hd hdl hdz hle hp
      go_enter Tryz.func74, Tryz.ntmps74
      go_wp2_with (first
        | (go_at_call 85; (with_reducible refine (HT.out _).mono ?_); rintro e w1 ⟨rfl, hb⟩; have n0_ := Aside0.mk (below_step HB.out hb); clear HB; have HB := n0_; clear n0_ hb)
        | (go_at_call 86; (with_reducible refine (HM.out _).mono ?_); rintro e w2 ⟨rfl, hb⟩; have n0_ := Aside0.mk (below_step HB.out hb); clear HB; have HB := n0_; clear n0_ hb)
        | (go_at_call 87; (with_reducible refine (HP.out _).mono ?_); rintro e w3 ⟨rfl, hb⟩; have n0_ := Aside0.mk (below_step HB.out hb); clear HB; have HB := n0_; clear n0_ hb))
      have mixed : Tryz.prog.follows .mixedOrders = true := by kernel_rfl
      have late : Tryz.prog.follows .lateStores = true := by kernel_rfl
      go_region_with_o (fail)
      go_wp2
      go_ret2
      exact ⟨by first | rfl | (simp; done), by repeat (first | (with_reducible first | exact HB.out | apply below_alloc | apply pw_below_drewN | apply below_drew1) | exact HB.out)⟩
    · rw [if_neg hc] at h
      exact absurd h (by simp)
  | _ => rw [hp] at h; exact absurd h (by simp)
end Go.Proofs.YteibdjkfkcckkaaGreatDoor.Text
