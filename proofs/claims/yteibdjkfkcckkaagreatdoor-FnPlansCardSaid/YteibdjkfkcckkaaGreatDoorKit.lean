/- Small plain laws for the pure statements: from some number of rounds on (Ev), lists read by whole numbers, wraps that do nothing. No program in sight. -/
import Derived.Test.YteibdjkfkcckkaaGreatDoorWWords
import Derived.Test.YteibdjkfkcckkaaGreatDoorWMore
namespace Go.Proofs.YteibdjkfkcckkaaGreatDoor.Kit
open Go.RowKit Go.Proofs.YteibdjkfkcckkaaGreatDoorW.PrintWords
variable {α β : Type}

theorem Ev.up {g : Nat → Option α} {r : α} (h : Ev (fun k => g (k + 1)) r) : Ev g r := Ev.step (fun _ => rfl) h
theorem Ev.pos {c : Prop} [Decidable c] {g h : Nat → Option α} {r : α} (hc : c) (hg : Ev g r) : Ev (fun k => if c then g k else h k) r :=
  Ev.congr (fun _ => if_pos hc) hg
theorem Ev.neg {c : Prop} [Decidable c] {g h : Nat → Option α} {r : α} (hc : ¬ c) (hh : Ev h r) : Ev (fun k => if c then g k else h k) r :=
  Ev.congr (fun _ => if_neg hc) hh
theorem Ev.ite {c : Prop} [Decidable c] {g h : Nat → Option α} {r : α} (hg : c → Ev g r) (hh : ¬ c → Ev h r) : Ev (fun k => if c then g k else h k) r := by
  by_cases hc : c
  · exact Ev.pos hc (hg hc)
  · exact Ev.neg hc (hh hc)
theorem Ev.ite2 {c : Prop} [Decidable c] {g h : Nat → Option α} {r s : α} (hg : c → Ev g r) (hh : ¬ c → Ev h s) : Ev (fun k => if c then g k else h k) (if c then r else s) := by
  by_cases hc : c
  · rw [if_pos hc]; exact Ev.pos hc (hg hc)
  · rw [if_neg hc]; exact Ev.neg hc (hh hc)
theorem Ev.const {x : Option α} {r : α} (h : x = some r) : Ev (fun _ => x) r := ⟨0, fun _ _ => h⟩
theorem Ev.then {g : Nat → Option α} {f : Nat → α → Option β} {a : α} {r : β} (h : Ev g a) (k : Ev (fun n => f n a) r) : Ev (fun n => (g n).bind (f n)) r := Ev.bind h k
/-- A call without rounds. -/
theorem Ev.call {x : Option α} {f : Nat → α → Option β} {a : α} {r : β} (h : x = some a) (k : Ev (fun n => f n a) r) : Ev (fun n => x.bind (f n)) r := by
  subst h; exact k
theorem _root_.Go.Proofs.YteibdjkfkcckkaaGreatDoorW.PrintWords.Ev.eq {g : Nat → Option α} {r s : α} (h : Ev g r) (e : r = s) : Ev g s := e ▸ h
theorem Ev.all {g : Nat → Option α} {r : α} (h : ∀ k, g k = some r) : Ev g r := ⟨0, fun k _ => h k⟩
theorem Ev.ex {g : Nat → Option α} {r : α} (h : Ev g r) : ∃ k, g k = some r := Ev.rounds h
theorem w64 {x : Int} (h0 : -9223372036854775808 ≤ x) (h1 : x ≤ 9223372036854775807) : wrap64 x = x := by
  unfold wrap64
  omega
theorem w64s {i : Int} {n : Nat} (h0 : 0 ≤ i) (h : i < (n : Int)) (hn : n ≤ 9223372036854775807) : wrap64 (i + 1) = i + 1 := w64 (by omega) (by omega)

theorem rd_nat (xs : List Int) (i : Nat) : rd xs (i : Int) = xs.getD i 0 := by simp [rd]
theorem rd_at {xs : List Int} {i : Nat} (h : i < xs.length) : rd xs (i : Int) = xs[i] := by simp [rd, h]

end Go.Proofs.YteibdjkfkcckkaaGreatDoor.Kit
