/- The pile: what a straight walk holds (rows that calls handed back, blocks of its own), one above the other in the heap, told as one fact that goes on from world to world as a whole. -/
import Derived.Test.YthgmicingbjemaaDoorWWords
import Derived.Test.YthgmicingbjemaaDoorWMore
import Derived.Test.YthgmicingbjemaaDoorWApart
import Derived.Test.YthgmicingbjemaaDoorWKept
import Derived.Test.YthgmicingbjemaaDoorWN
namespace Go.Proofs.YthgmicingbjemaaDoorW.PrintWords
open Go.RowKit
/-- P holds, and goes on to hold as long as the blocks from lo on, below hi, stay as they are. -/
def Held (W : World) (lo hi : Nat) (P : World → Prop) : Prop := hi ≤ W.heap.size ∧ ∀ W2 : World, W.heap.size ≤ W2.heap.size → (∀ k, lo ≤ k → k < hi → W2.heap[k]? = W.heap[k]?) → P W2
def Pile (W : World) : Nat → List (World → Prop) → Prop
  | _, [] => True
  | top, P :: Ps => ∃ lo, lo ≤ top ∧ Held W lo top P ∧ Pile W lo Ps
/-- What is held at W, the newest first, all of it above w's blocks. -/
structure Pl (w W : World) (Ps : List (World → Prop)) : Prop where
  below : Below w.heap.size w W
  pile : Pile W W.heap.size Ps
section
variable {w W W2 W3 : World} {lo hi top top' g n c m : Nat} {P P0 P1 P2 P3 P4 P5 P6 P7 P8 P9 : World → Prop} {Ps : List (World → Prop)} {α : Type} {d : Kd α} {e : Nat} {A B : Option Addr} {xs ys : List α} {ok ok' : Nat → Prop} {o : Obj}
theorem Held.now (h : Held W lo hi P) : P W := h.2 W (Nat.le_refl _) (fun _ _ _ => rfl)
theorem Held.mv (h : Held W lo hi P) (hs : W.heap.size ≤ W2.heap.size) (hb : ∀ k, k < hi → W2.heap[k]? = W.heap[k]?) : Held W2 lo hi P :=
  ⟨Nat.le_trans h.1 hs, fun W3 h3 hk => h.2 W3 (Nat.le_trans hs h3) (fun k h1 h2 => (hk k h1 h2).trans (hb k h2))⟩
theorem Held.wide (h : Held W lo hi P) (h1 : hi ≤ top) (h2 : top ≤ W.heap.size) : Held W lo top P := ⟨h2, fun W3 h3 hk => h.2 W3 h3 (fun k ha hb => hk k ha (Nat.lt_of_lt_of_le hb h1))⟩
theorem Pile.mv : ∀ {Ps : List (World → Prop)} {top : Nat}, Pile W top Ps → W.heap.size ≤ W2.heap.size → (∀ k, k < top → W2.heap[k]? = W.heap[k]?) → Pile W2 top Ps
  | [], _, h, _, _ => h
  | _ :: _, _, ⟨lo, h0, h1, h2⟩, hs, hb => ⟨lo, h0, h1.mv hs hb, Pile.mv h2 hs (fun k hk => hb k (Nat.lt_of_lt_of_le hk h0))⟩
theorem Pile.wide (h : Pile W top Ps) (h1 : top ≤ top') (h2 : top' ≤ W.heap.size) : Pile W top' Ps := by
  cases Ps with
  | nil => trivial
  | cons P Ps =>
    obtain ⟨lo, h0, h3, h4⟩ := h
    exact ⟨lo, Nat.le_trans h0 h1, h3.wide h1 h2, h4⟩
namespace Pl
theorem start (w : World) : Pl w w [] := ⟨Below.refl _ _, trivial⟩
theorem call (h : Pl w W Ps) (hb : Below W.heap.size W W2) : Pl w W2 Ps := ⟨below_step h.below hb, (h.pile.mv hb.size (fun k hk => hb.block k hk)).wide hb.size (Nat.le_refl _)⟩
theorem push (h : Pl w W Ps) (hb : Below W.heap.size W W2) (hP : Held W2 W.heap.size W2.heap.size P) : Pl w W2 (P :: Ps) := ⟨below_step h.below hb, W.heap.size, hb.size, hP, h.pile.mv hb.size (fun k hk => hb.block k hk)⟩
theorem drew (h : Pl w W Ps) : Pl w W.drew Ps := h.call (below_drew1 (Below.refl _ _))
theorem drewN (h : Pl w W Ps) (m : Nat) : Pl w (W.drewN m) Ps := h.call (pw_below_drewN (Below.refl _ _) m)
end Pl
theorem Held.rowN (ho : Kd.N d e W2 n ok (.slice A xs.length c) xs) (hok : ∀ k, ok k → lo ≤ k) : Held W2 lo W2.heap.size (fun W => d.C W A xs.length xs ∧ xs.length ≤ c) :=
  ⟨Nat.le_refl _, fun W3 hs hk => by
    have := Kd.N_reads' (Kd.N_kept (S := fun k => k < lo) (Kd.N_bound ho) (⟨hs, fun i hi hn => hk i (Nat.le_of_not_lt hn) hi⟩ : Kept W2 W3 _) (fun k h1 h2 => Nat.not_lt_of_le (hok k h1.1) h2))
    exact ⟨this.2.2, this.2.1⟩⟩
theorem Held.row0 (ho : Kd.N d e W2 n ok (.slice A xs.length c) xs) : Held W2 0 W2.heap.size (fun W => d.C W A xs.length xs ∧ xs.length ≤ c) := Held.rowN ho (fun _ _ => Nat.zero_le _)
theorem Held.blk (hx : W.heap[g]? = some o) : Held W 0 W.heap.size (fun W => W.heap[g]? = some o) := ⟨Nat.le_refl _, fun _ _ hk => (hk g (Nat.zero_le _) (blk_lt hx)).trans hx⟩
theorem Held.both {Q : World → Prop} (h : Held W lo hi P) (k : Held W lo hi Q) : Held W lo hi (fun W => P W ∧ Q W) := ⟨h.1, fun W2 hs hk => ⟨h.2 W2 hs hk, k.2 W2 hs hk⟩⟩
namespace Pl
theorem newN (h : Pl w W Ps) (hb : Below W.heap.size W W2) (ho : Kd.N d e W2 n ok (.slice A xs.length c) xs) (hok : ∀ k, ok k → W.heap.size ≤ k) : Pl w W2 ((fun W => d.C W A xs.length xs ∧ xs.length ≤ c) :: Ps) := h.push hb (Held.rowN ho hok)
theorem newS (h : Pl w W Ps) (hb : Below W.heap.size W W2) (ho : Kd.S d e W2 W.heap.size ok (.slice A xs.length c) xs) : Pl w W2 ((fun W => d.C W A xs.length xs ∧ xs.length ≤ c) :: Ps) := h.newN hb (Kd.S_N (Kd.S_bound ho)) (fun _ hk => hk.2.1)
/-- A block of the walk's own, its cells written. -/
theorem box (h : Pl w W Ps) (hg : g = W.heap.size) (hb : Below W.heap.size W W2) (hx : W2.heap[g]? = some o) : Pl w W2 ((fun W => W.heap[g]? = some o) :: Ps) :=
  h.push hb ⟨Nat.le_refl _, fun _ _ hk => (hk g (Nat.le_of_eq hg.symm) (blk_lt hx)).trans hx⟩
theorem box2 {t : TypeId} {z0 z1 a b : Value} (h : Pl w W Ps) (hx : g = W.heap.size ∧ W2.heap[g]? = some (.cells #[z0, z1] t (0, 0)) ∧ Below W.heap.size W W2) :
    Pl w ((W2.setCell ⟨g, 0, none⟩ a).setCell ⟨g, 1, none⟩ b) ((fun W => W.heap[g]? = some (.cells #[a, b] t (0, 0))) :: Ps) :=
  h.box hx.1 (below_set (below_set hx.2.2 (Nat.le_of_eq hx.1.symm)) (Nat.le_of_eq hx.1.symm)) (blk_put (cs := #[a, z1]) (blk_put hx.2.1 0 a rfl) 1 b rfl)
/-- All that a printed walk held so far, as one. -/
theorem all (hb : Below w.heap.size w W) (h : Held W 0 W.heap.size P) : Pl w W [P] := ⟨hb, 0, Nat.zero_le _, h, trivial⟩
theorem at0 (h : Pl w W (P0 :: Ps)) : P0 W := h.pile.elim fun _ q => q.2.1.now
theorem tl (h : Pl w W (P0 :: Ps)) : Pl w W Ps := ⟨h.below, h.pile.elim fun _ q => q.2.2.wide q.1 (Nat.le_refl _)⟩
theorem at1 (h : Pl w W (P0 :: P1 :: Ps)) : P1 W := h.tl.at0
theorem at2 (h : Pl w W (P0 :: P1 :: P2 :: Ps)) : P2 W := h.tl.at1
/-- A new block is none of those that are held. -/
theorem ne {t : TypeId} {cs : Array Value} {k : Nat} (hg : g = W.heap.size) (hk : W.heap[k]? = some (.cells cs t (0, 0))) : k ≠ g ∧ g ≠ k := by
  have := blk_lt hk
  omega
theorem atRegion {Pg : Program} {id : Nat} {ops : Array Oper} {b : Bool} {Q : Exit → Act → World → Prop} {a : Act} (h : Pl w W Ps) (k : ∀ W', Pl w W' Ps → (Code.region id ops b).wp Pg Q a W') : (Code.region id ops b).wp Pg Q a W := k W h
end Pl
end
end Go.Proofs.YthgmicingbjemaaDoorW.PrintWords
