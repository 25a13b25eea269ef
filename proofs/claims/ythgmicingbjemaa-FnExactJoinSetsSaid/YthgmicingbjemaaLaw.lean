/- Small laws for the walks of the laws that mark: what is held between two block numbers (Hold), and how it goes on from world to world (Kept between two numbers). -/
import Derived.Test.YthgmicingbjemaaWWords
import Derived.Test.YthgmicingbjemaaWMore
import Derived.Test.YthgmicingbjemaaWApart
import Derived.Test.YthgmicingbjemaaWKept
import Derived.Test.YthgmicingbjemaaWN
namespace Go.Proofs.Ythgmicingbjemaa.Law
open Go.RowKit Go.Proofs.YthgmicingbjemaaW.PrintWords
variable {α : Type} {d : Kd α} {e lo hi a b g : Nat} {w W W2 : World} {v : Value} {xs ys : List α} {ok : Nat → Prop}
/-- What may have changed from W to W2: blocks from a on, below b. -/
abbrev Btw (a b : Nat) (k : Nat) : Prop := a ≤ k ∧ k < b
/-- A row (with all it leads to) that lies from block lo on, below hi. -/
def HoldS (d : Kd α) (e : Nat) (W : World) (lo hi : Nat) (v : Value) (xs : List α) : Prop := Kd.S d e W lo (fun k => lo ≤ k ∧ k < hi) v xs ∧ hi ≤ W.heap.size
def HoldR (d : Kd α) (e : Nat) (W : World) (lo hi : Nat) (v : Value) (xs : List α) : Prop := d.R e W lo (fun k => lo ≤ k ∧ k < hi) v xs ∧ hi ≤ W.heap.size
theorem HoldS.new (h : Kd.S d e W2 W.heap.size ok v xs) : HoldS d e W2 W.heap.size W2.heap.size v xs := ⟨Kd.S_mono (Kd.S_bound h) (fun _ hk => ⟨hk.2.1, hk.2.2.1⟩), Nat.le_refl _⟩
theorem HoldR.new (h : d.R e W2 W.heap.size ok v xs) : HoldR d e W2 W.heap.size W2.heap.size v xs := ⟨Kd.R_mono (Kd.R_bound h) (fun _ hk => ⟨hk.2.1, hk.2.2.1⟩), Nat.le_refl _⟩
theorem HoldS.mv (h : HoldS d e W lo hi v xs) (hk : Kept W W2 (Btw a b)) (hd : hi ≤ a ∨ b ≤ lo) : HoldS d e W2 lo hi v xs :=
  ⟨Kd.S_kept h.1 hk (fun k h1 h2 => by have := h2.1; have := h2.2; have := h1.1; have := h1.2; omega), Nat.le_trans h.2 hk.1⟩
theorem HoldR.mv (h : HoldR d e W lo hi v xs) (hk : Kept W W2 (Btw a b)) (hd : hi ≤ a ∨ b ≤ lo) : HoldR d e W2 lo hi v xs :=
  ⟨Kd.R_kept h.1 hk (fun k h1 h2 => by have := h2.1; have := h2.2; have := h1.1; have := h1.2; omega), Nat.le_trans h.2 hk.1⟩
theorem HoldS.still (h : HoldS d e W lo hi v xs) (hk : Kept W W2 (Btw 0 0)) : HoldS d e W2 lo hi v xs := h.mv hk (.inr (Nat.zero_le _))
theorem HoldR.still (h : HoldR d e W lo hi v xs) (hk : Kept W W2 (Btw 0 0)) : HoldR d e W2 lo hi v xs := h.mv hk (.inr (Nat.zero_le _))
theorem HoldS.slice (h : HoldS d e W lo hi v xs) : ∃ A c, v = .slice A xs.length c := Kd.S_slice h.1
theorem HoldR.slice (h : HoldR d e W lo hi v xs) : ∃ A c, v = .slice A xs.length c := Kd.R_slice h.1
theorem HoldS.row {A : Option Addr} {c : Nat} (h : HoldS d e W lo hi (.slice A xs.length c) xs) : d.C W A xs.length xs := (Kd.S_reads' h.1).2.2
theorem HoldR.row {A : Option Addr} {c : Nat} (h : HoldR d e W lo hi (.slice A xs.length c) xs) : d.C W A xs.length xs := (Kd.R_reads' h.1).2.2
theorem HoldS.cap {A : Option Addr} {c : Nat} (h : HoldS d e W lo hi (.slice A xs.length c) xs) : xs.length ≤ c := (Kd.S_reads' h.1).2.1
theorem HoldR.cap {A : Option Addr} {c : Nat} (h : HoldR d e W lo hi (.slice A xs.length c) xs) : xs.length ≤ c := (Kd.R_reads' h.1).2.1
/-- A row of scalars is handed to what writes it, and comes back. -/
theorem HoldR.lend {n : Nat} (h : HoldR d e W lo hi v xs) (hn : n ≤ lo) : d.R e W n (fun k => lo ≤ k ∧ k < hi) v xs := Kd.R_lower h.1 hn
theorem HoldR.back {k : IntKind} {n : Nat} {xs ys : List Int} (h : HoldR (Kd.int k) e W lo hi v xs) (hk : W.heap.size ≤ W2.heap.size) (h2 : (Kd.int k).R e W2 n ok v ys) : HoldR (Kd.int k) e W2 lo hi v ys :=
  ⟨Kd.R_reok rfl (Kd.R_raise (d := Kd.int k) (b := n) (b' := lo) (fun _ _ _ _ h_ => h_) h2 (Kd.R_base h.1)) (fun q hq => h.1.1 q hq), Nat.le_trans h.2 hk⟩
theorem HoldS.lend (h : HoldS d e W lo hi v xs) : Kd.S d e W lo (fun k_ => k_ < hi) v xs := Kd.S_mono h.1 (fun _ h_ => h_.2)
theorem HoldS.back (h : HoldS d e W lo hi v xs) (hk : W.heap.size ≤ W2.heap.size) (h2 : Kd.S d e W2 lo (fun k_ => k_ < hi) v ys) : HoldS d e W2 lo hi v ys := ⟨Kd.S_mono (Kd.S_bound h2) (fun _ h_ => ⟨h_.2.1, h_.1⟩), Nat.le_trans h.2 hk⟩
theorem HoldS.len {A : Option Addr} {n c : Nat} (h : HoldS d e W lo hi (.slice A n c) xs) : n = xs.length := (Kd.S_reads' h.1).1
theorem HoldR.len {A : Option Addr} {n c : Nat} (h : HoldR d e W lo hi (.slice A n c) xs) : n = xs.length := (Kd.R_reads' h.1).1
/-- A row whose elements lead to what may be shared. -/
def HoldN (d : Kd α) (e : Nat) (W : World) (lo hi : Nat) (v : Value) (xs : List α) : Prop := Kd.N d e W lo (fun k => lo ≤ k ∧ k < hi) v xs ∧ hi ≤ W.heap.size
theorem HoldN.new (h : Kd.N d e W2 W.heap.size (fun k => W.heap.size ≤ k) v xs) : HoldN d e W2 W.heap.size W2.heap.size v xs := ⟨Kd.N_mono (Kd.N_bound h) (fun _ hk => hk), Nat.le_refl _⟩
theorem HoldN.mv (h : HoldN d e W lo hi v xs) (hk : Kept W W2 (Btw a b)) (hd : hi ≤ a ∨ b ≤ lo) : HoldN d e W2 lo hi v xs :=
  ⟨Kd.N_kept h.1 hk (fun k h1 h2 => by have := h2.1; have := h2.2; have := h1.1; have := h1.2; omega), Nat.le_trans h.2 hk.1⟩
theorem HoldN.still (h : HoldN d e W lo hi v xs) (hk : Kept W W2 (Btw 0 0)) : HoldN d e W2 lo hi v xs := h.mv hk (.inr (Nat.zero_le _))
theorem HoldN.slice (h : HoldN d e W lo hi v xs) : ∃ A c, v = .slice A xs.length c := Kd.N_slice h.1
theorem HoldN.row {A : Option Addr} {c : Nat} (h : HoldN d e W lo hi (.slice A xs.length c) xs) : d.C W A xs.length xs := (Kd.N_reads' h.1).2.2
theorem HoldN.cap {A : Option Addr} {c : Nat} (h : HoldN d e W lo hi (.slice A xs.length c) xs) : xs.length ≤ c := (Kd.N_reads' h.1).2.1
theorem HoldN.len {A : Option Addr} {n c : Nat} (h : HoldN d e W lo hi (.slice A n c) xs) : n = xs.length := (Kd.N_reads' h.1).1
theorem kept0 (h : Below W.heap.size W W2) : Kept W W2 (Btw 0 0) := Kept.of_below h _
/-- A block with its cells. -/
theorem blk_mv {o : Obj} (h : W.heap[g]? = some o) (hk : Kept W W2 (Btw a b)) (hd : g < a ∨ b ≤ g) : W2.heap[g]? = some o := blk_kept h hk (fun q => by have := q.1; have := q.2; omega)
theorem blk_still {o : Obj} (h : W.heap[g]? = some o) (hk : Kept W W2 (Btw 0 0)) : W2.heap[g]? = some o := blk_mv h hk (.inr (Nat.zero_le _))
theorem kept_set (h : Kept W W2 (Btw g (g + 1))) (j : Nat) (u : Value) : Kept W (W2.setCell ⟨g, j, none⟩ u) (Btw g (g + 1)) := Kept.setCell h (.inl ⟨Nat.le_refl _, Nat.lt_succ_self _⟩) u
/-- A call's world is told by name. -/
theorem named {P : Program} {f : FuncId} {as : Array Value} {W : World} {Q : Ending → World → Prop} (h : ∀ W', W' = W → Calls P f as W' Q) : Calls P f as W Q := h W rfl
end Go.Proofs.Ythgmicingbjemaa.Law
