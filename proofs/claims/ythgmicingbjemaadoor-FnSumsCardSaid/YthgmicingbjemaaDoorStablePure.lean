/- The plain law of slices.SortStableFunc's fellows: what rotating, merging and the block sort do to an array, in plain Lean, no program in sight: under a strict weak order the answer is a sorted permutation. -/
import Derived.Sort.LotA
namespace Go.Proofs.YthgmicingbjemaaDoor.Stable
open Go.Sort
variable {α : Type} [Inhabited α]

/-- The places a ≤ i < b of d, left-rotated by m - a: d' . -/
structure RotIn (d d' : Array α) (a m b : Nat) : Prop where
  size : d'.size = d.size
  out : ∀ k, k < a ∨ b ≤ k → d'[k]! = d[k]!
  left : ∀ k, a ≤ k → k < a + (b - m) → d'[k]! = d[k + (m - a)]!
  right : ∀ k, a + (b - m) ≤ k → k < b → d'[k]! = d[k - (b - m)]!

/-- The first n places from a on and from b on have been exchanged. -/
structure SwapIn (d d' : Array α) (a b n : Nat) : Prop where
  size : d'.size = d.size
  out : ∀ k, (k < a ∨ a + n ≤ k) → (k < b ∨ b + n ≤ k) → d'[k]! = d[k]!
  left : ∀ k, a ≤ k → k < a + n → d'[k]! = d[k + (b - a)]!
  right : ∀ k, b ≤ k → k < b + n → d'[k]! = d[k - (b - a)]!

theorem SwapIn.zero (d : Array α) (a b : Nat) : SwapIn d d a b 0 :=
  ⟨rfl, fun _ _ _ => rfl, fun _ h1 h2 => by omega, fun _ h1 h2 => by omega⟩

theorem SwapIn.succ {d d' : Array α} {a b n : Nat} (h : SwapIn d d' a b n) (hab : a + n < b) (hb : b + n < d.size) : SwapIn d (swp d' (a + n) (b + n)) a b (n + 1) := by
  have hs := h.size
  have g := swp_get d' (i := a + n) (j := b + n) (by omega) (by omega)
  refine ⟨by rw [swp_size]; exact hs, fun k h1 h2 => ?_, fun k h1 h2 => ?_, fun k h1 h2 => ?_⟩
  · rw [g, if_neg (by omega), if_neg (by omega)]
    exact h.out k (by omega) (by omega)
  · rw [g, if_neg (by omega)]
    by_cases e : k = a + n
    · subst e
      rw [if_pos rfl, show a + n + (b - a) = b + n by omega]
      exact h.out _ (by omega) (by omega)
    · rw [if_neg e]
      exact h.left k h1 (by omega)
  · rw [g]
    by_cases e : k = b + n
    · subst e
      rw [if_pos rfl, show b + n - (b - a) = a + n by omega]
      exact h.out _ (by omega) (by omega)
    · rw [if_neg e, if_neg (by omega)]
      exact h.right k h1 (by omega)

/-- One round of rotate's loop, the left block the longer one. -/
theorem RotIn.of_left {d d1 d' : Array α} {m i j : Nat} (hij : j < i) (him : i ≤ m) (h : SwapIn d d1 (m - i) m j) (r : RotIn d1 d' (m - (i - j)) m (m + j)) : RotIn d d' (m - i) m (m + j) := by
  refine ⟨r.size.trans h.size, fun k hk => ?_, fun k h1 h2 => ?_, fun k h1 h2 => ?_⟩
  · rw [r.out k (by omega), h.out k (by omega) (by omega)]
  · rw [r.out k (by omega), h.left k (by omega) (by omega)]
  · by_cases e : k < m - (i - j) + j
    · rw [r.left k (by omega) (by omega), h.right _ (by omega) (by omega)]
      congr 1
      omega
    · rw [r.right k (by omega) (by omega), h.out _ (by omega) (by omega)]

/-- One round of rotate's loop, the right block the longer one. -/
theorem RotIn.of_right {d d1 d' : Array α} {m i j : Nat} (hij : i < j) (him : i ≤ m) (h : SwapIn d d1 (m - i) (m + j - i) i) (r : RotIn d1 d' (m - i) m (m + (j - i))) : RotIn d d' (m - i) m (m + j) := by
  refine ⟨r.size.trans h.size, fun k hk => ?_, fun k h1 h2 => ?_, fun k h1 h2 => ?_⟩
  · rw [r.out k (by omega), h.out k (by omega) (by omega)]
  · by_cases e : k < m - i + (j - i)
    · rw [r.left k (by omega) (by omega)]
      by_cases e2 : k + i < m + j - i
      · rw [h.out _ (by omega) (by omega)]
      · rw [h.right _ (by omega) (by omega)]
        omega
    · rw [r.right k (by omega) (by omega), h.left _ (by omega) (by omega)]
      congr 1
      omega
  · rw [r.out k (by omega), h.right _ (by omega) (by omega)]
    congr 1
    omega

theorem RotIn.of_even {d d' : Array α} {m i : Nat} (him : i ≤ m) (h : SwapIn d d' (m - i) m i) : RotIn d d' (m - i) m (m + i) := by
  refine ⟨h.size, fun k hk => h.out k (by omega) (by omega), fun k h1 h2 => ?_, fun k h1 h2 => ?_⟩
  · rw [h.left k (by omega) (by omega)]
  · rw [h.right k (by omega) (by omega)]
    congr 1
    omega

theorem RotIn.refl1 (d : Array α) (a : Nat) : RotIn d d a (a + 1) (a + 1) :=
  ⟨rfl, fun _ _ => rfl, fun k h1 h2 => by omega, fun k h1 h2 => by congr 1; omega⟩

theorem RotIn.refl2 (d : Array α) (m : Nat) : RotIn d d m m (m + 1) :=
  ⟨rfl, fun _ _ => rfl, fun k h1 h2 => by congr 1; omega, fun k h1 h2 => by omega⟩

/-- Nothing to turn: one of the blocks is empty. -/
theorem RotIn.deg (d : Array α) {a m b : Nat} (h1 : a ≤ m) (h2 : m ≤ b) (h : a = m ∨ m = b) : RotIn d d a m b :=
  ⟨rfl, fun _ _ => rfl, fun k q1 q2 => by congr 1; omega, fun k q1 q2 => by congr 1; omega⟩

/-- 'for k := a; k < i-1; k++ { swap k, k+1 }': one round. -/
theorem RotIn.up {d d1 : Array α} {a k : Nat} (hak : a ≤ k) (hk : k + 1 < d.size) (h : RotIn d d1 a (a + 1) (k + 1)) : RotIn d (swp d1 k (k + 1)) a (a + 1) (k + 2) := by
  have hs := h.size
  have g := swp_get d1 (i := k) (j := k + 1) (by omega) (by omega)
  refine ⟨by rw [swp_size]; exact hs, fun q hq => ?_, fun q h1 h2 => ?_, fun q h1 h2 => ?_⟩
  · rw [g, if_neg (by omega), if_neg (by omega)]
    exact h.out q (by omega)
  · rw [g, if_neg (by omega)]
    by_cases e : q = k
    · subst e
      rw [if_pos rfl, h.out _ (by omega)]
      congr 1
      omega
    · rw [if_neg e]
      exact h.left q h1 (by omega)
  · obtain rfl : q = k + 1 := by omega
    rw [g, if_pos rfl, h.right k (by omega) (by omega)]
    congr 1
    omega

/-- 'for k := m; k > i; k-- { swap k, k-1 }': one round, from k + 1 to k. -/
theorem RotIn.down {d d1 : Array α} {m k : Nat} (hkm : k + 1 ≤ m) (hm : m < d.size) (h : RotIn d d1 (k + 1) m (m + 1)) : RotIn d (swp d1 (k + 1) k) k m (m + 1) := by
  have hs := h.size
  have g := swp_get d1 (i := k + 1) (j := k) (by omega) (by omega)
  refine ⟨by rw [swp_size]; exact hs, fun q hq => ?_, fun q h1 h2 => ?_, fun q h1 h2 => ?_⟩
  · rw [g, if_neg (by omega), if_neg (by omega)]
    exact h.out q (by omega)
  · obtain rfl : q = k := by omega
    rw [g, if_pos rfl, h.left _ (by omega) (by omega)]
    congr 1
    omega
  · rw [g, if_neg (by omega)]
    by_cases e : q = k + 1
    · subst e
      rw [if_pos rfl, h.out _ (by omega)]
      congr 1
      omega
    · rw [if_neg e, h.right q (by omega) (by omega)]

variable {lt : α → α → Bool}

/-- What a merge of [a, m) and [m, b) makes. -/
def Merged (lt : α → α → Bool) (d d' : Array α) (a m b : Nat) : Prop :=
  PermIn a b d d' ∧ (SortedIn lt a m d → SortedIn lt m b d → SortedIn lt a b d')

/-- data[a] alone is laid into [a + 1, b). -/
theorem merged_first (hS : SWO lt) {d d' : Array α} {a b i : Nat} (hp : PermIn a b d d') (hi : a + 1 ≤ i) (hib : i ≤ b)
    (hlo : i = a + 1 ∨ lt d[i - 1]! d[a]! = true) (hhi : i = b ∨ lt d[i]! d[a]! = false) (r : RotIn d d' a (a + 1) i) : Merged lt d d' a (a + 1) b := by
  refine ⟨hp, fun _ hs => ?_⟩
  -- where each place comes from
  have e1 : ∀ k, a ≤ k → k < i - 1 → d'[k]! = d[k + 1]! := fun k h1 h2 => by rw [r.left k h1 (by omega)]; congr 1; omega
  have e2 : d'[i - 1]! = d[a]! := by rw [r.right (i - 1) (by omega) (by omega)]; congr 1; omega
  have e3 : ∀ k, i ≤ k → d'[k]! = d[k]! := fun k h1 => r.out k (by omega)
  intro p q hap hpq hqb
  by_cases hq : q < i - 1
  · rw [e1 q (by omega) hq, e1 p hap (by omega)]
    exact hs _ _ (by omega) (by omega) (by omega)
  · by_cases hq1 : q = i - 1
    · subst hq1
      rw [e2, e1 p hap (by omega)]
      rcases hlo with h | h
      · omega
      · by_cases e : p + 1 = i - 1
        · rw [e]; exact hS.asymmA h
        · exact hS.ntrans _ _ _ (hS.asymmA h) (hs (p + 1) (i - 1) (by omega) (by omega) (by omega))
    · rw [e3 q (by omega)]
      by_cases hp1 : p < i - 1
      · rw [e1 p hap hp1]
        exact hs _ _ (by omega) (by omega) hqb
      · by_cases hp2 : p = i - 1
        · subst hp2
          rw [e2]
          rcases hhi with h | h
          · omega
          · by_cases e : q = i
            · subst e; exact h
            · exact hS.ntrans _ _ _ (hs i q (by omega) (by omega) hqb) h
        · rw [e3 p (by omega)]
          exact hs _ _ (by omega) hpq hqb

/-- data[m] alone is laid into [a, m). -/
theorem merged_last (hS : SWO lt) {d d' : Array α} {a m i : Nat} (hp : PermIn a (m + 1) d d') (hi : a ≤ i) (him : i ≤ m)
    (hlo : i = a ∨ lt d[m]! d[i - 1]! = false) (hhi : i = m ∨ lt d[m]! d[i]! = true) (r : RotIn d d' i m (m + 1)) : Merged lt d d' a m (m + 1) := by
  refine ⟨hp, fun hs _ => ?_⟩
  have e1 : ∀ k, i < k → k ≤ m → d'[k]! = d[k - 1]! := fun k h1 h2 => by rw [r.right k (by omega) (by omega)]; congr 1; omega
  have e2 : d'[i]! = d[m]! := by rw [r.left i (by omega) (by omega)]; congr 1; omega
  have e3 : ∀ k, k < i → d'[k]! = d[k]! := fun k h1 => r.out k (by omega)
  intro p q hap hpq hqb
  by_cases hq : i < q
  · rw [e1 q hq (by omega)]
    by_cases hp1 : i < p
    · rw [e1 p hp1 (by omega)]
      exact hs _ _ (by omega) (by omega) (by omega)
    · by_cases hp2 : p = i
      · subst hp2
        rw [e2]
        rcases hhi with h | h
        · omega
        · by_cases e : q - 1 = p
          · rw [e]; exact hS.asymmA h
          · exact hS.ntrans _ _ _ (hs p (q - 1) (by omega) (by omega) (by omega)) (hS.asymmA h)
      · rw [e3 p (by omega)]
        exact hs _ _ hap (by omega) (by omega)
  · by_cases hq1 : q = i
    · subst hq1
      rw [e2, e3 p hpq]
      rcases hlo with h | h
      · omega
      · by_cases e : p = q - 1
        · subst e; exact h
        · exact hS.ntrans _ _ _ h (hs p (q - 1) hap (by omega) (by omega))
    · rw [e3 q (by omega), e3 p (by omega)]
      exact hs _ _ hap hpq (by omega)

/-- The great case: the two blocks are cut at 'start' and at 'end', turned round, and each half is merged. -/
theorem merged_mid (hS : SWO lt) {d d1 d2 d3 : Array α} {a m b mid st en : Nat} (hb : b ≤ d.size) (ham : a ≤ st) (h1 : st ≤ m) (h2 : m ≤ en) (h3 : en ≤ b) (hsum : st + en = mid + m)
    (hlo : st = a ∨ en = b ∨ lt d[en]! d[st - 1]! = false) (hhi : st = m ∨ en = m ∨ lt d[en - 1]! d[st]! = true)
    (hp1 : PermIn a b d d1) (r : RotIn d d1 st m en) (hm1 : Merged lt d1 d2 a st mid) (hm2 : Merged lt d2 d3 mid en b) (ha : a ≤ mid) (hc : mid ≤ b) : Merged lt d d3 a m b := by
  have p12 : PermIn a b d1 d2 := permIn_mono _ _ _ _ _ _ (Nat.le_refl _) hc (by rw [r.size]; exact hb) hm1.1
  have p23 : PermIn a b d2 d3 := permIn_mono _ _ _ _ _ _ ha (Nat.le_refl _) (by rw [hm1.1.1, r.size]; exact hb) hm2.1
  refine ⟨permIn_trans _ _ _ _ _ (permIn_trans _ _ _ _ _ hp1 p12) p23, fun hs1 hs2 => ?_⟩
  have e0 : ∀ k, k < st → d1[k]! = d[k]! := fun k h => r.out k (by omega)
  have e1 : ∀ k, st ≤ k → k < mid → d1[k]! = d[k + (m - st)]! := fun k h h' => r.left k h (by omega)
  have e2 : ∀ k, mid ≤ k → k < en → d1[k]! = d[k - (en - m)]! := fun k h h' => r.right k (by omega) h'
  have e3 : ∀ k, en ≤ k → d1[k]! = d[k]! := fun k h => r.out k (by omega)
  -- the halves' parts are sorted
  have s1 : SortedIn lt a st d1 := fun p q x y z => by rw [e0 q (by omega), e0 p (by omega)]; exact hs1 p q x y (by omega)
  have s2 : SortedIn lt st mid d1 := fun p q x y z => by rw [e1 q (by omega) z, e1 p x (by omega)]; exact hs2 _ _ (by omega) (by omega) (by omega)
  have s3 : SortedIn lt mid en d1 := fun p q x y z => by rw [e2 q (by omega) z, e2 p x (by omega)]; exact hs1 _ _ (by omega) (by omega) (by omega)
  have s4 : SortedIn lt en b d1 := fun p q x y z => by rw [e3 q (by omega), e3 p x]; exact hs2 _ _ (by omega) y z
  have t1 : SortedIn lt a mid d2 := hm1.2 s1 s2
  have k2 : ∀ k, mid ≤ k → d2[k]! = d1[k]! := fun k h => hm1.1.2.1 k (Or.inr h)
  have t2 : SortedIn lt mid b d3 := hm2.2 (fun p q x y z => by rw [k2 q (by omega), k2 p x]; exact s3 p q x y z) (fun p q x y z => by rw [k2 q (by omega), k2 p (by omega)]; exact s4 p q x y z)
  have k3 : ∀ k, k < mid → d3[k]! = d2[k]! := fun k h => hm2.1.2.1 k (Or.inl h)
  -- nothing of the right half is less than something of the left half
  have rows : ∀ p q, a ≤ p → p < m → m ≤ q → q < b → (p < st ∧ en ≤ q → lt d[q]! d[p]! = false) ∧ (st ≤ p ∧ q < en → lt d[p]! d[q]! = false) := by
    intro p q hp hpm hq hqb
    refine ⟨fun ⟨hps, hqe⟩ => ?_, fun ⟨hps, hqe⟩ => ?_⟩
    · rcases hlo with h | h | h
      · omega
      · omega
      · have x1 : lt d[en]! d[p]! = false := by
          by_cases e : p = st - 1
          · rw [e]; exact h
          · exact hS.ntrans _ _ _ h (hs1 p (st - 1) hp (by omega) (by omega))
        by_cases e : q = en
        · rw [e]; exact x1
        · exact hS.ntrans _ _ _ (hs2 en q h2 (by omega) hqb) x1
    · rcases hhi with h | h | h
      · omega
      · omega
      · have x1 : lt d[st]! d[en - 1]! = false := hS.asymmA h
        have x2 : lt d[p]! d[en - 1]! = false := by
          by_cases e : p = st
          · rw [e]; exact x1
          · exact hS.ntrans _ _ _ (hs1 st p (by omega) (by omega) hpm) x1
        by_cases e : q = en - 1
        · rw [e]; exact x2
        · exact hS.ntrans _ _ _ x2 (hs2 q (en - 1) hq (by omega) (by omega))
  have across1 : ∀ p, a ≤ p → p < mid → ∀ q, mid ≤ q → q < b → lt d1[q]! d1[p]! = false := by
    intro p hp hpm q hq hqb
    by_cases hps : p < st
    · rw [e0 p hps]
      by_cases hqe : q < en
      · rw [e2 q hq hqe]
        exact hs1 _ _ hp (by omega) (by omega)
      · rw [e3 q (by omega)]
        exact (rows p q hp (by omega) (by omega) hqb).1 ⟨hps, by omega⟩
    · rw [e1 p (by omega) hpm]
      by_cases hqe : q < en
      · rw [e2 q hq hqe]
        exact (rows (q - (en - m)) (p + (m - st)) (by omega) (by omega) (by omega) (by omega)).2 ⟨by omega, by omega⟩
      · rw [e3 q (by omega)]
        exact hs2 _ _ (by omega) (by omega) hqb
  have across2 : ∀ q, mid ≤ q → q < b → ∀ p, a ≤ p → p < mid → lt d1[q]! d2[p]! = false := fun q hq hqb =>
    permIn_all d1 d2 a mid (fun x => lt d1[q]! x = false) (by rw [r.size]; omega) hm1.1 (fun p hp hpm => across1 p hp hpm q hq hqb)
  have across3 : ∀ p, a ≤ p → p < mid → ∀ q, mid ≤ q → q < b → lt d3[q]! d2[p]! = false := fun p hp hpm =>
    permIn_all d2 d3 mid b (fun x => lt x d2[p]! = false) (by rw [hm1.1.1, r.size]; exact hb) hm2.1 (fun q hq hqb => by rw [k2 q hq]; exact across2 q hq hqb p hp hpm)
  intro p q hap hpq hqb
  by_cases hqm : q < mid
  · rw [k3 q hqm, k3 p (by omega)]
    exact t1 p q hap hpq hqm
  · by_cases hpm : p < mid
    · rw [k3 p hpm]
      exact across3 p hap hpm q (by omega) hqb
    · exact t2 p q (by omega) hpq hqb

/-- A half that needs no merge. -/
theorem merged_none (d : Array α) {a m b : Nat} (h : m ≤ a ∨ b ≤ m) : Merged lt d d a m b :=
  ⟨permIn_refl _ _ _, fun h1 h2 i j x y z => by
    rcases h with h | h
    · exact h2 i j (by omega) y z
    · exact h1 i j x y (by omega)⟩

/-- In the region [a, e), the places of one block of the length n are sorted (blocks counted from place 0). -/
def Bl (lt : α → α → Bool) (n a e : Nat) (d : Array α) : Prop := ∀ p q, a ≤ p → p < q → q < e → p / n = q / n → lt d[q]! d[p]! = false

theorem blk_bounds {n c t : Nat} (h : t / n = c) (hn : 0 < n) : c * n ≤ t ∧ t < c * n + n := by
  subst h
  have a := Nat.div_mul_le_self t n
  have b := Nat.lt_mul_div_succ t hn
  rw [Nat.mul_add, Nat.mul_one, Nat.mul_comm] at b
  exact ⟨a, b⟩
theorem blk_div {n c t : Nat} (h1 : c * n ≤ t) (h2 : t < c * n + n) : t / n = c :=
  Nat.div_eq_of_lt_le h1 (by rw [Nat.add_mul, Nat.one_mul]; exact h2)

theorem Bl.zero (lt : α → α → Bool) (n a : Nat) (d : Array α) : Bl lt n a a d := fun p q h1 h2 h3 => by omega
/-- One block more, at the region's end. -/
theorem Bl.snoc {n c e : Nat} {d d' : Array α} (hn : 0 < n) (h : Bl lt n 0 (c * n) d) (hk : ∀ k, k < c * n → d'[k]! = d[k]!) (hs : SortedIn lt (c * n) e d') : Bl lt n 0 e d' := by
  intro p q h1 h2 h3 h4
  by_cases hq : q < c * n
  · rw [hk q hq, hk p (by omega)]
    exact h p q h1 h2 hq h4
  · by_cases hp : p < c * n
    · have b1 := blk_bounds (show p / n = p / n from rfl) hn
      have b2 := blk_bounds (show q / n = q / n from rfl) hn
      exfalso
      have l1 : p / n < c := by
        rcases Nat.lt_or_ge (p / n) c with h | h
        · exact h
        · have := Nat.mul_le_mul_right n h
          omega
      have l2 : c ≤ q / n := by
        rcases Nat.lt_or_ge (q / n) c with h | h
        · have := Nat.mul_le_mul_right n (show q / n + 1 ≤ c from h)
          rw [Nat.add_mul, Nat.one_mul] at this
          omega
        · exact h
      omega
    · exact hs p q (by omega) h2 h3
/-- What is left of a region. -/
theorem Bl.rest {n a a' e : Nat} {d d' : Array α} (h : Bl lt n a e d) (ha : a ≤ a') (hk : ∀ k, a' ≤ k → d'[k]! = d[k]!) : Bl lt n a' e d' := by
  intro p q h1 h2 h3 h4
  rw [hk q (by omega), hk p h1]
  exact h p q (by omega) h2 h3 h4
theorem Bl.sorted {n c a e s : Nat} {d : Array α} (h : Bl lt n a e d) (h1 : a ≤ c * n) (h2 : s ≤ c * n + n) (h3 : s ≤ e) : SortedIn lt (c * n) s d := by
  intro p q hp hpq hq
  refine h p q (by omega) hpq (by omega) ?_
  rw [blk_div hp (by omega), blk_div (show c * n ≤ q by omega) (by omega)]
theorem Bl.all {n e : Nat} {d : Array α} (h : Bl lt n 0 e d) (he : e ≤ n) : SortedIn lt 0 e d := by
  intro p q hp hpq hq
  exact h p q hp hpq hq (by rw [Nat.div_eq_of_lt (by omega), Nat.div_eq_of_lt (by omega)])

end Go.Proofs.YthgmicingbjemaaDoor.Stable
