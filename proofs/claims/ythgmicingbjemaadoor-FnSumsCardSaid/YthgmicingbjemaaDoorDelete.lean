/- slices.DeleteFunc over entries of the call's own, by the closure that asks for the weight 0: what is left, in its order, each row still apart. -/
import Derived.Test.YthgmicingbjemaaDoorSorted
import Derived.Test.YthgmicingbjemaaDoorWApart
import Derived.Deep.LoopGhost
import Derived.Deep.Cut
set_option linter.unusedVariables false
namespace Go.Proofs.YthgmicingbjemaaDoor.Delete
open Go.RowKit Go.Sort Go.Lib Go.Proofs.YthgmicingbjemaaDoorW.PrintWords Go.Proofs.YthgmicingbjemaaDoorW.PrintLast Go.Proofs.YthgmicingbjemaaDoor.Sum Go.Proofs.YthgmicingbjemaaDoor.Sorted

/-- No entry has the weight 0. -/
def NoZero (xs : List En) : Prop := ∀ x ∈ xs, x.2 ≠ 0
set_option maxHeartbeats 4000000 in
set_option maxRecDepth 100000 in
theorem closure0 (u : Value) (x : Int) (w : World) : Calls Tryd.prog 38 #[.agg #[u, .int .i64 x]] w fun e w' => e = .returned (.bool (x == 0)) ∧ Below w.heap.size w w' := by
  have hu := Tryd.underlying31
  go_enter Tryd.func38, Tryd.ntmps38
  go_wp2
  go_ret
  exact ⟨rfl, below_alloc (Below.refl _ _) _⟩
theorem at_P {w : World} {A : Option Addr} {n : Nat} {xs : List En} (h : Kd.C kP w A n xs) (i : Nat) (hi : i < xs.length) : ∃ ad A0 c0, A = some ad ∧ w.cell? (ad.add (i * 2)) = some (.slice A0 xs[i].1.length c0) ∧ w.cell? ⟨(ad.add (i * 2)).block, (ad.add (i * 2)).off + 1, none⟩ = some (.int .i64 xs[i].2) ∧ xs[i].1.length ≤ c0 ∧ (Kd.int .i64).C w A0 xs[i].1.length xs[i].1 := by
  have hn := h.1
  obtain ⟨ad, c, e, _, hK, hc0⟩ := Kd.C_get h ([], 0) (i : Int) (by omega) (by omega)
  have hg : xs.getD (i : Int).toNat ([], 0) = xs[i] := by rw [Int.toNat_natCast, List.getD_eq_getElem?_getD, List.getElem?_eq_getElem hi]; rfl
  rw [hg] at hK
  have hc : ∀ j u, c[j]? = some u → w.cell? (ad.add (i * 2 + j)) = some u := hc0
  obtain ⟨_, _, rfl, ⟨A0, c0, rfl, l0, g0⟩, h2⟩ := hK
  obtain rfl := h2
  exact ⟨ad, A0, c0, e, hc 0 _ rfl, by rw [← add_field _ _ 1 (by omega)]; exact hc 1 _ rfl, l0, g0⟩
set_option maxHeartbeats 8000000 in
set_option maxRecDepth 100000 in
/-- slices.IndexFunc: the first entry of weight 0. -/
theorem indexZero (A : Option Addr) (c : Nat) (xs : List En) (w : World) (hC : Kd.C kP w A xs.length xs) (hc : xs.length ≤ c) :
    Calls Tryd.prog 55 #[.slice A xs.length c, .func (.func 38) #[] #[]] w fun e w' => ∃ r : Int, e = .returned (.int .i64 r) ∧ ((r = -1 ∧ NoZero xs) ∨ ∃ i : Nat, r = (i : Int) ∧ ∃ h : i < xs.length, xs[i].2 = 0 ∧ ∀ (j : Nat) (hj : j < i), xs[j].2 ≠ 0) ∧ Below w.heap.size w w' := by
  have hu := Tryd.underlying31
  have e95 : ∀ args w, (callFunc 38 args).run Tryd.prog w = .ok (.enter 38 args) w := enters_of Tryd.func38 (by kernel_rfl) rfl
  have HC := Aside0.mk hC
  have hn : xs.length ≤ 9223372036854775807 := hC.2.1
  clear hC
  go_enter Tryd.func55, Tryd.ntmps55
  go_wp2
  go_loopg [8] xs.length (fun kx v8 wr => ∃ i : Nat, v8 = .int .i64 i ∧ i ≤ xs.length ∧ xs.length - i ≤ kx ∧ Aside0 (Below w.heap.size w wr) ∧ Aside0 (∀ (j : Nat) (hj : j < xs.length), j < i → xs[j].2 ≠ 0))
  case atStart => exact ⟨0, rfl, by omega, by omega, ⟨Below.refl _ _⟩, ⟨fun j _ h => by omega⟩⟩
  case round =>
    obtain ⟨i, rfl, hi, hkx, HB, HI⟩ := hrel
    by_cases hlt : i < xs.length
    · have hltz : (i : Int) < (xs.length : Int) := by omega
      have hz : (0 : Int) ≤ (i : Int) := by omega
      obtain ⟨ad, A0, c0, e, h1, h2, _, _⟩ := at_P HC.out i hlt
      cases e
      replace h1 := (HB.out.cell (World.block_lt_of_cell? w _ h1)).trans h1
      replace h2 := (HB.out.cell (World.block_lt_of_cell? w _ h2)).trans h2
      obtain ⟨x, hx⟩ : ∃ x, x = xs[i].2 := ⟨_, rfl⟩
      obtain ⟨u, hu_⟩ : ∃ u, u = Value.slice A0 xs[i].1.length c0 := ⟨_, rfl⟩
      have hone : u.oneCell' = true := by rw [hu_]; rfl
      rw [← hx] at h2
      rw [← hu_] at h1
      have HX := Aside0.mk hx
      clear hx hu_
      by_cases h0 : x = 0
      · have hb : (x == 0) = true := beq_iff_eq.mpr h0
        have H0 := Aside0.mk h0
        clear h0
        go_wp2_with (first | (go_at_call 38; refine (closure0 u x _).mono ?_; rintro e w2 ⟨rfl, hb2⟩))
        go_ret
        exact ⟨_, rfl, .inr ⟨i, rfl, hlt, HX.out.symm.trans H0.out, fun j hj => HI.out j (by omega) hj⟩, below_step HB.out hb2⟩
      · have hb : (x == 0) = false := beq_eq_false_iff_ne.mpr h0
        have H0 := Aside0.mk h0
        clear h0
        go_wp2_with (first | (go_at_call 38; refine (closure0 u x _).mono ?_; rintro e w2 ⟨rfl, hb2⟩))
        have HB2 := Aside0.mk (below_step HB.out hb2)
        clear hb2
        go_roundg (xs.length - (i + 1))
        case measure => omega
        case rel => exact ⟨i + 1, by first | rfl | (simp; done), by omega, Nat.le_refl _, HB2, ⟨fun j hj hji => by
          by_cases e : j = i
          · subst e; rw [← HX.out]; exact H0.out
          · exact HI.out j hj (by omega)⟩⟩
    · have hltz : ¬ (i : Int) < (xs.length : Int) := by omega
      have hall : Aside0 (NoZero xs) := ⟨fun x hx => by
        obtain ⟨j, hj, rfl⟩ := List.mem_iff_getElem.1 hx
        exact HI.out j hj (by omega)⟩
      go_wp2
      go_ret
      exact ⟨_, rfl, .inl ⟨rfl, hall.out⟩, HB.out⟩
/-! The row as it is rewritten. -/
theorem zip_get {xs : List En} {j : Nat} (h : j < xs.length) : xs.zipIdx[j]? = some (xs[j], j) := by
  rw [List.getElem?_zipIdx, List.getElem?_eq_getElem h, Nat.zero_add]; rfl
/-- A row told with owners that part: its elements lie apart. -/
theorem S_of_tags {f : Nat → Nat} {w : World} {base : Nat} {ok : Nat → Prop} {v : Value} {ys : List (En × Nat)} (h : (Kd.tag f kP).R 31 w base ok v ys) (hd : ∀ (i j : Nat) (p q : En × Nat), ys[i]? = some p → ys[j]? = some q → p.2 = q.2 → i = j) : Kd.S kP 31 w base ok v (ys.map Prod.fst) := by
  obtain ⟨h0, inner, ho, hr⟩ := h
  refine ⟨fun k => ys.findIdx (fun p => p.2 == f k), h0, inner, by rw [List.length_zipIdx, List.length_map]; exact ho, by rw [List.length_zipIdx, List.length_map]; exact hr.1, fun j p hj => ?_⟩
  rw [List.getElem?_zipIdx, List.getElem?_map] at hj
  obtain ⟨x, hx, rfl⟩ := Option.map_eq_some_iff.1 hj
  obtain ⟨q, hq, rfl⟩ := Option.map_eq_some_iff.1 hx
  have hM := hr.2 j q hq
  show kP.M w base _ q.1 _
  refine kP.M_mono (fun k hk => ⟨hk.1, ?_⟩) hM
  obtain ⟨_, hk⟩ := hk
  show ys.findIdx (fun p => p.2 == f k) = 0 + j
  rw [Nat.zero_add]
  obtain ⟨hlt, hqe⟩ := List.getElem?_eq_some_iff.1 hq
  have hex : ∃ p ∈ ys, (p.2 == f k) = true := ⟨q, List.mem_of_getElem? hq, by rw [beq_iff_eq]; exact hk.symm⟩
  have hfl := List.findIdx_lt_length_of_exists hex
  have hp := List.findIdx_getElem (w := hfl)
  refine hd _ j _ q (List.getElem?_eq_getElem hfl) hq ?_
  rw [beq_iff_eq] at hp
  exact hp.trans hk
/-- The state of the loop: the first i places hold what is kept of the first j, from j on all is as it was. -/
structure Cut (xs : List En) (i j : Nat) (ys : List (En × Nat)) : Prop where
  len : ys.length = xs.length
  lt : i < j
  head : ys.take i = (xs.zipIdx.take j).filter (fun p => decide (p.1.2 ≠ 0))
  tail : ∀ q, j ≤ q → ys[q]? = xs.zipIdx[q]?
theorem Cut.start {xs : List En} {i : Nat} (hi : i < xs.length) (h0 : xs[i].2 = 0) (hb : ∀ (j : Nat) (hj : j < i), xs[j].2 ≠ 0) : Cut xs i (i + 1) xs.zipIdx := by
  refine ⟨by rw [List.length_zipIdx], by omega, ?_, fun q _ => rfl⟩
  rw [List.take_add_one, zip_get hi, List.filter_append]
  have e1 : ([(xs[i], i)].filter (fun p : En × Nat => decide (p.1.2 ≠ 0))) = [] := by simp [h0]
  show _ = _ ++ [(xs[i], i)].filter _
  rw [e1, List.append_nil]
  refine (List.filter_eq_self.2 fun p hp => ?_).symm
  obtain ⟨j, hj, rfl⟩ := List.mem_iff_getElem.1 hp
  rw [List.length_take, List.length_zipIdx] at hj
  rw [List.getElem_take, List.getElem_zipIdx]
  exact decide_eq_true (hb j (by omega))
theorem Cut.keep {xs : List En} {i j : Nat} {ys : List (En × Nat)} (h : Cut xs i j ys) (hj : j < xs.length) (hk : xs[j].2 ≠ 0) : Cut xs (i + 1) (j + 1) (ys.set i (xs[j], j)) := by
  have hl := h.len
  have hlt := h.lt
  refine ⟨by rw [List.length_set]; exact hl, by omega, ?_, fun q hq => ?_⟩
  · rw [List.take_add_one, List.take_add_one, zip_get hj, List.filter_append, ← h.head, List.getElem?_set, if_pos rfl, if_pos (by omega)]
    have e1 : ([(xs[j], j)].filter (fun p : En × Nat => decide (p.1.2 ≠ 0))) = [(xs[j], j)] := by simp [hk]
    show _ ++ [(xs[j], j)] = _ ++ [(xs[j], j)].filter _
    rw [e1]
    congr 1
    apply List.ext_getElem?
    intro q
    rw [List.getElem?_take, List.getElem?_take]
    split
    · rw [List.getElem?_set, if_neg (by omega)]
    · rfl
  · rw [List.getElem?_set, if_neg (by omega)]
    exact h.tail q (by omega)
theorem Cut.skip {xs : List En} {i j : Nat} {ys : List (En × Nat)} (h : Cut xs i j ys) (hj : j < xs.length) (hk : xs[j].2 = 0) : Cut xs i (j + 1) ys := by
  have hlt := h.lt
  refine ⟨h.len, by omega, ?_, fun q hq => h.tail q (by omega)⟩
  rw [List.take_add_one, zip_get hj, List.filter_append, ← h.head]
  have e1 : ([(xs[j], j)].filter (fun p : En × Nat => decide (p.1.2 ≠ 0))) = [] := by simp [hk]
  show _ = _ ++ [(xs[j], j)].filter _
  rw [e1, List.append_nil]
/-- What is left. -/
def left (xs : List En) : List En := xs.filter (fun e => decide (e.2 ≠ 0))
theorem zip_filter (xs : List En) (n : Nat) : ((xs.zipIdx n).filter (fun p => decide (p.1.2 ≠ 0))).map Prod.fst = left xs := by
  induction xs generalizing n with
  | nil => rfl
  | cons x xs ih =>
    rw [List.zipIdx_cons, List.filter_cons]
    unfold left
    rw [List.filter_cons]
    split
    · rw [List.map_cons, ih]; rfl
    · rw [ih]; rfl
theorem Cut.done {xs : List En} {i j : Nat} {ys : List (En × Nat)} (h : Cut xs i j ys) (hj : xs.length ≤ j) : (ys.take i).map Prod.fst = left xs ∧ (left xs).length = min i xs.length ∧ ∀ (a b : Nat) (p q : En × Nat), (ys.take i)[a]? = some p → (ys.take i)[b]? = some q → p.2 = q.2 → a = b := by
  have e : (ys.take i).map Prod.fst = left xs := by
    rw [h.head, List.take_of_length_le (by rw [List.length_zipIdx]; exact hj)]
    exact zip_filter xs 0
  refine ⟨e, ?_, ?_⟩
  · rw [← e, List.length_map, List.length_take, h.len]
  · have hnd : ((ys.take i).map Prod.snd).Nodup := by
      rw [h.head]
      have h1 : (xs.zipIdx.map Prod.snd).Nodup := by
        rw [List.zipIdx_map_snd]
        exact List.nodup_range'
      exact (h1.sublist ((((List.take_sublist j xs.zipIdx).map _)))).sublist ((List.filter_sublist).map _)
    intro a b p q ha hb hpq
    have ha' : ((ys.take i).map Prod.snd)[a]? = some p.2 := by rw [List.getElem?_map, ha]; rfl
    have hb' : ((ys.take i).map Prod.snd)[b]? = some p.2 := by rw [List.getElem?_map, hb, hpq]; rfl
    obtain ⟨hal, hae⟩ := List.getElem?_eq_some_iff.1 ha'
    obtain ⟨hbl, hbe⟩ := List.getElem?_eq_some_iff.1 hb'
    have hpw := List.pairwise_iff_getElem.1 hnd
    rcases Nat.lt_trichotomy a b with c | c | c
    · exact absurd (hae.trans hbe.symm) (hpw a b hal hbl c)
    · exact c
    · exact absurd (hbe.trans hae.symm) (hpw b a hbl hal c)
/-- 'clear(s)' over entries. -/
theorem run_clear (w : World) (b o n c : Nat) (hn : 0 < n) (hc : ∀ j, j < n * 2 → (w.cell? ⟨b, o + j, none⟩).isSome = true) (hf : ∀ j, j < n * 2 → w.frozen? ⟨b, o + j, none⟩ = false) :
    ∃ vs : List Value, ∀ ty, (Builtin.clear_ #[24] ty #[.slice (some ⟨b, o, none⟩) n c]).run Tryd.prog w = .ok (.tuple #[]) (w.setCells b o vs) := by
  have hz : ∀ w, (zeroValue 31).run Tryd.prog w = .ok (.agg #[.slice none 0 0, .int .i64 0]) w := Tryd.zeroValue31
  have hlen : (Builtin.zeroCells (Value.agg #[.slice none 0 0, .int .i64 0]).cells n).toList.length = n * 2 := by
    simp [Builtin.zeroCells, Value.cells]
  have hone : ∀ v ∈ (Builtin.zeroCells (Value.agg #[.slice none 0 0, .int .i64 0]).cells n).toList, v.oneCell' = true := by
    intro v hv
    simp [Builtin.zeroCells, Value.cells] at hv
    obtain ⟨k, _, rfl⟩ := hv
    rcases Nat.mod_two_eq_zero_or_one k with h | h <;> rw [h] <;> rfl
  have hst := run_storeCells_cells (P := Tryd.prog) b o _ 0 w (by rw [hlen]; simpa using hc) (by rw [hlen]; simpa using hf) hone
  simp only [Nat.add_zero] at hst
  refine ⟨(Builtin.zeroCells (Value.agg #[.slice none 0 0, .int .i64 0]).cells n).toList, fun ty => ?_⟩
  obtain ⟨m, rfl⟩ : ∃ m, n = m + 1 := ⟨n - 1, by omega⟩
  simp [Builtin.clear_, run_underlying Tryd.underlying24, hz, hst]
theorem heap_setCells {g : Nat} {e : TypeId} : ∀ (vs : List Value) (s : Nat) (W : World) (cur : Array Value), W.heap[g]? = some (.cells cur e (0, 0)) → ∃ cur' : Array Value, (W.setCells g s vs).heap[g]? = some (.cells cur' e (0, 0)) ∧ cur'.size = cur.size ∧ ∀ q, q < s → cur'[q]? = cur[q]?
  | [], s, W, cur, h => ⟨cur, h, rfl, fun _ _ => rfl⟩
  | v :: vs, s, W, cur, h => by
    obtain ⟨cur', h1, h2, h3⟩ := heap_setCells vs (s + 1) (W.setCell ⟨g, s, none⟩ v) (cur.setIfInBounds s v) (blk_put h s v rfl)
    exact ⟨cur', h1, h2.trans (by simp), fun q hq => (h3 q (by omega)).trans (by rw [Array.getElem?_setIfInBounds, if_neg (by omega)])⟩
/-- Cells behind a row's own length are written: the row is as it was. -/
theorem R_behind {α : Type} {d : Kd α} {e base g n c s : Nat} {ok : Nat → Prop} {W : World} {ys : List α} (h : d.R e W base ok (.slice (some ⟨g, 0, none⟩) n c) ys) (vs : List Value) (hs : n * d.sz ≤ s) : d.R e (W.setCells g s vs) base ok (.slice (some ⟨g, 0, none⟩) n c) ys := by
  obtain ⟨h0, inner, ho, hr⟩ := h
  refine ⟨h0, inner, ?_, hr.imp_ (fun p cs hp => Kd.M_step hp (fun k hk _ => setCells_far vs s k (fun e_ => hk.2 (by rw [e_]; rfl))))⟩
  obtain ⟨hl, hv⟩ := ho
  refine ⟨hl, ?_⟩
  rcases hv with ⟨hv, _⟩ | ⟨g', cap', cur, hv, hb, hh, h1, h2, h3, htake⟩
  · cases hv
  · have hv0 := hv
    injection hv with e1 e2 e3
    injection e1 with e1
    injection e1 with e1
    subst e1
    obtain ⟨cur', hcur', hsz', hget⟩ := heap_setCells vs s W cur hh
    refine .inr ⟨g, cap', cur', hv0, hb, hcur', h1, h2, hsz'.trans h3, ?_⟩
    rw [← htake]
    apply List.ext_getElem?
    intro q
    rw [List.getElem?_take, List.getElem?_take]
    rw [e2] at hs
    by_cases hq : q < ys.length * d.sz
    · rw [if_pos hq, if_pos hq, Array.getElem?_toList, Array.getElem?_toList]
      exact hget q (Nat.lt_of_lt_of_le hq hs)
    · rw [if_neg hq, if_neg hq]
theorem below_put {B g : Nat} {a W : World} (h : Below B a W) (hg : B ≤ g) (j : Nat) (u : Value) : Below B a (W.setCell ⟨g, j, none⟩ u) := h.trans ⟨rfl, rfl, rfl, by simp [World.setCell], fun k hk => Below.heap_setCell W ⟨g, j, none⟩ u k (show k ≠ g by omega)⟩
theorem two_of {l : List Value} (h : l.length = 2) : ∃ a b, l = [a, b] := by
  match l, h with
  | [a, b], _ => exact ⟨a, b, rfl⟩
set_option maxHeartbeats 8000000 in
set_option maxRecDepth 100000 in
/-- slices.DeleteFunc by the weight 0. -/
theorem deleteZero (v : Value) (xs : List En) (base : Nat) (w : World) (hS : Kd.S kP 31 w base (fun _ => True) v xs) (hbase : base ≤ w.heap.size) :
    Calls Tryd.prog 37 #[v, .func (.func 38) #[] #[]] w fun e w' => ∃ v' : Value, e = .returned v' ∧ Kd.S kP 31 w' base (fun _ => True) v' (left xs) ∧ Below base w w' := by
  have hu := Tryd.underlying31
  obtain ⟨A, c, rfl, hc, hC⟩ := Kd.S_reads hS
  have HS := Aside0.mk hS
  have HC := Aside0.mk hC
  have HCap := Aside0.mk hc
  have hn : xs.length ≤ 9223372036854775807 := hC.2.1
  clear hS hC hc
  go_enter Tryd.func37, Tryd.ntmps37
  go_upto_if 12 with (first | (go_at_call 55; refine (indexZero A c xs w HC.out HCap.out).mono ?_; rintro e w1 ⟨r, rfl, hr, hb1⟩))
  rcases hr with ⟨rfl, hz⟩ | ⟨i0, rfl, hi0, hz0, hbef⟩
  · -- nothing to strike
    have hbb : ((-1 : Int) == -1) = true := rfl
    have hl : left xs = xs := List.filter_eq_self.2 fun x hx => decide_eq_true (hz x hx)
    have HL := Aside0.mk hl
    have HB1 := Aside0.mk hb1
    clear hz hl hb1
    go_wp2
    go_ret
    exact ⟨_, rfl, by rw [HL.out]; exact Kd.S_below HS.out HB1.out, HB1.out.mono hbase⟩
  · have hbb : ((i0 : Int) == -1) = false := beq_eq_false_iff_ne.mpr (by omega)
    have hpos : 0 < xs.length := by omega
    obtain ⟨g, cap', he, hg0, hg1, _⟩ := Kd.S_form HS.out hpos
    obtain ⟨rfl, rfl⟩ : A = some ⟨g, 0, none⟩ ∧ c = cap' := by injection he with h1 _ h3; exact ⟨h1, h3⟩
    clear he
    obtain ⟨f, hR0⟩ := Kd.S_below HS.out hb1
    have HR := Aside0.mk hR0
    have HB := Aside0.mk (hb1.mono hbase)
    have HSZ := Aside0.mk hb1.size
    have HCUT := Aside0.mk (Cut.start hi0 hz0 hbef)
    have HG1 := Aside0.mk hg1
    have HG0 := Aside0.mk hg0
    clear hR0 hb1 hz0 hbef hg1 hg0
    go_wp2
    go_loopg [5, 6] xs.length (fun kx s5 s6 wr => ∃ (i j : Nat) (ys : List (En × Nat)), s5 = .int .i64 i ∧ s6 = .int .i64 j ∧ j ≤ xs.length ∧ xs.length - j ≤ kx ∧ Aside0 (Cut xs i j ys) ∧ Aside0 ((Kd.tag f kP).R 31 wr base (fun _ => True) (.slice (some ⟨g, 0, none⟩) xs.length c) ys) ∧ Aside0 (Below base w wr))
    case atStart => exact ⟨i0, i0 + 1, xs.zipIdx, rfl, by first | rfl | (simp; done), by omega, by omega, HCUT, HR, HB⟩
    case round =>
      clear HR HB HCUT
      obtain ⟨i, j, ys, rfl, rfl, hj, hkx, HCUT, HR, HB⟩ := hrel
      have hij := HCUT.out.lt
      have hgw : g < wr.heap.size := Nat.lt_of_lt_of_le HG1.out HB.out.size
      have hbw : base ≤ wr.heap.size := Nat.le_trans hbase HB.out.size
      by_cases hlt : j < xs.length
      · have hltz : (j : Int) < (xs.length : Int) := by omega
        have hiz : (i : Int) < (xs.length : Int) := by omega
        have hz1 : (0 : Int) ≤ (j : Int) := by omega
        have hz2 : (0 : Int) ≤ (i : Int) := by omega
        have hyj : ys.getD (j : Int).toNat (([], 0), 0) = (xs[j], j) := by
          rw [Int.toNat_natCast, List.getD_eq_getElem?_getD, HCUT.out.tail j (Nat.le_refl _), zip_get hlt]; rfl
        obtain ⟨cj, hcl, hM, hcc, _⟩ := Kd.R_elem HR.out (([], 0), 0) (j : Int) hz1 hltz
        rw [hyj] at hM
        have HM := Aside0.mk hM
        obtain ⟨_, _, rfl, ⟨v0, rfl, hR0⟩, h2⟩ := hM
        obtain rfl := h2
        obtain ⟨A0, c0, hv0⟩ := Kd.R_slice hR0
        subst hv0
        have e1 : wr.cell? ⟨g, j * 2, none⟩ = some (.slice A0 xs[j].1.length c0) := hcc 0 _ rfl
        have e2 : wr.cell? ⟨g, j * 2 + 1, none⟩ = some (.int .i64 xs[j].2) := hcc 1 _ rfl
        clear hcc hR0 hcl hyj
        obtain ⟨x, hx⟩ : ∃ x, x = xs[j].2 := ⟨_, rfl⟩
        rw [← hx] at e2
        have HX := Aside0.mk hx
        clear hx
        have HGW := Aside0.mk hgw
        have HBW := Aside0.mk hbw
        clear hgw hbw
        go_upto_region 8 with (first | ((with_reducible refine gate_dst (N := 7) rfl ?_); refine box_event ?hg (N := 7) ?hd (cs := #[.slice none 0 0, .int .i64 0]) (t := 31) ?hr ?_; (case hd => rfl); (case hg => rfl); (case hr => first | (go_simp; done) | (go_simp; rfl)); intro gb hg w14 hbox hb; have HBX := Aside0.mk hbox; have HBB := Aside0.mk hb; have HGB := Aside0.mk hg; clear hb hg hbox; have hcz0 : w14.cell? ⟨gb, 0, none⟩ = some (.slice none 0 0) := (blk_cell HBX.out 0).trans rfl; have hcz1 : w14.cell? ⟨gb, 1, none⟩ = some (.int .i64 0) := (blk_cell HBX.out 1).trans rfl; have hfz0 := blk_frozen HBX.out 0; have hfz1 := blk_frozen HBX.out 1))
        have hgb : gb = wr.heap.size := HGB.out
        have hw16 : ∃ w16, w16 = ((w14.setCell ⟨gb, 0, none⟩ (.slice A0 xs[j].1.length c0)).setCell ⟨gb, 1, none⟩ (.int .i64 x)) := ⟨_, rfl⟩
        obtain ⟨w16, hw16⟩ := hw16
        have hbk : w16.heap[gb]? = some (.cells #[.slice A0 xs[j].1.length c0, .int .i64 x] 31 (0, 0)) := by
          rw [hw16]
          refine blk_put (cs := #[.slice A0 xs[j].1.length c0, .int .i64 0]) ?_ 1 _ rfl
          exact blk_put (cs := #[.slice none 0 0, .int .i64 0]) HBX.out 0 _ rfl
        have hk16 : ∀ k, k < wr.heap.size → w16.heap[k]? = wr.heap[k]? := fun k hk => by
          rw [hw16, Below.heap_setCell _ ⟨gb, 1, none⟩ _ k (show k ≠ gb by omega), Below.heap_setCell _ ⟨gb, 0, none⟩ _ k (show k ≠ gb by omega)]
          exact HBB.out.block k hk
        have hb16 : Below wr.heap.size wr w16 := by
          refine ⟨?_, ?_, ?_, ?_, hk16⟩ <;> rw [hw16]
          · exact HBB.out.os
          · exact HBB.out.tape
          · exact HBB.out.output
          · simp only [World.setCell, Array.size_modify]; exact HBB.out.size
        rw [← hw16]
        have hc0 : w16.cell? ⟨gb, 0, none⟩ = some (.slice A0 xs[j].1.length c0) := (blk_cell hbk 0).trans rfl
        have hc1 : w16.cell? ⟨gb, 1, none⟩ = some (.int .i64 x) := (blk_cell hbk 1).trans rfl
        have HB16 := Aside0.mk hb16
        have HBK := Aside0.mk hbk
        clear hgb hw16 hbk hk16 hb16 hcz0 hcz1 hfz0 hfz1 HBX HBB e1 e2
        by_cases h0 : x = 0
        · have hb : (x == 0) = true := beq_iff_eq.mpr h0
          have H0 := Aside0.mk h0
          clear h0
          go_wp2_with (first | (go_at_call 38; refine (closure0 _ x _).mono ?_; rintro e w17 ⟨rfl, hb2⟩))
          have HB17 := Aside0.mk (below_step HB16.out hb2)
          clear hb2
          go_roundg (xs.length - (j + 1))
          case measure => omega
          case rel => exact ⟨i, j + 1, ys, rfl, by first | rfl | (simp; done), by omega, Nat.le_refl _, ⟨HCUT.out.skip hlt (HX.out.symm.trans H0.out)⟩, ⟨Kd.R_below HR.out HB17.out⟩, ⟨HB.out.trans (HB17.out.mono HBW.out)⟩⟩
        · have hb : (x == 0) = false := beq_eq_false_iff_ne.mpr h0
          have H0 := Aside0.mk h0
          clear h0
          go_wp2_with (first | (go_at_call 38; refine (closure0 _ x _).mono ?_; rintro e w17 ⟨rfl, hb2⟩; have k0 : w17.cell? ⟨gb, 0, none⟩ = some (.slice A0 xs[j].1.length c0) := (hb2.cell (World.block_lt_of_cell? w16 _ hc0)).trans hc0; have k1 : w17.cell? ⟨gb, 1, none⟩ = some (.int .i64 x) := (hb2.cell (World.block_lt_of_cell? w16 _ hc1)).trans hc1; have HB17 := Aside0.mk (below_step HB16.out hb2); have HT := Aside0.mk (Kd.R_below HR.out HB17.out); obtain ⟨ci, hcli, _, hcci, hfri⟩ := Kd.R_elem HT.out (([], 0), 0) (i : Int) hz2 hiz; obtain ⟨a0, a1, rfl⟩ := two_of hcli; have t0 : w17.cell? ⟨g, i * 2, none⟩ = some a0 := hcci 0 _ rfl; have t1 : w17.cell? ⟨g, i * 2 + 1, none⟩ = some a1 := hcci 1 _ rfl; have f0 : w17.frozen? ⟨g, i * 2, none⟩ = false := hfri 0; have f1 : w17.frozen? ⟨g, i * 2 + 1, none⟩ = false := hfri 1; have HCL := Aside0.mk hcli; have HCC := Aside0.mk hcci; clear hcli hcci hfri hb2 hc0 hc1))
          go_roundg (xs.length - (j + 1))
          case measure => omega
          case rel =>
            have hseg := (Kd.R_seg HT.out (i : Int) hz2 hiz (seg := [.slice A0 xs[j].1.length c0, .int .i64 x]) (j := 0) HCL.out HCC.out (show 0 + 2 ≤ 2 from Nat.le_refl 2) (x' := (xs[j], j)) (okp := fun k => True ∧ k ≠ g) (by rw [HX.out]; exact Kd.M_below HM.out HB17.out) (fun _ h => h)).1
            exact ⟨i + 1, j + 1, ys.set i (xs[j], j), by first | rfl | (simp; done), by first | rfl | (simp; done), by omega, Nat.le_refl _, ⟨HCUT.out.keep hlt (fun h => H0.out (HX.out.trans h))⟩, ⟨hseg⟩, ⟨below_put (below_put (HB.out.trans (HB17.out.mono HBW.out)) HG0.out _ _) HG0.out _ _⟩⟩
      · have hltz : ¬ (j : Int) < (xs.length : Int) := by omega
        have hin : i < xs.length := by omega
        obtain ⟨vs, hcl⟩ := run_clear wr g (i * 2) (xs.length - i) (c - i) (by omega) (fun q hq => by
          obtain ⟨cq, hclq, _, hccq, _⟩ := Kd.R_elem HR.out (([], 0), 0) ((i + q / 2 : Nat) : Int) (by omega) (by omega)
          obtain ⟨a0, a1, rfl⟩ := two_of hclq
          rcases Nat.mod_two_eq_zero_or_one q with h | h
          · have := hccq 0 _ rfl
            rw [show i * 2 + q = ((i + q / 2 : Nat) : Int).toNat * (Kd.tag f kP).sz + 0 by show _ = _ * 2 + 0; omega, this]; rfl
          · have := hccq 1 _ rfl
            rw [show i * 2 + q = ((i + q / 2 : Nat) : Int).toNat * (Kd.tag f kP).sz + 1 by show _ = _ * 2 + 1; omega, this]; rfl) (fun q hq => by
          obtain ⟨_, _, _, _, hfq⟩ := Kd.R_elem HR.out (([], 0), 0) ((i : Nat) : Int) (by omega) (by omega)
          have := hfq q
          rw [show i * 2 + q = (i : Int).toNat * (Kd.tag f kP).sz + q by show _ = _ * 2 + q; omega]; exact this)
        have hic : (i : Int) ≤ (xs.length : Int) := by omega
        have hcc : xs.length ≤ c := HCap.out
        have HDONE := Aside0.mk (HCUT.out.done (by omega))
        have hfin := R_behind (Kd.R_take HR.out (m := i) (by rw [HCUT.out.len]; omega)) vs (s := i * 2) (Nat.le_refl _)
        have HFIN := Aside0.mk hfin
        clear hfin
        go_wp2
        go_ret
        refine ⟨_, rfl, ?_, HB.out.trans ⟨(setCells_same g vs (i * 2) wr).1, (setCells_same g vs (i * 2) wr).2.1, (setCells_same g vs (i * 2) wr).2.2.1, by rw [(setCells_same g vs (i * 2) wr).2.2.2]; exact Nat.le_refl _, fun k hk => setCells_far vs (i * 2) k (by have := HG0.out; omega)⟩⟩
        rw [← HDONE.out.1]
        exact S_of_tags HFIN.out HDONE.out.2.2
/-! Rows of structs and rows of pairs. -/
theorem S_of_iso {α : Type} {d : Kd En} {g : α → En} {e base : Nat} {w : World} {ok : Nat → Prop} {v : Value} {xs : List α} (h : Kd.S (Kd.iso d g) e w base ok v xs) : Kd.S d e w base ok v (xs.map g) := by
  obtain ⟨f, h0, inner, ho, hr⟩ := h
  rw [List.length_zipIdx] at ho
  have hr1 := hr.1
  rw [List.length_zipIdx] at hr1
  refine ⟨f, h0, inner, by rw [List.length_zipIdx, List.length_map]; exact ho, by rw [List.length_zipIdx, List.length_map]; exact hr1, fun j p hj => ?_⟩
  rw [List.getElem?_zipIdx, List.getElem?_map] at hj
  obtain ⟨y, hy, rfl⟩ := Option.map_eq_some_iff.1 hj
  obtain ⟨x, hx, rfl⟩ := Option.map_eq_some_iff.1 hy
  exact hr.2 j (x, 0 + j) (by rw [List.getElem?_zipIdx, hx]; rfl)
theorem S_iso {α : Type} {d : Kd En} {g : α → En} {e base : Nat} {w : World} {ok : Nat → Prop} {v : Value} {xs : List α} (h : Kd.S d e w base ok v (xs.map g)) : Kd.S (Kd.iso d g) e w base ok v xs := by
  obtain ⟨f, h0, inner, ho, hr⟩ := h
  rw [List.length_zipIdx, List.length_map] at ho
  have hr1 := hr.1
  rw [List.length_zipIdx, List.length_map] at hr1
  refine ⟨f, h0, inner, by rw [List.length_zipIdx]; exact ho, by rw [List.length_zipIdx]; exact hr1, fun j p hj => ?_⟩
  rw [List.getElem?_zipIdx] at hj
  obtain ⟨x, hx, rfl⟩ := Option.map_eq_some_iff.1 hj
  exact hr.2 j (g x, 0 + j) (by rw [List.getElem?_zipIdx, List.getElem?_map, hx]; rfl)
end Go.Proofs.YthgmicingbjemaaDoor.Delete
