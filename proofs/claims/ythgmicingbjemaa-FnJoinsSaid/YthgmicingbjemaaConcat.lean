/- slices.Concat of two rows: the elements of the one, then those of the other, in a row of the call's own; whatever rows come in. -/
import Derived.Test.YthgmicingbjemaaProg
import Derived.Test.YthgmicingbjemaaWApart
import Derived.Test.YthgmicingbjemaaWZeros
import Derived.Test.YthgmicingbjemaaWLast
import Derived.Test.YthgmicingbjemaaWMore
import Derived.Deep.LoopGhost
import Derived.Deep.Cut
set_option linter.unusedVariables false
namespace Go.Proofs.Ythgmicingbjemaa.Concat
open Go.RowKit Go.Proofs.YthgmicingbjemaaW.PrintWords Go.Proofs.YthgmicingbjemaaW.PrintLast
variable {α : Type}
theorem two_of_C {d : Kd α} {e : Nat} {w : World} {A : Option Addr} {l0 l1 : List α} (h : Kd.C (Kd.slice e d) w A 2 [l0, l1]) :
    ∃ ad A0 c0 A1 c1, A = some ad ∧ w.cell? (ad.add 0) = some (.slice A0 l0.length c0) ∧ l0.length ≤ c0 ∧ Kd.C d w A0 l0.length l0 ∧ w.cell? (ad.add 1) = some (.slice A1 l1.length c1) ∧ l1.length ≤ c1 ∧ Kd.C d w A1 l1.length l1 := by
  obtain ⟨ad, hA, hc⟩ := h.2.2 (by omega)
  obtain ⟨_, _, ⟨A0, c0, rfl, h00, h01⟩, hcell0⟩ := hc 0 l0 rfl
  obtain ⟨_, _, ⟨A1, c1, rfl, h10, h11⟩, hcell1⟩ := hc 1 l1 rfl
  exact ⟨ad, A0, c0, A1, c1, hA, hcell0 0 _ rfl, h00, h01, hcell1 0 _ rfl, h10, h11⟩
theorem choose2 {α β : Type} [Inhabited β] {P : α → β → Prop} : ∀ {ps : List α}, (∀ (j : Nat) (p : α), ps[j]? = some p → ∃ e, P p e) → ∃ es : List β, es.length = ps.length ∧ ∀ (j : Nat) (p : α) (e : β), ps[j]? = some p → es[j]? = some e → P p e
  | [], _ => ⟨[], rfl, fun j p e h => by simp at h⟩
  | p :: ps, h => by
    obtain ⟨e, he⟩ := h 0 p rfl
    obtain ⟨es, hl, hs⟩ := choose2 (ps := ps) (fun j q hq => h (j + 1) q (by rw [List.getElem?_cons_succ]; exact hq))
    refine ⟨e :: es, by simp [hl], fun j q f h1 h2 => ?_⟩
    cases j with
    | zero =>
      rw [List.getElem?_cons_zero] at h1 h2
      cases h1; cases h2; exact he
    | succ j => exact hs j q f (by simpa using h1) (by simpa using h2)
/-- The cells of a row that is read. -/
theorem raw_of_C {d : Kd α} {w : World} {A : Option Addr} {n : Nat} {xs : List α} (h : Kd.C d w A n xs) : ∃ zs : List (List Value), zs.length = xs.length ∧ (∀ (j : Nat) (x : α) (c : List Value), xs[j]? = some x → zs[j]? = some c → d.K w x c) ∧ Kd.C (Kd.raw d.sz) w A n zs := by
  rcases Nat.eq_zero_or_pos n with h0 | hn
  · subst h0
    obtain rfl : xs = [] := List.eq_nil_of_length_eq_zero h.1
    exact ⟨[], rfl, fun j x c hx => by simp at hx, rfl, by omega, fun h => by omega⟩
  · obtain ⟨ad, hA, hc⟩ := h.2.2 hn
    have hix : ∀ (j : Nat) (p : α × Nat), xs.zipIdx[j]? = some p → ∃ c : List Value, c.length = d.sz ∧ d.K w p.1 c ∧ ∀ i u, c[i]? = some u → w.cell? (ad.add (p.2 * d.sz + i)) = some u := by
      intro j p hp
      rw [List.getElem?_zipIdx] at hp
      obtain ⟨x, hx, rfl⟩ := Option.map_eq_some_iff.1 hp
      simp only [Nat.zero_add]
      exact hc j x hx
    obtain ⟨zs, hl, hz⟩ := choose2 hix
    rw [List.length_zipIdx] at hl
    have key : ∀ (j : Nat) (x : α) (c : List Value), xs[j]? = some x → zs[j]? = some c → c.length = d.sz ∧ d.K w x c ∧ ∀ i u, c[i]? = some u → w.cell? (ad.add (j * d.sz + i)) = some u := fun j x c hx hcz => hz j (x, j) c (Kd.zip_at hx) hcz
    refine ⟨zs, hl, fun j x c hx hcz => (key j x c hx hcz).2.1, by rw [hl]; exact h.1, h.2.1, fun _ => ⟨ad, hA, fun j c hj => ?_⟩⟩
    have hlt : j < xs.length := by rw [← hl]; exact (List.getElem?_eq_some_iff.1 hj).1
    obtain ⟨k1, k2, k3⟩ := key j _ c (List.getElem?_eq_getElem hlt) hj
    exact ⟨c, k1, ⟨rfl, k1, d.K_one k2⟩, k3⟩
theorem C_of_raw {d : Kd α} {W : World} {A : Option Addr} {n : Nat} {xs : List α} {zs : List (List Value)} (h : Kd.C (Kd.raw d.sz) W A n zs) (hl : zs.length = xs.length) (hk : ∀ (j : Nat) (x : α) (c : List Value), xs[j]? = some x → zs[j]? = some c → d.K W x c) : Kd.C d W A n xs := by
  refine ⟨by rw [← hl]; exact h.1, h.2.1, fun hn => ?_⟩
  obtain ⟨ad, hA, hc⟩ := h.2.2 hn
  refine ⟨ad, hA, fun j x hx => ?_⟩
  have hlt : j < zs.length := by rw [hl]; exact (List.getElem?_eq_some_iff.1 hx).1
  obtain ⟨c, k1, ⟨rfl, _, _⟩, k3⟩ := hc j _ (List.getElem?_eq_getElem hlt)
  exact ⟨_, k1, hk j x _ hx (List.getElem?_eq_getElem hlt), k3⟩
set_option maxHeartbeats 4000000 in
set_option maxRecDepth 100000 in
theorem growE (n : Nat) (w : World) (hn : n * 32 ≤ 140737488355328) :
    Calls Try.prog 112 #[.slice none 0 0, .int .i64 n] w fun e w' => ∃ v : Value, e = .returned v ∧ Kd.R (Kd.raw 2) 42 w' w.heap.size (fun _ => True) v [] ∧ Below w.heap.size w w' := by
  have h1 : ¬ ((n : Int) < 0) := by omega
  have h3 : wrap64 ((n : Int) - 0) = (n : Int) := by unfold wrap64; omega
  have info_ : (Try.prog.info? 42).map (fun i => (i.zero, i.size, i.bytes)) = some (some (.agg #[.slice none 0 0, .int .i64 0]), (Kd.raw 2).sz, 32) := by kernel_rfl
  have HN_ := Aside0.mk hn
  have HB := Aside0.mk (Below.refl w.heap.size w)
  by_cases h0 : n = 0
  · subst h0
    go_enter Try.func112, Try.ntmps112
    go_wp2
    go_ret
    exact ⟨_, rfl, Kd.R_nil _ _ _ _ _, HB.out⟩
  · have h4 : (n : Int) > 0 := by omega
    go_enter Try.func112, Try.ntmps112
    go_wp2_with (first | ((with_reducible refine gate_builtin (b := .append) (xs := #[.tmp 20, .tmp 21]) rfl ?_); at_builtin; refine Kd.R_append_zeros (Kd.raw 2) (w0 := w) w.heap.size rfl (.tmp 20) (.tmp 21) 24 3 42 (.agg #[.slice none 0 0, .int .i64 0]) 32 rfl Try.underlying24 Try.underlying3 info_ rfl (by decide) (by omega) (.slice none 0 0) [] ([.slice none 0 0, .int .i64 0]) (n : Int) (fun _ => True) rfl rfl ?aZ (fun _ _ => trivial) ?aO (by omega) ?aB ?aS ?aL ?_; (case aZ => exact ⟨rfl, rfl, fun u hu => by simp [Value.cells] at hu; rcases hu with rfl | rfl <;> rfl⟩); (case aO => exact Kd.R_nil _ _ _ _ _); (case aB => exact HB.out); (case aS => exact (below_size HB.out)); (case aL => have := HN_.out; simp only [List.length_nil, Int.toNat_natCast]; omega); intro v1 w1 ho hb hg hat; have HO := Aside0.mk (Kd.R_mono (ok' := fun _ => True) ho (fun _ _ => trivial)); obtain ⟨g_, cap_, ev_, hb0_, hlt_, _⟩ := Kd.R_form HO.out (by simp only [List.nil_append, List.length_replicate, Int.toNat_natCast]; omega); subst ev_; have HB1 := Aside0.mk hb; clear ho hb hg hat hb0_ hlt_))
    go_ret
    exact ⟨_, rfl, Kd.R_take (m := 0) HO.out (Nat.zero_le _), HB1.out⟩
set_option maxHeartbeats 4000000 in
set_option maxRecDepth 100000 in
theorem concatE (g c : Nat) (A0 A1 : Option Addr) (c0 c1 : Nat) (l0 l1 : List (List Value)) (w : World) (hx0 : w.cell? ⟨g, 0, none⟩ = some (.slice A0 l0.length c0)) (hx1 : w.cell? ⟨g, 1, none⟩ = some (.slice A1 l1.length c1)) (hr0 : Kd.C (Kd.raw 2) w A0 l0.length l0) (hr1 : Kd.C (Kd.raw 2) w A1 l1.length l1) (hn : (l0.length + l1.length) * 32 ≤ 140737488355328) :
    Calls Try.prog 80 #[.slice (some ⟨g, 0, none⟩) 2 c] w fun e w' => ∃ v : Value, e = .returned v ∧ Kd.R (Kd.raw 2) 42 w' w.heap.size (fun _ => True) v (l0 ++ l1) ∧ Below w.heap.size w w' := by
  have info_ : (Try.prog.info? 42).map (fun i => (i.zero, i.size, i.bytes)) = some (some (.agg #[.slice none 0 0, .int .i64 0]), (Kd.raw 2).sz, 32) := by kernel_rfl
  have HX0 := Aside0.mk hx0
  have HX1 := Aside0.mk hx1
  have HR0 := Aside0.mk hr0
  have HR1 := Aside0.mk hr1
  have HN_ := Aside0.mk hn
  obtain ⟨m, hm⟩ : ∃ m : Nat, m = l0.length + l1.length := ⟨_, rfl⟩
  have e1 : wrap64 (l0.length : Int) = (l0.length : Int) := by unfold wrap64; omega
  have e2 : wrap64 ((l0.length : Int) + (l1.length : Int)) = (m : Int) := by unfold wrap64; omega
  have p1 : ¬ ((l0.length : Int) < 0) := by omega
  have p2 : ¬ ((m : Int) < 0) := by omega
  have HM := Aside0.mk hm
  clear hm
  clear hx0 hx1 hr0 hr1 hn
  have HB := Aside0.mk (Below.refl w.heap.size w)
  have HE1 := Aside0.mk e1
  have HE2 := Aside0.mk e2
  clear e1 e2
  go_enter Try.func80, Try.ntmps80
  go_wp2
  go_loopg [3, 11] 2 (fun kx s3 s11 wr => Aside0 (Below w.heap.size w wr) ∧ ((s3 = .int .i64 0 ∧ s11 = .int .i64 0 ∧ kx = 2) ∨ (s3 = .int .i64 l0.length ∧ s11 = .int .i64 1 ∧ 1 ≤ kx) ∨ (s3 = .int .i64 (m : Int) ∧ s11 = .int .i64 2)))
  case atStart => exact ⟨HB, .inl ⟨rfl, rfl, rfl⟩⟩
  case round =>
    obtain ⟨HBr, hrel⟩ := hrel
    rcases hrel with ⟨rfl, rfl, rfl⟩ | ⟨rfl, rfl, hk⟩ | ⟨rfl, rfl⟩
    · have f0 := pw_cell_below HBr.out HX0.out
      have e1 := HE1.out
      go_wp2
      go_roundg 1
      case measure => omega
      case rel => exact ⟨HBr, .inr (.inl ⟨by first | rfl | (simp [e1]; done), by first | rfl | (simp; done), Nat.le_refl _⟩)⟩
    · have f1 := pw_cell_below HBr.out HX1.out
      have e2 := HE2.out
      go_wp2
      go_roundg 0
      case measure => omega
      case rel => exact ⟨HBr, .inr (.inr ⟨by first | rfl | (simp [e2]; done), by first | rfl | (simp; done)⟩)⟩
    · clear p1 p2
      go_wp2_with (first | (go_at_call 112; refine (growE m _ (by rw [HM.out]; exact HN_.out)).mono ?_; rintro e w2 ⟨v0, rfl, ho, hb⟩; have HO := Aside0.mk (Kd.R_lower ho (below_size HBr.out)); have HB2 := Aside0.mk (below_step HBr.out hb); clear ho hb))
      go_loopg [6, 27] 2 (fun kx s6 s27 wq => Aside0 (Below w.heap.size w wq) ∧ ((s27 = .int .i64 0 ∧ kx = 2 ∧ Aside0 (Kd.R (Kd.raw 2) 42 wq w.heap.size (fun _ => True) s6 [])) ∨ (s27 = .int .i64 1 ∧ 1 ≤ kx ∧ Aside0 (Kd.R (Kd.raw 2) 42 wq w.heap.size (fun _ => True) s6 l0)) ∨ (s27 = .int .i64 2 ∧ Aside0 (Kd.R (Kd.raw 2) 42 wq w.heap.size (fun _ => True) s6 (l0 ++ l1)))))
      case atStart => exact ⟨HB2, .inl ⟨rfl, rfl, HO⟩⟩
      case round =>
        obtain ⟨HBq, hrel⟩ := hrel
        rcases hrel with ⟨rfl, rfl, HOq⟩ | ⟨rfl, hk, HOq⟩ | ⟨rfl, HOq⟩
        · have f0 := pw_cell_below HBq.out HX0.out
          go_wp2_with (first | ((with_reducible refine gate_builtin (b := .append) (xs := #[.tmp 31, .tmp 32]) rfl ?_); at_builtin; refine Kd.R_append_rows (Kd.raw 2) (w0 := w) w.heap.size rfl (.tmp 31) (.tmp 32) 24 42 (.agg #[.slice none 0 0, .int .i64 0]) 32 rfl Try.underlying24 info_ rfl (by decide) (by omega) u6 [] l0 _ _ _ (fun _ => True) (fun _ => False) rfl rfl ?aO ?aR (fun _ _ h => h) (fun _ h => h.elim) ?aF ?aB ?aS ?aL ?_; (case aR => exact (Kd.C_below HR0.out HBq.out)); (case aB => exact HBq.out); (case aF => exact (fun _ _ => trivial)); (case aO => exact HOq.out); (case aS => exact (below_size HBq.out)); (case aL => have := HN_.out; (try simp only [List.length_nil]); omega); intro v4 w4 ho4 hb4 hg4 hat4; have HO4 := Aside0.mk ho4; have HB4 := Aside0.mk hb4; clear ho4 hb4 hg4 hat4))
          go_roundg 1
          case measure => omega
          case rel => exact ⟨HB4, .inr (.inl ⟨by first | rfl | (simp; done), Nat.le_refl _, HO4⟩)⟩
        · have f1 := pw_cell_below HBq.out HX1.out
          go_wp2_with (first | ((with_reducible refine gate_builtin (b := .append) (xs := #[.tmp 31, .tmp 32]) rfl ?_); at_builtin; refine Kd.R_append_rows (Kd.raw 2) (w0 := w) w.heap.size rfl (.tmp 31) (.tmp 32) 24 42 (.agg #[.slice none 0 0, .int .i64 0]) 32 rfl Try.underlying24 info_ rfl (by decide) (by omega) u6 l0 l1 _ _ _ (fun _ => True) (fun _ => False) rfl rfl ?aO ?aR (fun _ _ h => h) (fun _ h => h.elim) ?aF ?aB ?aS ?aL ?_; (case aR => exact (Kd.C_below HR1.out HBq.out)); (case aB => exact HBq.out); (case aF => exact (fun _ _ => trivial)); (case aO => exact HOq.out); (case aS => exact (below_size HBq.out)); (case aL => have := HN_.out; (try simp only [List.length_nil]); omega); intro v4 w4 ho4 hb4 hg4 hat4; have HO4 := Aside0.mk ho4; have HB4 := Aside0.mk hb4; clear ho4 hb4 hg4 hat4))
          go_roundg 0
          case measure => omega
          case rel => exact ⟨HB4, .inr (.inr ⟨by first | rfl | (simp; done), HO4⟩)⟩
        · go_wp2
          go_ret
          exact ⟨_, rfl, HOq.out, HBq.out⟩
set_option maxHeartbeats 4000000 in
set_option maxRecDepth 100000 in
theorem growI (n : Nat) (w : World) (hn : n * 8 ≤ 140737488355328) :
    Calls Try.prog 116 #[.slice none 0 0, .int .i64 n] w fun e w' => ∃ v : Value, e = .returned v ∧ Kd.R (Kd.int .i64) 2 w' w.heap.size (fun _ => True) v [] ∧ Below w.heap.size w w' := by
  have h1 : ¬ ((n : Int) < 0) := by omega
  have h3 : wrap64 ((n : Int) - 0) = (n : Int) := by unfold wrap64; omega
  have info_ : (Try.prog.info? 2).map (fun i => (i.zero, i.size, i.bytes)) = some (some (.int .i64 0), (Kd.int .i64).sz, 8) := by kernel_rfl
  have HN_ := Aside0.mk hn
  have HB := Aside0.mk (Below.refl w.heap.size w)
  by_cases h0 : n = 0
  · subst h0
    go_enter Try.func116, Try.ntmps116
    go_wp2
    go_ret
    exact ⟨_, rfl, Kd.R_nil _ _ _ _ _, HB.out⟩
  · have h4 : (n : Int) > 0 := by omega
    go_enter Try.func116, Try.ntmps116
    go_wp2_with (first | ((with_reducible refine gate_builtin (b := .append) (xs := #[.tmp 20, .tmp 21]) rfl ?_); at_builtin; refine Kd.R_append_zeros (Kd.int .i64) (w0 := w) w.heap.size rfl (.tmp 20) (.tmp 21) 40 3 2 (.int .i64 0) 8 rfl Try.underlying40 Try.underlying3 info_ rfl (by decide) (by omega) (.slice none 0 0) [] (0) (n : Int) (fun _ => True) rfl rfl ?aZ (fun _ _ => trivial) ?aO (by omega) ?aB ?aS ?aL ?_; (case aZ => exact rfl); (case aO => exact Kd.R_nil _ _ _ _ _); (case aB => exact HB.out); (case aS => exact (below_size HB.out)); (case aL => have := HN_.out; simp only [List.length_nil, Int.toNat_natCast]; omega); intro v1 w1 ho hb hg hat; have HO := Aside0.mk (Kd.R_mono (ok' := fun _ => True) ho (fun _ _ => trivial)); obtain ⟨g_, cap_, ev_, hb0_, hlt_, _⟩ := Kd.R_form HO.out (by simp only [List.nil_append, List.length_replicate, Int.toNat_natCast]; omega); subst ev_; have HB1 := Aside0.mk hb; clear ho hb hg hat hb0_ hlt_))
    go_ret
    exact ⟨_, rfl, Kd.R_take (m := 0) HO.out (Nat.zero_le _), HB1.out⟩
set_option maxHeartbeats 4000000 in
set_option maxRecDepth 100000 in
theorem concatI (g c : Nat) (A0 A1 : Option Addr) (c0 c1 : Nat) (l0 l1 : List (Int)) (w : World) (hx0 : w.cell? ⟨g, 0, none⟩ = some (.slice A0 l0.length c0)) (hx1 : w.cell? ⟨g, 1, none⟩ = some (.slice A1 l1.length c1)) (hr0 : Kd.C (Kd.int .i64) w A0 l0.length l0) (hr1 : Kd.C (Kd.int .i64) w A1 l1.length l1) (hn : (l0.length + l1.length) * 8 ≤ 140737488355328) :
    Calls Try.prog 88 #[.slice (some ⟨g, 0, none⟩) 2 c] w fun e w' => ∃ v : Value, e = .returned v ∧ Kd.R (Kd.int .i64) 2 w' w.heap.size (fun _ => True) v (l0 ++ l1) ∧ Below w.heap.size w w' := by
  have info_ : (Try.prog.info? 2).map (fun i => (i.zero, i.size, i.bytes)) = some (some (.int .i64 0), (Kd.int .i64).sz, 8) := by kernel_rfl
  have HX0 := Aside0.mk hx0
  have HX1 := Aside0.mk hx1
  have HR0 := Aside0.mk hr0
  have HR1 := Aside0.mk hr1
  have HN_ := Aside0.mk hn
  obtain ⟨m, hm⟩ : ∃ m : Nat, m = l0.length + l1.length := ⟨_, rfl⟩
  have e1 : wrap64 (l0.length : Int) = (l0.length : Int) := by unfold wrap64; omega
  have e2 : wrap64 ((l0.length : Int) + (l1.length : Int)) = (m : Int) := by unfold wrap64; omega
  have p1 : ¬ ((l0.length : Int) < 0) := by omega
  have p2 : ¬ ((m : Int) < 0) := by omega
  have HM := Aside0.mk hm
  clear hm
  clear hx0 hx1 hr0 hr1 hn
  have HB := Aside0.mk (Below.refl w.heap.size w)
  have HE1 := Aside0.mk e1
  have HE2 := Aside0.mk e2
  clear e1 e2
  go_enter Try.func88, Try.ntmps88
  go_wp2
  go_loopg [3, 11] 2 (fun kx s3 s11 wr => Aside0 (Below w.heap.size w wr) ∧ ((s3 = .int .i64 0 ∧ s11 = .int .i64 0 ∧ kx = 2) ∨ (s3 = .int .i64 l0.length ∧ s11 = .int .i64 1 ∧ 1 ≤ kx) ∨ (s3 = .int .i64 (m : Int) ∧ s11 = .int .i64 2)))
  case atStart => exact ⟨HB, .inl ⟨rfl, rfl, rfl⟩⟩
  case round =>
    obtain ⟨HBr, hrel⟩ := hrel
    rcases hrel with ⟨rfl, rfl, rfl⟩ | ⟨rfl, rfl, hk⟩ | ⟨rfl, rfl⟩
    · have f0 := pw_cell_below HBr.out HX0.out
      have e1 := HE1.out
      go_wp2
      go_roundg 1
      case measure => omega
      case rel => exact ⟨HBr, .inr (.inl ⟨by first | rfl | (simp [e1]; done), by first | rfl | (simp; done), Nat.le_refl _⟩)⟩
    · have f1 := pw_cell_below HBr.out HX1.out
      have e2 := HE2.out
      go_wp2
      go_roundg 0
      case measure => omega
      case rel => exact ⟨HBr, .inr (.inr ⟨by first | rfl | (simp [e2]; done), by first | rfl | (simp; done)⟩)⟩
    · clear p1 p2
      go_wp2_with (first | (go_at_call 116; refine (growI m _ (by rw [HM.out]; exact HN_.out)).mono ?_; rintro e w2 ⟨v0, rfl, ho, hb⟩; have HO := Aside0.mk (Kd.R_lower ho (below_size HBr.out)); have HB2 := Aside0.mk (below_step HBr.out hb); clear ho hb))
      go_loopg [6, 27] 2 (fun kx s6 s27 wq => Aside0 (Below w.heap.size w wq) ∧ ((s27 = .int .i64 0 ∧ kx = 2 ∧ Aside0 (Kd.R (Kd.int .i64) 2 wq w.heap.size (fun _ => True) s6 [])) ∨ (s27 = .int .i64 1 ∧ 1 ≤ kx ∧ Aside0 (Kd.R (Kd.int .i64) 2 wq w.heap.size (fun _ => True) s6 l0)) ∨ (s27 = .int .i64 2 ∧ Aside0 (Kd.R (Kd.int .i64) 2 wq w.heap.size (fun _ => True) s6 (l0 ++ l1)))))
      case atStart => exact ⟨HB2, .inl ⟨rfl, rfl, HO⟩⟩
      case round =>
        obtain ⟨HBq, hrel⟩ := hrel
        rcases hrel with ⟨rfl, rfl, HOq⟩ | ⟨rfl, hk, HOq⟩ | ⟨rfl, HOq⟩
        · have f0 := pw_cell_below HBq.out HX0.out
          go_wp2_with (first | ((with_reducible refine gate_builtin (b := .append) (xs := #[.tmp 31, .tmp 32]) rfl ?_); at_builtin; refine Kd.R_append_rows (Kd.int .i64) (w0 := w) w.heap.size rfl (.tmp 31) (.tmp 32) 40 2 (.int .i64 0) 8 rfl Try.underlying40 info_ rfl (by decide) (by omega) u6 [] l0 _ _ _ (fun _ => True) (fun _ => False) rfl rfl ?aO ?aR (fun _ _ h => h) (fun _ h => h.elim) ?aF ?aB ?aS ?aL ?_; (case aR => exact (Kd.C_below HR0.out HBq.out)); (case aB => exact HBq.out); (case aF => exact (fun _ _ => trivial)); (case aO => exact HOq.out); (case aS => exact (below_size HBq.out)); (case aL => have := HN_.out; (try simp only [List.length_nil]); omega); intro v4 w4 ho4 hb4 hg4 hat4; have HO4 := Aside0.mk ho4; have HB4 := Aside0.mk hb4; clear ho4 hb4 hg4 hat4))
          go_roundg 1
          case measure => omega
          case rel => exact ⟨HB4, .inr (.inl ⟨by first | rfl | (simp; done), Nat.le_refl _, HO4⟩)⟩
        · have f1 := pw_cell_below HBq.out HX1.out
          go_wp2_with (first | ((with_reducible refine gate_builtin (b := .append) (xs := #[.tmp 31, .tmp 32]) rfl ?_); at_builtin; refine Kd.R_append_rows (Kd.int .i64) (w0 := w) w.heap.size rfl (.tmp 31) (.tmp 32) 40 2 (.int .i64 0) 8 rfl Try.underlying40 info_ rfl (by decide) (by omega) u6 l0 l1 _ _ _ (fun _ => True) (fun _ => False) rfl rfl ?aO ?aR (fun _ _ h => h) (fun _ h => h.elim) ?aF ?aB ?aS ?aL ?_; (case aR => exact (Kd.C_below HR1.out HBq.out)); (case aB => exact HBq.out); (case aF => exact (fun _ _ => trivial)); (case aO => exact HOq.out); (case aS => exact (below_size HBq.out)); (case aL => have := HN_.out; (try simp only [List.length_nil]); omega); intro v4 w4 ho4 hb4 hg4 hat4; have HO4 := Aside0.mk ho4; have HB4 := Aside0.mk hb4; clear ho4 hb4 hg4 hat4))
          go_roundg 0
          case measure => omega
          case rel => exact ⟨HB4, .inr (.inr ⟨by first | rfl | (simp; done), HO4⟩)⟩
        · go_wp2
          go_ret
          exact ⟨_, rfl, HOq.out, HBq.out⟩
/-- The same of rows of whatever entries: what it hands back reads as both, one behind the other. -/
theorem concatC {d : Kd α} (hsz : d.sz = 2) {e : Nat} {g c n : Nat} {l0 l1 : List α} {w : World} (h : Kd.C (Kd.slice e d) w (some ⟨g, 0, none⟩) n [l0, l1]) (hn : (l0.length + l1.length) * 32 ≤ 140737488355328) :
    Calls Try.prog 80 #[.slice (some ⟨g, 0, none⟩) n c] w fun e w' => ∃ A' c', e = .returned (.slice A' (l0 ++ l1).length c') ∧ (l0 ++ l1).length ≤ c' ∧ Kd.C d w' A' (l0 ++ l1).length (l0 ++ l1) ∧ Below w.heap.size w w' := by
  obtain rfl : n = 2 := h.1.symm
  obtain ⟨ad, A0, c0, A1, c1, hA, x0, _, r0, x1, _, r1⟩ := two_of_C h
  cases hA
  rw [add_plain] at x0 x1
  obtain ⟨z0, hl0, hk0, hz0⟩ := raw_of_C r0
  obtain ⟨z1, hl1, hk1, hz1⟩ := raw_of_C r1
  rw [hsz] at hz0 hz1
  rw [← hl0] at x0 hz0
  rw [← hl1] at x1 hz1
  refine (concatE g c A0 A1 c0 c1 z0 z1 w x0 x1 hz0 hz1 (by rw [hl0, hl1]; exact hn)).mono ?_
  rintro e w' ⟨v, rfl, ho, hb⟩
  obtain ⟨A', c', rfl, hc, hC⟩ := Kd.R_reads ho
  have hll : (z0 ++ z1).length = (l0 ++ l1).length := by rw [List.length_append, List.length_append, hl0, hl1]
  rw [hll] at hc hC ⊢
  refine ⟨A', c', rfl, hc, ?_, hb⟩
  refine C_of_raw (d := d) (zs := z0 ++ z1) (by rw [hsz]; exact hC) hll (fun j x cs hx hcs => d.K_below hb ?_)
  rcases Nat.lt_or_ge j l0.length with hlt | hge
  · rw [List.getElem?_append_left hlt] at hx
    rw [List.getElem?_append_left (by omega)] at hcs
    exact hk0 j x cs hx hcs
  · rw [List.getElem?_append_right hge] at hx
    rw [List.getElem?_append_right (by omega), hl0] at hcs
    exact hk1 _ x cs hx hcs
/-- The cells of a row of two. -/
theorem lit0 {e : Nat} {w : World} {base : Nat} {ok : Nat → Prop} {g n c : Nat} {X Y : Value} (h : (Kd.raw 1).R e w base ok (.slice (some ⟨g, 0, none⟩) n c) [[X], [Y]]) : w.cell? ⟨g, 0, none⟩ = some X := by
  obtain ⟨_, hc⟩ := (Kd.R_reads' h).2.2.2.2 (by simp)
  obtain ⟨e0, hc⟩ := hc
  cases e0
  obtain ⟨cs, _, ⟨rfl, _, _⟩, hu⟩ := hc 0 [X] rfl
  have := hu 0 X rfl
  rwa [add_plain] at this
theorem lit1 {e : Nat} {w : World} {base : Nat} {ok : Nat → Prop} {g n c : Nat} {X Y : Value} (h : (Kd.raw 1).R e w base ok (.slice (some ⟨g, 0, none⟩) n c) [[X], [Y]]) : w.cell? ⟨g, 1, none⟩ = some Y := by
  obtain ⟨_, hc⟩ := (Kd.R_reads' h).2.2.2.2 (by simp)
  obtain ⟨e0, hc⟩ := hc
  cases e0
  obtain ⟨cs, _, ⟨rfl, _, _⟩, hu⟩ := hc 1 [Y] rfl
  have := hu 0 Y rfl
  rwa [add_plain] at this
end Go.Proofs.Ythgmicingbjemaa.Concat
