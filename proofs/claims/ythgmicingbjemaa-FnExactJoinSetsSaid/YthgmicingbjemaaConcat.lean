/- slices.Concat of two rows: the elements of the one, then those of the other, in a row of the call's own; whatever rows come in. -/
import Derived.Test.YthgmicingbjemaaProg
import Derived.Test.YthgmicingbjemaaWApart
import Derived.Test.YthgmicingbjemaaWZeros
import Derived.Test.YthgmicingbjemaaWLast
import Derived.Test.YthgmicingbjemaaWMore
import Derived.Deep.LoopGhost
import Derived.Deep.Cut
set_option linter.unusedVariables false
namespace Go.Proofs.Ythgmicingbjemaa.Concat
open Go.RowKit Go.Proofs.YthgmicingbjemaaW.PrintWords Go.Proofs.YthgmicingbjemaaW.PrintLast
variable {α : Type}
theorem two_of_C {d : Kd α} {e : Nat} {w : World} {A : Option Addr} {l0 l1 : List α} (h : Kd.C (Kd.slice e d) w A 2 [l0, l1]) :
    ∃ ad A0 c0 A1 c1, A = some ad ∧ w.cell? (ad.add 0) = some (.slice A0 l0.length c0) ∧ l0.length ≤ c0 ∧ Kd.C d w A0 l0.length l0 ∧ w.cell? (ad.add 1) = some (.slice A1 l1.length c1) ∧ l1.length ≤ c1 ∧ Kd.C d w A1 l1.length l1 := by
  obtain ⟨ad, hA, hc⟩ := h.2.2 (by omega)
  obtain ⟨_, _, ⟨A0, c0, rfl, h00, h01⟩, hcell0⟩ := hc 0 l0 rfl
  obtain ⟨_, _, ⟨A1, c1, rfl, h10, h11⟩, hcell1⟩ := hc 1 l1 rfl
  exact ⟨ad, A0, c0, A1, c1, hA, hcell0 0 _ rfl, h00, h01, hcell1 0 _ rfl, h10, h11⟩
set_option maxHeartbeats 4000000 in
set_option maxRecDepth 100000 in
theorem growI (n : Nat) (w : World) (hn : n * 8 ≤ 140737488355328) :
    Calls Try.prog 116 #[.slice none 0 0, .int .i64 n] w fun e w' => ∃ v : Value, e = .returned v ∧ Kd.R (Kd.int .i64) 2 w' w.heap.size (fun _ => True) v [] ∧ Below w.heap.size w w' := by
  have h1 : ¬ ((n : Int) < 0) := by omega
  have h3 : wrap64 ((n : Int) - 0) = (n : Int) := by unfold wrap64; omega
  have info_ : (Try.prog.info? 2).map (fun i => (i.zero, i.size, i.bytes)) = some (some (.int .i64 0), (Kd.int .i64).sz, 8) := by kernel_rfl
  have HN_ := Aside0.mk hn
  have HB := Aside0.mk (Below.refl w.heap.size w)
  by_cases h0 : n = 0
  · subst h0
    go_enter Try.func116, Try.ntmps116
    go_wp2
    go_ret
    exact ⟨_, rfl, Kd.R_nil _ _ _ _ _, HB.out⟩
  · have h4 : (n : Int) > 0 := by omega
    go_enter Try.func116, Try.ntmps116
    go_wp2_with (first | ((with_reducible refine gate_builtin (b := .append) (xs := #[.tmp 20, .tmp 21]) rfl ?_); at_builtin; refine Kd.R_append_zeros (Kd.int .i64) (w0 := w) w.heap.size rfl (.tmp 20) (.tmp 21) 40 3 2 (.int .i64 0) 8 rfl Try.underlying40 Try.underlying3 info_ rfl (by decide) (by omega) (.slice none 0 0) [] (0) (n : Int) (fun _ => True) rfl rfl ?aZ (fun _ _ => trivial) ?aO (by omega) ?aB ?aS ?aL ?_; (case aZ => exact rfl); (case aO => exact Kd.R_nil _ _ _ _ _); (case aB => exact HB.out); (case aS => exact (below_size HB.out)); (case aL => have := HN_.out; simp only [List.length_nil, Int.toNat_natCast]; omega); intro v1 w1 ho hb hg hat; have HO := Aside0.mk (Kd.R_mono (ok' := fun _ => True) ho (fun _ _ => trivial)); obtain ⟨g_, cap_, ev_, hb0_, hlt_, _⟩ := Kd.R_form HO.out (by simp only [List.nil_append, List.length_replicate, Int.toNat_natCast]; omega); subst ev_; have HB1 := Aside0.mk hb; clear ho hb hg hat hb0_ hlt_))
    go_ret
    exact ⟨_, rfl, Kd.R_take (m := 0) HO.out (Nat.zero_le _), HB1.out⟩
set_option maxHeartbeats 4000000 in
set_option maxRecDepth 100000 in
theorem concatI (g c : Nat) (A0 A1 : Option Addr) (c0 c1 : Nat) (l0 l1 : List (Int)) (w : World) (hx0 : w.cell? ⟨g, 0, none⟩ = some (.slice A0 l0.length c0)) (hx1 : w.cell? ⟨g, 1, none⟩ = some (.slice A1 l1.length c1)) (hr0 : Kd.C (Kd.int .i64) w A0 l0.length l0) (hr1 : Kd.C (Kd.int .i64) w A1 l1.length l1) (hn : (l0.length + l1.length) * 8 ≤ 140737488355328) :
    Calls Try.prog 88 #[.slice (some ⟨g, 0, none⟩) 2 c] w fun e w' => ∃ v : Value, e = .returned v ∧ Kd.R (Kd.int .i64) 2 w' w.heap.size (fun _ => True) v (l0 ++ l1) ∧ Below w.heap.size w w' := by
  have info_ : (Try.prog.info? 2).map (fun i => (i.zero, i.size, i.bytes)) = some (some (.int .i64 0), (Kd.int .i64).sz, 8) := by kernel_rfl
  have HX0 := Aside0.mk hx0
  have HX1 := Aside0.mk hx1
  have HR0 := Aside0.mk hr0
  have HR1 := Aside0.mk hr1
  have HN_ := Aside0.mk hn
  obtain ⟨m, hm⟩ : ∃ m : Nat, m = l0.length + l1.length := ⟨_, rfl⟩
  have e1 : wrap64 (l0.length : Int) = (l0.length : Int) := by unfold wrap64; omega
  have e2 : wrap64 ((l0.length : Int) + (l1.length : Int)) = (m : Int) := by unfold wrap64; omega
  have p1 : ¬ ((l0.length : Int) < 0) := by omega
  have p2 : ¬ ((m : Int) < 0) := by omega
  have HM := Aside0.mk hm
  clear hm
  clear hx0 hx1 hr0 hr1 hn
  have HB := Aside0.mk (Below.refl w.heap.size w)
  have HE1 := Aside0.mk e1
  have HE2 := Aside0.mk e2
  clear e1 e2
  go_enter Try.func88, Try.ntmps88
  go_wp2
  go_loopg [3, 11] 2 (fun kx s3 s11 wr => Aside0 (Below w.heap.size w wr) ∧ ((s3 = .int .i64 0 ∧ s11 = .int .i64 0 ∧ kx = 2) ∨ (s3 = .int .i64 l0.length ∧ s11 = .int .i64 1 ∧ 1 ≤ kx) ∨ (s3 = .int .i64 (m : Int) ∧ s11 = .int .i64 2)))
  case atStart => exact ⟨HB, .inl ⟨rfl, rfl, rfl⟩⟩
  case round =>
    obtain ⟨HBr, hrel⟩ := hrel
    rcases hrel with ⟨rfl, rfl, rfl⟩ | ⟨rfl, rfl, hk⟩ | ⟨rfl, rfl⟩
    · have f0 := pw_cell_below HBr.out HX0.out
      have e1 := HE1.out
      go_wp2
      go_roundg 1
      case measure => omega
      case rel => exact ⟨HBr, .inr (.inl ⟨by first | rfl | (simp [e1]; done), by first | rfl | (simp; done), Nat.le_refl _⟩)⟩
    · have f1 := pw_cell_below HBr.out HX1.out
      have e2 := HE2.out
      go_wp2
      go_roundg 0
      case measure => omega
      case rel => exact ⟨HBr, .inr (.inr ⟨by first | rfl | (simp [e2]; done), by first | rfl | (simp; done)⟩)⟩
    · clear p1 p2
      go_wp2_with (first | (go_at_call 116; refine (growI m _ (by rw [HM.out]; exact HN_.out)).mono ?_; rintro e w2 ⟨v0, rfl, ho, hb⟩; have HO := Aside0.mk (Kd.R_lower ho (below_size HBr.out)); have HB2 := Aside0.mk (below_step HBr.out hb); clear ho hb))
      go_loopg [6, 27] 2 (fun kx s6 s27 wq => Aside0 (Below w.heap.size w wq) ∧ ((s27 = .int .i64 0 ∧ kx = 2 ∧ Aside0 (Kd.R (Kd.int .i64) 2 wq w.heap.size (fun _ => True) s6 [])) ∨ (s27 = .int .i64 1 ∧ 1 ≤ kx ∧ Aside0 (Kd.R (Kd.int .i64) 2 wq w.heap.size (fun _ => True) s6 l0)) ∨ (s27 = .int .i64 2 ∧ Aside0 (Kd.R (Kd.int .i64) 2 wq w.heap.size (fun _ => True) s6 (l0 ++ l1)))))
      case atStart => exact ⟨HB2, .inl ⟨rfl, rfl, HO⟩⟩
      case round =>
        obtain ⟨HBq, hrel⟩ := hrel
        rcases hrel with ⟨rfl, rfl, HOq⟩ | ⟨rfl, hk, HOq⟩ | ⟨rfl, HOq⟩
        · have f0 := pw_cell_below HBq.out HX0.out
          go_wp2_with (first | ((with_reducible refine gate_builtin (b := .append) (xs := #[.tmp 31, .tmp 32]) rfl ?_); at_builtin; refine Kd.R_append_rows (Kd.int .i64) (w0 := w) w.heap.size rfl (.tmp 31) (.tmp 32) 40 2 (.int .i64 0) 8 rfl Try.underlying40 info_ rfl (by decide) (by omega) u6 [] l0 _ _ _ (fun _ => True) (fun _ => False) rfl rfl ?aO ?aR (fun _ _ h => h) (fun _ h => h.elim) ?aF ?aB ?aS ?aL ?_; (case aR => exact (Kd.C_below HR0.out HBq.out)); (case aB => exact HBq.out); (case aF => exact (fun _ _ => trivial)); (case aO => exact HOq.out); (case aS => exact (below_size HBq.out)); (case aL => have := HN_.out; (try simp only [List.length_nil]); omega); intro v4 w4 ho4 hb4 hg4 hat4; have HO4 := Aside0.mk ho4; have HB4 := Aside0.mk hb4; clear ho4 hb4 hg4 hat4))
          go_roundg 1
          case measure => omega
          case rel => exact ⟨HB4, .inr (.inl ⟨by first | rfl | (simp; done), Nat.le_refl _, HO4⟩)⟩
        · have f1 := pw_cell_below HBq.out HX1.out
          go_wp2_with (first | ((with_reducible refine gate_builtin (b := .append) (xs := #[.tmp 31, .tmp 32]) rfl ?_); at_builtin; refine Kd.R_append_rows (Kd.int .i64) (w0 := w) w.heap.size rfl (.tmp 31) (.tmp 32) 40 2 (.int .i64 0) 8 rfl Try.underlying40 info_ rfl (by decide) (by omega) u6 l0 l1 _ _ _ (fun _ => True) (fun _ => False) rfl rfl ?aO ?aR (fun _ _ h => h) (fun _ h => h.elim) ?aF ?aB ?aS ?aL ?_; (case aR => exact (Kd.C_below HR1.out HBq.out)); (case aB => exact HBq.out); (case aF => exact (fun _ _ => trivial)); (case aO => exact HOq.out); (case aS => exact (below_size HBq.out)); (case aL => have := HN_.out; (try simp only [List.length_nil]); omega); intro v4 w4 ho4 hb4 hg4 hat4; have HO4 := Aside0.mk ho4; have HB4 := Aside0.mk hb4; clear ho4 hb4 hg4 hat4))
          go_roundg 0
          case measure => omega
          case rel => exact ⟨HB4, .inr (.inr ⟨by first | rfl | (simp; done), HO4⟩)⟩
        · go_wp2
          go_ret
          exact ⟨_, rfl, HOq.out, HBq.out⟩
/-- The cells of a row of two. -/
theorem lit0 {e : Nat} {w : World} {base : Nat} {ok : Nat → Prop} {g n c : Nat} {X Y : Value} (h : (Kd.raw 1).R e w base ok (.slice (some ⟨g, 0, none⟩) n c) [[X], [Y]]) : w.cell? ⟨g, 0, none⟩ = some X := by
  obtain ⟨_, hc⟩ := (Kd.R_reads' h).2.2.2.2 (by simp)
  obtain ⟨e0, hc⟩ := hc
  cases e0
  obtain ⟨cs, _, ⟨rfl, _, _⟩, hu⟩ := hc 0 [X] rfl
  have := hu 0 X rfl
  rwa [add_plain] at this
theorem lit1 {e : Nat} {w : World} {base : Nat} {ok : Nat → Prop} {g n c : Nat} {X Y : Value} (h : (Kd.raw 1).R e w base ok (.slice (some ⟨g, 0, none⟩) n c) [[X], [Y]]) : w.cell? ⟨g, 1, none⟩ = some Y := by
  obtain ⟨_, hc⟩ := (Kd.R_reads' h).2.2.2.2 (by simp)
  obtain ⟨e0, hc⟩ := hc
  cases e0
  obtain ⟨cs, _, ⟨rfl, _, _⟩, hu⟩ := hc 1 [Y] rfl
  have := hu 0 Y rfl
  rwa [add_plain] at this
end Go.Proofs.Ythgmicingbjemaa.Concat
