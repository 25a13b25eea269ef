/- Contracts beside the printed ones: what each call does to the world, for every input; no condition but what each theorem names. -/
import Derived.Test.YthgmicingbjemaaPFnExactJoinSetsx0
import Derived.Test.YthgmicingbjemaaPFnExactJoinSetsx1
import Derived.Test.YthgmicingbjemaaPFnExactJoinSetsx2
import Derived.Test.YthgmicingbjemaaPFnExactJoinSetsx3
import Derived.Test.YthgmicingbjemaaPFnExactJoinSetsx4
import Derived.Test.YthgmicingbjemaaPFnExactJoinSetsx5
import Derived.Test.YthgmicingbjemaaPFnExactJoinSetsx6
import Derived.Test.YthgmicingbjemaaPFnExactJoinSetsx7
import Derived.Test.YthgmicingbjemaaPFnExactJoinSetsx8
import Derived.Test.YthgmicingbjemaaPFnExactJoinSetsx9
import Derived.Test.YthgmicingbjemaaPFnExactJoinSetsx10
import Derived.Test.YthgmicingbjemaaPFnExactJoinSetsx11
import Derived.Test.YthgmicingbjemaaPFnExactJoinSetsx12
import Derived.Test.YthgmicingbjemaaPFnExactJoinSetsx13
import Derived.Test.YthgmicingbjemaaPFnExactJoinSetsx14
import Derived.Test.YthgmicingbjemaaPFnExactJoinSetsx15
namespace Go.Proofs.Ythgmicingbjemaa.PFnExactJoinSets
open Go.RowKit Go.Proofs.YthgmicingbjemaaW.PrintWords Go.Proofs.YthgmicingbjemaaW.PrintLast Go.Proofs.YthgmicingbjemaaW.PrintMore
set_option linter.unusedVariables false
set_option linter.unusedSimpArgs false

def laws_markEntryS.l0 : Nat → List S42 → Int → Int → Option (Int × List S42)
  | 0, _, _, _ => none
  | k + 1, x0, x1, x5 => if x5 < (x0.length : Int) then (if 0 ≤ x5 then ((laws_markInt64S.f k (x0.getD x5.toNat z42).f0 x1).bind fun t => laws_markEntryS.l0 k (x0.set x5.toNat ⟨t.2, t.1⟩) (wrap64 (t.1 + 1)) (wrap64 (x5 + 1))) else none) else some (x1, x0)
def laws_markEntryS.f (k : Nat) (l0 : List S42) (a1 : Int) : Option (Int × List S42) := laws_markEntryS.l0 k l0 a1 0
set_option maxHeartbeats 8000000 in
set_option maxRecDepth 100000 in
theorem laws_markEntryS.calls (k : Nat) (u : Value) (l0 : List S42) (a1 r1 : Int) (r2 : List S42) (lo hi : Nat) (w0 w : World) (hB : Below w0.heap.size w0 w) (hlo : w0.heap.size ≤ lo) (hS : Kd.S k42 42 w lo (fun k_ => k_ < hi) u l0) (h : laws_markEntryS.f k l0 a1 = some (r1, r2)) :
    Calls Try.prog 17 #[u, .int .i64 a1] w fun e w' => e = .returned (.int .i64 r1) ∧ Kd.S k42 42 w' lo (fun k_ => k_ < hi) u r2 ∧ Below w0.heap.size w0 w' ∧ Kept w w' (fun k_ => lo ≤ k_ ∧ k_ < hi) := by
  obtain ⟨A0, c0, rfl, hc0, _⟩ := Kd.S_reads hS
  have HS := Aside0.mk hS
  have HB := Aside0.mk hB
  have HLO := Aside0.mk hlo
  have HC0 := Aside0.mk hc0
  have HK := Aside0.mk (Kept.refl w (fun k_ => lo ≤ k_ ∧ k_ < hi))
  clear hS hB hlo hc0
  have H : (laws_markEntryS.l0 k l0 a1 0) = some (r1, r2) := h
  clear h
  have H' := Aside0.mk H
  clear H
  go_enter Try.func17, Try.ntmps17
  go_wp2
  go_loopg [1, 5] k (fun kq v1 v5 w' => ∃ (x0_1 : List S42) (x1_1 : Int) (x5_1 : Int), v1 = .int .i64 x1_1 ∧ v5 = .int .i64 x5_1 ∧ Aside0 (laws_markEntryS.l0 kq x0_1 x1_1 x5_1 = some (r1, r2)) ∧ Aside0 (kq ≤ k) ∧ Aside0 (x0_1.length = l0.length) ∧ Aside0 (Kd.S k42 42 w' lo (fun k_ => k_ < hi) (.slice A0 l0.length c0) x0_1) ∧ Aside0 (Kept w w' (fun k_ => lo ≤ k_ ∧ k_ < hi)) ∧ Aside0 (Below w0.heap.size w0 w'))
  case atStart => exact ⟨l0, a1, 0, rfl, rfl, H', ⟨Nat.le_refl _⟩, ⟨rfl⟩, HS, HK, HB⟩
  case round =>
    clear H' HS HK HB
    obtain ⟨x0_1, x1_1, x5_1, rfl, rfl, HA, HK1, HL, HO, HK, HB⟩ := hrel
    cases gk with
    | zero => exact absurd HA.out (by simp [laws_markEntryS.l0])
    | succ k1 =>
      have H := HA.out
      clear HA
      simp only [laws_markEntryS.l0] at H
      by_cases c6 : x5_1 < (x0_1.length : Int)
      · rw [if_pos c6] at H
        have c6b0 : decide (x5_1 < (l0.length : Int)) = true := decide_eq_true (by rw [← HL.out]; exact c6)
        by_cases c7 : 0 ≤ x5_1
        · rw [if_pos c7] at H
          have c7b0 : decide (0 ≤ x5_1) = true := decide_eq_true c7
          replace H := Option.bind_eq_some_iff.mp H
          obtain ⟨⟨t1, t2⟩, A8, H⟩ := H
          have HH := Aside0.mk H
          clear H
          have c6' : x5_1 < (l0.length : Int) := by rw [← HL.out]; exact c6
          obtain ⟨g, cap, he, hg0, hg1, _⟩ := Kd.S_form HO.out (by omega)
          obtain ⟨rfl, rfl⟩ : A0 = some ⟨g, 0, none⟩ ∧ c0 = cap := by injection he with h1 _ h3; exact ⟨h1, h3⟩
          obtain ⟨oki, ce, hcl, hM, hcc, hfr, hoki, hH⟩ := Kd.S_elem HO.out z42 x5_1 c7 c6'
          obtain ⟨ve, rfl, hR⟩ := k42_openM hM
          obtain ⟨Ae, cpe, rfl, hce, _⟩ := Kd.R_reads hR
          have hx0 : wr.cell? ⟨g, x5_1.toNat * 2, none⟩ = some (.slice Ae (x0_1.getD x5_1.toNat z42).f0.length cpe) := hcc 0 _ rfl
          have HR := Aside0.mk (Kd.R_lower (Kd.R_tight rfl hR) HLO.out)
          have HHi := Aside0.mk hH
          have HOK := Aside0.mk hoki
          have HRk := Aside0.mk hR.1
          have HRR := Aside0.mk hR
          have HA8 := Aside0.mk A8
          have HG0 := Aside0.mk hg0
          have HC6 := Aside0.mk c6'
          have HC7 := Aside0.mk c7
          have p7 := eq_true c7
          have q7 := eq_true c6'
          clear hR hH hoki hcc hfr hcl hce he hg0 hg1 A8 c6 c7 c6'
          go_wp2_with (first | ((with_reducible refine gate_callee (f := 32) rfl ?_); refine goesL_ (some 18) rfl rfl Try.func32 (by kernel_rfl) rfl #[.slice Ae (x0_1.getD x5_1.toNat z42).f0.length cpe, .int .i64 x1_1] rfl (by (try simp only [List.map_toArray, List.map_cons, List.map_nil]); first | done | rfl) ?_; refine (laws_markInt64S.calls k1 (fun k_ => some k_ = (Value.slice Ae (x0_1.getD x5_1.toNat z42).f0.length cpe).ownBlock) (.slice Ae (x0_1.getD x5_1.toNat z42).f0.length cpe) (x0_1.getD x5_1.toNat z42).f0 x1_1 t1 t2 w0 wr HB.out HR.out HA8.out).mono ?_; rintro e w2 ⟨rfl, hR2, hB2, hK2⟩; refine ⟨_, rfl, ?_⟩; have hin : ∀ k_, some k_ = (Value.slice Ae (x0_1.getD x5_1.toNat z42).f0.length cpe).ownBlock → oki k_ := (fun k_ hk_ => HRk.out k_ hk_.symm); have hbase : ∀ k_, (Value.slice Ae (x0_1.getD x5_1.toNat z42).f0.length cpe).ownBlock = some k_ → lo ≤ k_ := (fun k_ hk_ => Kd.R_base HRR.out k_ hk_); have hH2 := Kd.H_kept HHi.out hK2 (fun k_ _ hn hs => hn (hin k_ hs)); have hR3 : Kd.R (Kd.int .i64) 2 w2 lo oki (.slice Ae (x0_1.getD x5_1.toNat z42).f0.length cpe) t2 := (Kd.R_reok rfl (Kd.R_raise (d := Kd.int .i64) (b := w0.heap.size) (b' := lo) (fun _ _ _ _ h_ => h_) hR2 hbase) (fun k_ hk_ => HRk.out k_ hk_)); have hS2 := Kd.H_back hH2 (x' := (⟨t2, (x0_1.getD x5_1.toNat z42).f1⟩ : S42)) (k42_mkM w2 lo oki ⟨t2, (x0_1.getD x5_1.toNat z42).f1⟩ hR3) (fun _ hk_ => hk_); have HK2 := Aside0.mk (Kept.then_ HK.out hK2 (fun k_ hk_ => .inl ⟨hbase k_ hk_.symm, (HOK.out k_ (hin k_ hk_)).1⟩)); have HB2 := Aside0.mk hB2; have hS3 : Kd.S k42 42 w2 lo (fun k_ => k_ < hi ∧ ¬ False) (.slice (some ⟨g, 0, none⟩) l0.length c0) (x0_1.set x5_1.toNat ⟨t2, (x0_1.getD x5_1.toNat z42).f1⟩) := (Kd.S_mono hS2 (fun k_ h_ => ⟨h_, fun f_ => f_⟩)); obtain ⟨oki2, ce2, hcl2, hM2, hcc2, hfr2, hoki2, hH3⟩ := Kd.S_elem hS3 z42 x5_1 HC7.out HC6.out; have eg_ : (x0_1.set x5_1.toNat (⟨t2, (x0_1.getD x5_1.toNat z42).f1⟩ : S42)).getD x5_1.toNat z42 = ⟨t2, (x0_1.getD x5_1.toNat z42).f1⟩ := (by have h6 := HC6.out; have h7 := HC7.out; have hl := HL.out; have hi_ : x5_1.toNat < x0_1.length := (by omega); simp [List.getD_eq_getElem?_getD, List.getElem?_set, hi_]); rw [eg_] at hM2; obtain ⟨ve2, rfl, hR4⟩ := k42_openM hM2; have hx1 : w2.cell? ⟨g, x5_1.toNat * 2 + 1, none⟩ = some (.int .i64 (x0_1.getD x5_1.toNat z42).f1) := hcc2 1 _ rfl; have hf1 : w2.frozen? ⟨g, x5_1.toNat * 2 + 1, none⟩ = false := hfr2 1; have hgb_ : lo ≤ g ∧ g < hi := ⟨HG0.out, (hS2.elim fun f_ hf_ => hf_.1 g rfl)⟩; have HP := Aside0.mk (Kd.S_seg hH3 HC7.out HC6.out (seg := [.int .i64 t1]) (j := 1) (show 1 + 1 ≤ 2 from by decide) (x' := (⟨t2, t1⟩ : S42)) (okp := oki2) (k42_mkM w2 lo oki2 ⟨t2, t1⟩ hR4) (fun _ hk_ => .inl hk_) (fun k_ hk_ => hk_.elim)); have HGB := Aside0.mk hgb_; clear hgb_ hR4 hM2 hcc2 hfr2 hcl2 hoki2 hH3 hS3 hS2 hR3 hbase hH2 hin hR2 hK2 hB2 eg_ HK HB HR HHi HOK HRk HRR HA8 hx0) | ((with_reducible refine gate_store (t := 2) (p := 23) rfl ?_); refine store_event (t := 2) (p := 23) (v := ?vo_w3) (w1 := (w2.setCell ⟨g, x5_1.toNat * 2 + 1, none⟩ (.int .i64 t1))) ?hg ?ho ?hn ?hr ?_; (case ho => rfl); (case hg => rfl); (case hn => rfl); (case hr => first | (go_simp; done) | (go_simp; rfl)); intro w3 hw; have HS3 := Aside0.mk (show Kd.S k42 42 w3 lo (fun k_ => k_ < hi) (.slice (some ⟨g, 0, none⟩) l0.length c0) (x0_1.set x5_1.toNat ⟨t2, t1⟩) from (by rw [hw]; have h_ := HP.out.1; rw [List.set_set] at h_; exact h_)); have HK3 := Aside0.mk (show Kept w w3 (fun k_ => lo ≤ k_ ∧ k_ < hi) from (by rw [hw]; exact Kept.setCell HK2.out (.inl HGB.out) _)); have HB3 := Aside0.mk (show Below w0.heap.size w0 w3 from (by rw [hw]; exact below_set HB2.out (Nat.le_trans HLO.out HGB.out.1))); clear hw HP HK2 HB2 hx1 hf1))
          go_roundg k1
          case measure => have := HK1.out; omega
          case rel => exact ⟨_, wrap64 (t1 + 1), wrap64 (x5_1 + 1), by first | rfl | simp, by first | rfl | simp, HH, ⟨by have := HK1.out; omega⟩, ⟨by rw [List.length_set]; exact HL.out⟩, HS3, HK3, HB3⟩
        · rw [if_neg c7] at H
          exact absurd H (by simp)
      · rw [if_neg c6] at H
        have c6b0 : decide (x5_1 < (l0.length : Int)) = false := decide_eq_false (by rw [← HL.out]; exact c6)
        obtain ⟨rfl, rfl⟩ : x1_1 = r1 ∧ x0_1 = r2 := by simpa using H
        clear c6 H
        go_wp2
        go_ret
        exact ⟨rfl, HO.out, HB.out, HK.out⟩

def laws_markSetResult.f (k : Nat) (_a0_0 : Int) (l0 : List S42) (a1 : Int) : Option (Int × List S42) := laws_markEntryS.f k l0 a1
set_option maxHeartbeats 8000000 in
set_option maxRecDepth 100000 in
theorem laws_markSetResult.calls (k : Nat) (a0_0 : Int) (u : Value) (l0 : List S42) (a1 r1 : Int) (r2 : List S42) (lo hi : Nat) (w0 w : World) (hB : Below w0.heap.size w0 w) (hlo : w0.heap.size ≤ lo) (hS : Kd.S k42 42 w lo (fun k_ => k_ < hi) u l0) (h : laws_markSetResult.f k a0_0 l0 a1 = some (r1, r2)) :
    Calls Try.prog 18 #[.agg #[.int .i64 a0_0, u], .int .i64 a1] w fun e w' => e = .returned (.int .i64 r1) ∧ Kd.S k42 42 w' lo (fun k_ => k_ < hi) u r2 ∧ Below w0.heap.size w0 w' ∧ Kept w w' (fun k_ => lo ≤ k_ ∧ k_ < hi) := by
  have hus_ := Try.underlying26
  have HB := Aside0.mk hB
  have HLO := Aside0.mk hlo
  have HS := Aside0.mk hS
  have H : laws_markEntryS.f k l0 a1 = some (r1, r2) := h
  have HH := Aside0.mk H
  obtain ⟨A0, c0, rfl⟩ := Kd.S_slice hS
  clear hB hlo hS H h
  go_enter Try.func18, Try.ntmps18
  go_wp2_with (first | ((with_reducible refine gate_dst (N := 2) rfl ?_); refine box_event ?hg (N := 2) ?hd (cs := #[.int .i64 a0_0, .slice A0 l0.length c0]) (t := 26) ?hr ?_; (case hd => rfl); (case hg => rfl); (case hr => first | (go_simp; done) | (go_simp; rfl)); intro gb hg w5 hbox hb; have n0_ := Aside0.mk (Kd.S_below HS.out hb); have n1_ := Aside0.mk (below_step HB.out hb); have HK5 := Aside0.mk (Kept.of_below hb (fun k_ => lo ≤ k_ ∧ k_ < hi)); clear HS HB; have HS := n0_; have HB := n1_; clear n0_ n1_; have hcz0 : w5.cell? ⟨gb, 0, none⟩ = some (.int .i64 a0_0) := (blk_cell hbox 0).trans rfl; have hcz1 : w5.cell? ⟨gb, 1, none⟩ = some (.slice A0 l0.length c0) := (blk_cell hbox 1).trans rfl; have hfz0 := blk_frozen hbox 0; have hfz1 := blk_frozen hbox 1; clear hbox hb hg) | ((with_reducible refine gate_callee (f := 17) rfl ?_); refine goesL_ (some 8) rfl rfl Try.func17 (by kernel_rfl) rfl #[.slice A0 l0.length c0, .int .i64 a1] rfl (by (try simp only [List.map_toArray, List.map_cons, List.map_nil]); first | done | rfl) ?_; (with_reducible refine (laws_markEntryS.calls k _ l0 a1 r1 r2 lo hi w0 _ HB.out HLO.out HS.out HH.out).mono ?_); rintro e w2 ⟨rfl, hs, hb, hk⟩; refine ⟨_, rfl, ?_⟩; have HS2 := Aside0.mk hs; have HB2 := Aside0.mk hb; have HK2 := Aside0.mk (Kept.then_ HK5.out hk (fun _ h_ => .inl h_)); clear hs hb hk))
  go_ret
  exact ⟨rfl, HS2.out, HB2.out, HK2.out⟩

end Go.Proofs.Ythgmicingbjemaa.PFnExactJoinSets
