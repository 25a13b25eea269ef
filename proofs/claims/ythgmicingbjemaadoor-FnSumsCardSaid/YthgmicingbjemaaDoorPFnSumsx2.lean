-- Written by fprint, a program of this session, out of Lean's own print of the translation. Lean checks it.
import Derived.Test.YthgmicingbjemaaDoorDense
import Derived.Test.YthgmicingbjemaaDoorPFnSumsx0
import Derived.Test.YthgmicingbjemaaDoorPFnSumsx1
namespace Go.Proofs.YthgmicingbjemaaDoor.PFnSums
open Go.RowKit Go.Proofs.YthgmicingbjemaaDoorW.PrintWords Go.Proofs.YthgmicingbjemaaDoorW.PrintLast Go.Proofs.YthgmicingbjemaaDoorW.PrintMore
attribute [local go_sem] max2_int min2_int max_two min_two max_three min_three max_four min_four   -- for this text's walks alone
set_option linter.unusedVariables false
set_option linter.unusedSimpArgs false

theorem b2_1 {p : Prop} (h : p := by exact cB1_ (IsS57.ge HI182.out)) : p := h
theorem b2_2 {p : Prop} (h : p := by exact cI_ HI182.out) : p := h
theorem b2_3 {p : Prop} (h : p := by exact cN_ HO187.out) : p := h
/-! ### spec_l1DrawWeight: function 17 -/
def spec_l1DrawWeight.f (s0_0 : List Int) (s0_1 : Int) : Option (Int × Int) := (spec_l1Next.f s0_0 s0_1 9).bind fun bt171 => ((spec_l1Next.f s0_0 bt171.2 90000).bind fun bt173 => ((spec_l1Pick.f s0_0 bt173.2 (([wrap64 (bt171.1 - 4), bt173.1, 1000000000000, (-1000000000000), 1000000000001, 1000000, 1000001, 0, 4611686018427387904, (-9223372036854775808)] : List Int))).bind fun bt178 => (some (bt178.1, bt178.2))))
set_option maxHeartbeats 8000000 in
set_option maxRecDepth 100000 in
theorem spec_l1DrawWeight.calls (g : Nat) (s0_0 : List Int) (s0_1 : Int) (r1 : Int) (r2 : Int) (w0 w : World) (hI : IsS57 w0 w g s0_0 s0_1) (hB : Below w0.heap.size w0 w) (h : spec_l1DrawWeight.f s0_0 s0_1 = some (r1, r2)) :
  Calls Tryd.prog 17 #[.pointer (some ⟨g, 0, none⟩)] w fun e w' => e = .returned (.int .i64 r1) ∧ IsS57 w0 w' g s0_0 r2 ∧ Below w0.heap.size w0 w' ∧ KeepBut w w' g none := by
 have HI0 := Aside0.mk hI
 have HK := Aside0.mk (KeepBut.refl w g none)
 have HL := Aside0.mk hB.size
 clear hI
 have HW0 := Aside0.mk hB.size
 have HB := Aside0.mk hB
 clear hB
 have H : ((spec_l1Next.f s0_0 s0_1 9).bind fun bt171 => ((spec_l1Next.f s0_0 bt171.2 90000).bind fun bt173 => ((spec_l1Pick.f s0_0 bt173.2 (([wrap64 (bt171.1 - 4), bt173.1, 1000000000000, (-1000000000000), 1000000000001, 1000000, 1000001, 0, 4611686018427387904, (-9223372036854775808)] : List Int))).bind fun bt178 => (some (bt178.1, bt178.2))))) = some (r1, r2) := h
 clear h
 obtain ⟨⟨t171, t172⟩, A2, H⟩ := bnd_ H
 try dsimp only at H
 obtain ⟨⟨t173, t174⟩, A3, H⟩ := bnd_ H
 try dsimp only at H
 obtain ⟨y175, hy_⟩ : ∃ y_ : List Int, y_ = (([wrap64 (t171 - 4), t173, 1000000000000, (-1000000000000), 1000000000001, 1000000, 1000001, 0, 4611686018427387904, (-9223372036854775808)] : List Int)) := ⟨_, rfl⟩
 replace H : ((spec_l1Pick.f s0_0 t174 y175).bind fun bt178 => (some (bt178.1, bt178.2))) = some (r1, r2) := yb_
 have Ny175 := Aside0.mk hy_
 clear hy_
 obtain ⟨⟨t178, t179⟩, A4, H⟩ := bnd_ H
 try dsimp only at H
 simp only [Option.some.injEq, Prod.mk.injEq] at H
 obtain ⟨rfl, rfl⟩ := H
 go_enter Tryd.func17, Tryd.ntmps17
 go_wp2_with (first | (refine gl_ 15 (some 5) Tryd.func15 #[.pointer (some ⟨g, 0, none⟩), .int .i64 9] ?_; (with_reducible refine (spec_l1Next.calls g s0_0 s0_1 9 t171 t172 w0 _ ?side1 ?side2 A2.out).mono ?_); (case side1 => exact cI_ HI0.out); (case side2 => exact cB1_ (IsS57.ge HI0.out)); rintro e w5 ⟨rfl, hi, hb, hk⟩; refine ⟨_, rfl, ?_⟩; replace HK := Aside0.mk (KeepBut.trans (cK_ HK.out) hk (.inl rfl)); replace HB := Aside0.mk (hb); replace HI0 := Aside0.mk (hi); (try clear hb); (try clear hb2); (try clear hk); (try clear hi)) | (refine gl_ 15 (some 8) Tryd.func15 #[.pointer (some ⟨g, 0, none⟩), .int .i64 90000] ?_; (with_reducible refine (spec_l1Next.calls g s0_0 t172 90000 t173 t174 w0 _ ?side1 ?side2 A3.out).mono ?_); (case side1 => exact cI_ HI0.out); (case side2 => exact cB1_ (IsS57.ge HI0.out)); rintro e w6 ⟨rfl, hi, hb, hk⟩; refine ⟨_, rfl, ?_⟩; replace HK := Aside0.mk (KeepBut.trans (cK_ HK.out) hk (.inl rfl)); replace HB := Aside0.mk (hb); replace HI0 := Aside0.mk (hi); (try clear hb); (try clear hb2); (try clear hk); (try clear hi)) | ((with_reducible refine gate_dst (N := 9) rfl ?_); refine Kd.R_lit (Kd.int .i64) _ 2 ?hg (N := 9) ?hd (xs := ([wrap64 (t171 - 4), t173, 1000000000000, (-1000000000000), 1000000000001, 1000000, 1000001, 0, 4611686018427387904, (-9223372036854775808)] : List Int)) (inner := [.int .i64 (wrap64 (t171 - 4)), .int .i64 t173, .int .i64 1000000000000, .int .i64 (-1000000000000), .int .i64 1000000000001, .int .i64 1000000, .int .i64 1000001, .int .i64 0, .int .i64 4611686018427387904, .int .i64 (-9223372036854775808)]) (ok := fun _ => True) (okp := fun _ => True) ?hr ?hp (fun _ hk => hk) trivial (Below.refl _ _) (Nat.le_refl _) (by simp) ?_; (case hd => rfl); (case hg => rfl); (case hr => first | (go_simp; done) | (go_simp; rfl)); (case hp => exact (Reps.one (show Kd.M (Kd.int .i64) _ _ _ (wrap64 (t171 - 4)) [.int .i64 (wrap64 (t171 - 4))] from rfl) (Reps.one (show Kd.M (Kd.int .i64) _ _ _ t173 [.int .i64 t173] from rfl) (Reps.one (show Kd.M (Kd.int .i64) _ _ _ 1000000000000 [.int .i64 1000000000000] from rfl) (Reps.one (show Kd.M (Kd.int .i64) _ _ _ (-1000000000000) [.int .i64 (-1000000000000)] from rfl) (Reps.one (show Kd.M (Kd.int .i64) _ _ _ 1000000000001 [.int .i64 1000000000001] from rfl) (Reps.one (show Kd.M (Kd.int .i64) _ _ _ 1000000 [.int .i64 1000000] from rfl) (Reps.one (show Kd.M (Kd.int .i64) _ _ _ 1000001 [.int .i64 1000001] from rfl) (Reps.one (show Kd.M (Kd.int .i64) _ _ _ 0 [.int .i64 0] from rfl) (Reps.one (show Kd.M (Kd.int .i64) _ _ _ 4611686018427387904 [.int .i64 4611686018427387904] from rfl) (Reps.one (show Kd.M (Kd.int .i64) _ _ _ (-9223372036854775808) [.int .i64 (-9223372036854775808)] from rfl) (Reps.none _ _)))))))))))); intro v176 w7 ho8 hb hg_ hnew_; clear hg_ hnew_; (first | rw [← Ny175.out] at ho8 | (simp only [Int.reduceToNat] at ho8; rw [← Ny175.out] at ho8)); have HO177 := Aside0.mk (Kd.R_lower ho8 (keep_size (w := w) (g := g) (row := none) (cK_ HK.out))); replace HK := Aside0.mk (KeepBut.trans (cK_ HK.out) (KeepBut.of_below hb g none) (.inl rfl)); replace HB := Aside0.mk (below_step (cB1_ (IsS57.ge HI0.out)) hb); replace HI0 := Aside0.mk (IsS57.below (cI_ HI0.out) hb); clear hb ho8; obtain ⟨Ao9, co9, eo9⟩ := Kd.R_slice HO177.out; subst eo9) | (refine gl_ 31 (some 10) Tryd.func31 #[.pointer (some ⟨g, 0, none⟩), .slice Ao9 y175.length co9] ?_; (with_reducible refine (spec_l1Pick.calls g s0_0 t174 _ _ y175 t178 t179 w0 _ ?side1 ?side2 ?side3 ?side4 ?side5 A4.out).mono ?_); (case side1 => exact cI_ HI0.out); (case side2 => exact cB1_ (IsS57.ge HI0.out)); (case side3 => exact cC_ ((Kd.R_reads' HO177.out).2.2)); (case side4 => exact (Kd.R_reads' HO177.out).2.1); (case side5 => exact (by exact far_slice (IsS57.own_ne HI0.out HO177.out (by decide)))); rintro e w10 ⟨rfl, hi, hb, hk⟩; refine ⟨_, rfl, ?_⟩; replace HO177 := Aside0.mk (Kd.R_mono (Kd.R_keep (IsS57.apart (show IsS57 w0 _ g s0_0 t174 from by repeat (first | (with_reducible first | exact HI0.out | apply IsS57.alloc | apply IsS57.drewN | apply IsS57.drew | apply IsS57.set_1) | exact HI0.out)) (cR_ HO177.out) (by decide)) hk (fun _ h => h.2)) (fun _ h => h.1)); replace HK := Aside0.mk (KeepBut.trans (cK_ HK.out) hk (.inl rfl)); replace HB := Aside0.mk (hb); replace HI0 := Aside0.mk (hi); (try clear hb); (try clear hb2); (try clear hk); (try clear hi)))
 go_ret
 exact ⟨ce_, cI_ HI0.out, cB1_ (IsS57.ge HI0.out), cK_ HK.out⟩

/-! ### spec_DrawConsolidate: function 5 -/
mutual
def spec_DrawConsolidate.j0 : Nat → List (S31) → List Int → Int → Option ((List (S31)))
 | 0, _, _, _ => none
 | k + 1, x4, x183000, x183001 => (spec_l1Chance.f x183000 x183001 60).bind fun bt204 => (if bt204.1 = true then (spec_DrawConsolidate.l0 k ([] : List (S31)) 0 x183000 bt204.2) else (some x4))
def spec_DrawConsolidate.l0 : Nat → List (S31) → Int → List Int → Int → Option ((List (S31)))
 | 0, _, _, _, _ => none
 | k + 1, x4, x5, x183000, x183001 => (spec_l1Next.f x183000 x183001 2).bind fun bt206 => (if x5 < (wrap64 (800 + bt206.1)) then ((spec_l1Next.f x183000 bt206.2 20).bind fun bt208 => (if (wrap64 (190 + bt208.1)) = 0 then (none) else (if x4.length < 4398046511104 then (spec_DrawConsolidate.l0 k (x4 ++ [(⟨(([Int.tmod x5 (wrap64 (190 + bt208.1))] : List Int)), 1⟩ : S31)]) (wrap64 (x5 + 1)) x183000 bt208.2) else (none)))) else (some x4))
end
def spec_DrawConsolidate.f (k : Nat) (l0 : List Int) : Option ((List (S31))) := (spec_l1Source.f l0).bind fun bt180 => ((spec_l1Next.f bt180.1 bt180.2 3).bind fun bt183 => ((spec_l2Entries.f k bt180.1 bt183.2 bt183.1).bind fun bt185 => (if (bt185.1.length : Int) > 0 then ((spec_l1Next.f bt180.1 bt185.2 12).bind fun bt189 => (if bt189.1 = 0 then ((spec_l1Bent.f k bt180.1 bt189.2).bind fun bt191 => (if 0 < (bt185.1.length : Int) then (spec_DrawConsolidate.j0 k (bt185.1.set (0 : Int).toNat (⟨bt191.1, (rd_T31 bt185.1 0).f1⟩ : S31)) bt180.1 bt191.2) else (none))) else (if bt189.1 = 1 then ((spec_l1DrawWeight.f bt180.1 bt189.2).bind fun bt196 => (if 0 < (bt185.1.length : Int) then (spec_DrawConsolidate.j0 k (bt185.1.set (0 : Int).toNat (⟨(rd_T31 bt185.1 0).f0, bt196.1⟩ : S31)) bt180.1 bt196.2) else (none))) else (if bt189.1 = 2 then (if 0 < (bt185.1.length : Int) then ((some (bt185.1.set (0 : Int).toNat (⟨(rd_T31 bt185.1 0).f0, 1000000000000⟩ : S31) : List (S31))).bind fun y199 => (if y199.length < 4398046511104 then (spec_DrawConsolidate.j0 k (y199 ++ [(⟨(rd_T31 y199 0).f0, (rd_T31 y199 0).f1⟩ : S31)]) bt180.1 bt189.2) else (none))) else (none)) else (spec_DrawConsolidate.j0 k bt185.1 bt180.1 bt189.2))))) else (spec_DrawConsolidate.j0 k bt185.1 bt180.1 bt185.2))))
theorem spec_DrawConsolidate.mono_l : ∀ k, (∀ y0 y1 y2, LeO (spec_DrawConsolidate.j0 k y0 y1 y2) (spec_DrawConsolidate.j0 (k + 1) y0 y1 y2)) ∧ (∀ y0 y1 y2 y3, LeO (spec_DrawConsolidate.l0 k y0 y1 y2 y3) (spec_DrawConsolidate.l0 (k + 1) y0 y1 y2 y3))
 | 0 => ⟨fun _ _ _ r h => by simp [spec_DrawConsolidate.j0] at h, fun _ _ _ _ r h => by simp [spec_DrawConsolidate.l0] at h⟩
 | k + 1 => by
  obtain ⟨ih0, ih1⟩ := spec_DrawConsolidate.mono_l k
  refine ⟨?_, ?_⟩
  ·intro y0 y1 y2
   unfold spec_DrawConsolidate.j0
   repeat' first
   | (with_reducible exact ih0 _ _ _)
   | (with_reducible exact ih1 _ _ _ _)
   | (with_reducible exact spec_l1Bent.mono _ _ _)
   | (with_reducible exact spec_l2Entries.mono _ _ _ _)
   | (with_reducible exact LeO.refl _)
   | (with_reducible exact LeO.none _)
   | (with_reducible refine LeO.ite ?_ ?_)
   | (with_reducible refine LeO.bind ?_ (fun _ => ?_))
   | exact ih0 _ _ _
   | exact ih1 _ _ _ _
   | exact spec_l1Bent.mono _ _ _
   | exact spec_l2Entries.mono _ _ _ _
   | exact LeO.none _
   | refine LeO.ite ?_ ?_
   | refine LeO.bind ?_ (fun _ => ?_)
  ·intro y0 y1 y2 y3
   unfold spec_DrawConsolidate.l0
   repeat' first
   | (with_reducible exact ih0 _ _ _)
   | (with_reducible exact ih1 _ _ _ _)
   | (with_reducible exact spec_l1Bent.mono _ _ _)
   | (with_reducible exact spec_l2Entries.mono _ _ _ _)
   | (with_reducible exact LeO.refl _)
   | (with_reducible exact LeO.none _)
   | (with_reducible refine LeO.ite ?_ ?_)
   | (with_reducible refine LeO.bind ?_ (fun _ => ?_))
   | exact ih0 _ _ _
   | exact ih1 _ _ _ _
   | exact spec_l1Bent.mono _ _ _
   | exact spec_l2Entries.mono _ _ _ _
   | exact LeO.none _
   | refine LeO.ite ?_ ?_
   | refine LeO.bind ?_ (fun _ => ?_)
theorem spec_DrawConsolidate.mono : ∀ a0 k, LeO (spec_DrawConsolidate.f k a0) (spec_DrawConsolidate.f (k + 1) a0) := by
 intro a0 k
 obtain ⟨ih0, ih1⟩ := spec_DrawConsolidate.mono_l k
 unfold spec_DrawConsolidate.f
 repeat' first
   | (with_reducible exact ih0 _ _ _)
   | (with_reducible exact ih1 _ _ _ _)
   | (with_reducible exact spec_l1Bent.mono _ _ _)
   | (with_reducible exact spec_l2Entries.mono _ _ _ _)
   | (with_reducible exact LeO.refl _)
   | (with_reducible exact LeO.none _)
   | (with_reducible refine LeO.ite ?_ ?_)
   | (with_reducible refine LeO.bind ?_ (fun _ => ?_))
   | exact ih0 _ _ _
   | exact ih1 _ _ _ _
   | exact spec_l1Bent.mono _ _ _
   | exact spec_l2Entries.mono _ _ _ _
   | exact LeO.none _
   | refine LeO.ite ?_ ?_
   | refine LeO.bind ?_ (fun _ => ?_)
set_option maxHeartbeats 8000000 in
set_option maxRecDepth 100000 in
theorem spec_DrawConsolidate.calls (k : Nat) (A0 : Option Addr) (c0 : Nat) (l0 : List Int) (r : List (S31)) (w : World) (hr0 : Kd.C (Kd.int .u8) w A0 l0.length l0) (hc0 : l0.length ≤ c0) (h : spec_DrawConsolidate.f k l0 = some r) :
  Calls Tryd.prog 5 #[.slice A0 l0.length c0] w fun e w' => ∃ v0_ : Value, e = .returned (v0_) ∧ Kd.N k31 31 w' w.heap.size (fun k_ => (w.heap.size ≤ k_)) v0_ r ∧ Below w.heap.size w w' := by
 have hu31 := Tryd.underlying31
 have HR0 := Aside0.mk hr0
 have HC0 := Aside0.mk hc0
 clear hr0 hc0
 have HB := Aside0.mk (Below.refl w.heap.size w)
 have H : ((spec_l1Source.f l0).bind fun bt180 => ((spec_l1Next.f bt180.1 bt180.2 3).bind fun bt183 => ((spec_l2Entries.f k bt180.1 bt183.2 bt183.1).bind fun bt185 => (if (bt185.1.length : Int) > 0 then ((spec_l1Next.f bt180.1 bt185.2 12).bind fun bt189 => (if bt189.1 = 0 then ((spec_l1Bent.f k bt180.1 bt189.2).bind fun bt191 => (if 0 < (bt185.1.length : Int) then (spec_DrawConsolidate.j0 k (bt185.1.set (0 : Int).toNat (⟨bt191.1, (rd_T31 bt185.1 0).f1⟩ : S31)) bt180.1 bt191.2) else (none))) else (if bt189.1 = 1 then ((spec_l1DrawWeight.f bt180.1 bt189.2).bind fun bt196 => (if 0 < (bt185.1.length : Int) then (spec_DrawConsolidate.j0 k (bt185.1.set (0 : Int).toNat (⟨(rd_T31 bt185.1 0).f0, bt196.1⟩ : S31)) bt180.1 bt196.2) else (none))) else (if bt189.1 = 2 then (if 0 < (bt185.1.length : Int) then ((some (bt185.1.set (0 : Int).toNat (⟨(rd_T31 bt185.1 0).f0, 1000000000000⟩ : S31) : List (S31))).bind fun y199 => (if y199.length < 4398046511104 then (spec_DrawConsolidate.j0 k (y199 ++ [(⟨(rd_T31 y199 0).f0, (rd_T31 y199 0).f1⟩ : S31)]) bt180.1 bt189.2) else (none))) else (none)) else (spec_DrawConsolidate.j0 k bt185.1 bt180.1 bt189.2))))) else (spec_DrawConsolidate.j0 k bt185.1 bt180.1 bt185.2))))) = some r := h
 clear h
 obtain ⟨⟨t180, t181⟩, A2, H⟩ := bnd_ H
 try dsimp only at H
 obtain ⟨⟨t183, t184⟩, A3, H⟩ := bnd_ H
 try dsimp only at H
 obtain ⟨⟨t185, t188⟩, A4, H⟩ := bnd_ H
 try dsimp only at H
 have HC5 := Aside0.mk H
 clear H
 go_enter Tryd.func5, Tryd.ntmps5
 go_upto_if 14 with (first | (refine gl_ 13 (some 7) Tryd.func13 #[.slice A0 l0.length c0] ?_; (with_reducible refine (spec_l1Source.calls _ _ l0 t180 t181 w _ ?side1 ?side2 ?side3 A2.out).mono ?_); (case side1 => exact cB0_); (case side2 => exact HR0.out); (case side3 => exact HC0.out); rintro e w6 ⟨g182, rfl, hi, hb, hb2⟩; refine ⟨_, rfl, ?_⟩; replace HB := Aside0.mk (hb); have HI182 := Aside0.mk (hi); (try clear hb); (try clear hb2); (try clear hk); (try clear hi)) | (refine gl_ 15 (some 10) Tryd.func15 #[.pointer (some ⟨g182, 0, none⟩), .int .i64 3] ?_; (with_reducible refine (spec_l1Next.calls g182 t180 t181 3 t183 t184 w _ ?side1 ?side2 A3.out).mono ?_); (case side1 => exact cI_ HI182.out); (case side2 => exact cB1_ (IsS57.ge HI182.out)); rintro e w7 ⟨rfl, hi, hb, hk⟩; refine ⟨_, rfl, ?_⟩; replace HB := Aside0.mk (hb); replace HI182 := Aside0.mk (hi); (try clear hb); (try clear hb2); (try clear hk); (try clear hi)) | (refine gl_ 14 (some 11) Tryd.func14 #[.pointer (some ⟨g182, 0, none⟩), .int .i64 t183] ?_; (with_reducible refine (spec_l2Entries.calls k g182 t180 t184 t183 t185 t188 w _ ?side1 ?side2 A4.out).mono ?_); (case side1 => exact cI_ HI182.out); (case side2 => exact cB1_ (IsS57.ge HI182.out)); rintro e w8 ⟨v186, rfl, ho0, hi, hb, hk⟩; refine ⟨_, rfl, ?_⟩; have HO187 := Aside0.mk (Kd.N_lower (Kd.N_mono (ok' := fun k_ => (w.heap.size ≤ k_) ∧ k_ ≠ g182) (Kd.S_N (Kd.S_bound ho0)) (fun k_ hk_ => ⟨(Nat.le_trans (below_size b2_1) hk_.2.1), (IsS57.fresh b2_2 k_ hk_.2.1)⟩)) (below_size b2_1)); replace HB := Aside0.mk (hb); replace HI182 := Aside0.mk (hi); (try clear hb); (try clear hb2); (try clear hk); (try clear hi); (try clear ho0); obtain ⟨Ao9, co9, eo9⟩ := Kd.N_slice HO187.out; subst eo9))
 (try simp only [Act.put, List.setIfInBounds_toArray, List.set_cons_zero, List.set_cons_succ])
 go_cut [4] (fun v4 wc => ∃ (kq : Nat) (x4_4 : List (S31)) (x183001_4 : Int), Aside0 (spec_DrawConsolidate.j0 kq x4_4 t180 x183001_4 = some r) ∧ Aside0 (kq ≤ k) ∧ Aside0 (Kd.N k31 31 wc w.heap.size (fun k_ => (w.heap.size ≤ k_) ∧ k_ ≠ g182) v4 x4_4) ∧ Aside0 (IsS57 w wc g182 t180 x183001_4) ∧ Aside0 (Below w.heap.size w wc))
 case first =>
  have H := HC5.out
  clear HC5
  by_cases c10 : (t185.length : Int) > 0
  rotate_left
  ·rw [if_neg c10] at H
   have c10b0 : decide (0 < (t185.length : Int)) = false := decide_eq_false c10
   have c10b1 : decide (0 < t185.length) = false := decide_eq_false (by omega)
   clear c10
   (first | rw [c10b0] | rw [c10b1] | (simp only [i64_w, i32_w]; rw [c10b0]) | skip)
   have H' := Aside0.mk H
   clear H
   go_wp2
   go_meet
   case rel => exact ⟨_, (t185), (t188), H', ⟨cm_⟩, ⟨cN_ HO187.out⟩, ⟨cI_ HI182.out⟩, ⟨cB1_ (IsS57.ge HI182.out)⟩⟩
  rw [if_pos c10] at H
  have c10b0 : decide (0 < (t185.length : Int)) = true := decide_eq_true c10
  have c10b1 : decide (0 < t185.length) = true := decide_eq_true (by omega)
  clear c10
  (first | rw [c10b0] | rw [c10b1] | (simp only [i64_w, i32_w]; rw [c10b0]) | skip)
  obtain ⟨⟨t189, t190⟩, A11, H⟩ := bnd_ H
  try dsimp only at H
  by_cases c12 : t189 = 0
  ·rw [if_pos c12] at H
   have c12b0 : (t189 == 0) = true := beq_iff_eq.mpr c12
   have c12b1 : (t189 != 0) = false := bne_eq_false_iff_eq.mpr c12
   clear c12
   obtain ⟨⟨t191, t194⟩, A13, H⟩ := bnd_ H
   try dsimp only at H
   by_cases c14 : 0 < (t185.length : Int)
   ·rw [if_pos c14] at H
    have c14b0 : decide (0 < (t185.length : Int)) = true := decide_eq_true c14
    have c14b1 : decide (0 < t185.length) = true := decide_eq_true (by omega)
    clear c14
    obtain ⟨y195, hy_⟩ : ∃ y_ : List (S31), y_ = (t185.set (0 : Int).toNat (⟨t191, (rd_T31 t185 0).f1⟩ : S31)) := ⟨_, rfl⟩
    replace H : (spec_DrawConsolidate.j0 k y195 t180 t194) = some r := yb_
    have Ny195 := Aside0.mk hy_
    clear hy_
    have H' := Aside0.mk H
    clear H
    go_wp2_with (first | (refine gl_ 15 (some 16) Tryd.func15 #[.pointer (some ⟨g182, 0, none⟩), .int .i64 12] ?_; (with_reducible refine (spec_l1Next.calls g182 t180 t188 12 t189 t190 w _ ?side1 ?side2 A11.out).mono ?_); (case side1 => exact cI_ HI182.out); (case side2 => exact cB1_ (IsS57.ge HI182.out)); rintro e w16 ⟨rfl, hi, hb, hk⟩; refine ⟨_, rfl, ?_⟩; replace HO187 := Aside0.mk (Kd.N_mono (Kd.N_keep (Kd.N_mono (ok := fun k_ => (((w.heap.size ≤ k_)) ∧ k_ ≠ g182)) b2_3 (fun k_ hk_ => (⟨hk_, hk_.2⟩ : _ ∧ k_ ≠ g182))) hk (fun _ h => h.2)) (fun _ h => h.1)); replace HB := Aside0.mk (hb); replace HI182 := Aside0.mk (hi); (try clear hb); (try clear hb2); (try clear hk); (try clear hi)) | (refine gl_ 16 (some 21) Tryd.func16 #[.pointer (some ⟨g182, 0, none⟩)] ?_; (with_reducible refine (spec_l1Bent.calls k g182 t180 t190 t191 t194 w _ ?side1 ?side2 A13.out).mono ?_); (case side1 => exact cI_ HI182.out); (case side2 => exact cB1_ (IsS57.ge HI182.out)); rintro e w17 ⟨v192, rfl, ho0, hi, hb, hk⟩; refine ⟨_, rfl, ?_⟩; replace HO187 := Aside0.mk (Kd.N_mono (Kd.N_told (Kd.N_oldK (Kd.N_mono (ok := fun k_ => (((w.heap.size ≤ k_)) ∧ k_ ≠ g182)) b2_3 (fun k_ hk_ => (⟨hk_, hk_.2⟩ : _ ∧ k_ ≠ g182))) hk) (Kd.R_base ho0)) (fun _ h_ => h_.1)); have HO193 := Aside0.mk (Kd.R_lower (Kd.R_newM (M := fun k_ => (w.heap.size ≤ k_)) ho0 (below_size b2_1) (fun k_ h_ => h_)) (below_size b2_1)); replace HB := Aside0.mk (hb); replace HI182 := Aside0.mk (hi); (try clear hb); (try clear hb2); (try clear hk); (try clear hi); (try clear ho0); have p15 : 0 ≤ (0 : Int) := (by omega); have q15 : (0 : Int) < ((t185.length : Int) : Int) := of_decide_eq_true ca_; have qi15 : (0 < t185.length) = True := eq_true (by omega); obtain ⟨go15, co15, eo15, gb15, gl15, cl15, HG15⟩ := Kd.N_form HO187.out (by omega); (first | cases eo15 | (injection eo15 with ea_ en_ ec_; (first | subst ea_ | (injection ea_ with ea_; subst ea_)); subst ec_; clear en_)); have GB15 := Aside0.mk gb15; have GG15 := Aside0.mk HG15; clear gb15 gl15 HG15; obtain ⟨ce15, hcl15, hM15, hcc15, hfr15⟩ := Kd.N_elem HO187.out z31 (0 : Int) p15 q15; obtain ⟨ua15_0, uc15_0, rfl, ul15_0, ge15_0⟩ := k31_openF hM15; have hx15_0 : w17.cell? ⟨go15, (0 : Int).toNat * 2, none⟩ = some (.slice ua15_0 ((rd_T31 t185 0).f0).length uc15_0) := hcc15 0 _ rfl; have hx15_1 : w17.cell? ⟨go15, (0 : Int).toNat * 2 + 1, none⟩ = some (.int .i64 ((rd_T31 t185 0).f1)) := hcc15 1 _ rfl; have hf15_0 : w17.frozen? ⟨go15, (0 : Int).toNat * 2, none⟩ = false := hfr15 0; have hf15_1 : w17.frozen? ⟨go15, (0 : Int).toNat * 2 + 1, none⟩ = false := hfr15 1; (try clear hM15); clear hcl15 hcc15 hfr15; (try rw [show ((0 : Int)).toNat = 0 from rfl] at hx15_0); (try simp only [Nat.reduceMul, Nat.zero_mul, Nat.zero_add, Nat.reduceAdd] at hx15_0); (try rw [show ((0 : Int)).toNat = 0 from rfl] at hf15_0); (try simp only [Nat.reduceMul, Nat.zero_mul, Nat.zero_add, Nat.reduceAdd] at hf15_0); (try rw [show ((0 : Int)).toNat = 0 from rfl] at hx15_1); (try simp only [Nat.reduceMul, Nat.zero_mul, Nat.zero_add, Nat.reduceAdd] at hx15_1); (try rw [show ((0 : Int)).toNat = 0 from rfl] at hf15_1); (try simp only [Nat.reduceMul, Nat.zero_mul, Nat.zero_add, Nat.reduceAdd] at hf15_1); replace p15 := eq_true p15; replace q15 := eq_true q15; obtain ⟨Ao18, co18, eo18⟩ := Kd.R_slice HO193.out; subst eo18; have n_ := Aside0.mk (Kd.N_mono (ok' := (fun k_ => (w.heap.size ≤ k_) ∧ some k_ ≠ (.slice Ao18 t191.length co18 : Value).ownBlock ∧ k_ ≠ g182)) HO187.out (fun k_ hk => ⟨hk.1.1, ⟨hk.2, hk.1.2⟩⟩)); clear HO187; have HO187 := n_; clear n_; have HX19 := Aside0.mk (show Kd.N k31 31 w17 w.heap.size (fun k_ => (w.heap.size ≤ k_) ∧ k_ ≠ g182) (.slice (some ⟨go15, 0, none⟩) t185.length co9) t185 from (by refine cN_ ?_; exact Kd.N_mono HO187.out (fun _ hk => ⟨hk.1, hk.2.2⟩))); obtain ⟨ce19, hcl19, hM19, hcc19, hfr19⟩ := Kd.N_elem HX19.out z31 (0 : Int) (by omega) (by have h_ : (0 : Int) < ((t185.length : Int) : Int) := of_decide_eq_true ca_; first | exact h_ | (have e_ := (Kd.N_reads' HO187.out).1; omega) | simpa using h_); obtain ⟨ua19_0, uc19_0, rfl, ul19_0, ge19_0⟩ := k31_openF hM19; have HP19 := Kd.N_seg HX19.out (0 : Int) (by omega) (by have h_ : (0 : Int) < ((t185.length : Int) : Int) := of_decide_eq_true ca_; first | exact h_ | (have e_ := (Kd.N_reads' HO187.out).1; omega) | simpa using h_) (seg := [.slice Ao18 t191.length co18]) (j := 0) hcl19 hcc19 (show 1 ≤ 2 from by decide) (x' := (⟨t191, (rd_T31 t185 0).f1⟩ : S31)) (k31_mkF _ _ (⟨t191, (rd_T31 t185 0).f1⟩ : S31) (Kd.R_reads' (Kd.R_mono (ok' := (fun k_ => ((fun k_ => (w.heap.size ≤ k_) ∧ k_ ≠ g182)) k_ ∧ k_ ≠ go15)) (IsS57.apart HI182.out (Kd.R_apart' (HO193.out) (Kd.N_typed HO187.out) (by decide)) (by decide)) (fun k_ hk => ⟨⟨hk.1.1.1, hk.2⟩, fun e_ => (hk.1.2) (by rw [e_]; rfl)⟩))).2.1 (Kd.R_F (Kd.R_mono (ok' := (fun k_ => ((fun k_ => (w.heap.size ≤ k_) ∧ k_ ≠ g182)) k_ ∧ k_ ≠ go15)) (IsS57.apart HI182.out (Kd.R_apart' (HO193.out) (Kd.N_typed HO187.out) (by decide)) (by decide)) (fun k_ hk => ⟨⟨hk.1.1.1, hk.2⟩, fun e_ => (hk.1.2) (by rw [e_]; rfl)⟩)))) (fun _ hk => hk); have hx19_0 := hcc19 0 _ rfl; (try simp only [show (k31).sz = 2 from rfl, Nat.mul_one, Nat.add_zero] at hx19_0); (try rw [show ((0 : Int)).toNat = 0 from rfl] at hx19_0); (try simp only [Nat.reduceMul, Nat.zero_mul, Nat.zero_add, Nat.reduceAdd] at hx19_0); have hf19_0 := hfr19 0; (try simp only [show (k31).sz = 2 from rfl, Nat.mul_one, Nat.add_zero] at hf19_0); (try rw [show ((0 : Int)).toNat = 0 from rfl] at hf19_0); (try simp only [Nat.reduceMul, Nat.zero_mul, Nat.zero_add, Nat.reduceAdd] at hf19_0); (try clear hM19); clear hcl19 hcc19 hfr19) | ((with_reducible refine gate_store (t := 29) (p := 23) rfl ?_); refine store_event (t := 29) (p := 23) (v := ?vo_w20) (w1 := (w17.setCell ⟨go15, 0, none⟩ (.slice Ao18 t191.length co18))) ?hg ?ho ?hn ?hr ?_; (case ho => rfl); (case hg => rfl); (case hn => rfl); (case hr => first | (go_simp; done) | (go_simp; rfl)); intro w20 hw; have hg : w17.grownBy w20 (some go15) := (by rw [hw]; exact HP19.2); have hp_ : Kd.N k31 31 w20 w.heap.size (fun k_ => (w.heap.size ≤ k_) ∧ k_ ≠ g182) (.slice (some ⟨go15, 0, none⟩) t185.length co9) y195 := (by rw [hw, Ny195.out]; exact HP19.1); clear HP19; replace HI182 := Aside0.mk (IsS57.grown b2_2 hg (IsS57.own_neN HI182.out HO187.out (by decide))); replace HO187 := Aside0.mk (hp_); replace HB := Aside0.mk ((by rw [hw]; exact below_set (HB.out) GB15.out : Below w.heap.size w w20)); clear HO193; clear hg hw hp_))
    go_meet
    case rel => exact ⟨_, (y195), (t194), H', ⟨cm_⟩, ⟨cN_ HO187.out⟩, ⟨cI_ HI182.out⟩, ⟨cB1_ (IsS57.ge HI182.out)⟩⟩
   rw [if_neg c14] at H
   exact absurd H (by simp)
  rw [if_neg c12] at H
  have c12b0 : (t189 == 0) = false := beq_eq_false_iff_ne.mpr c12
  have c12b1 : (t189 != 0) = true := bne_iff_ne.mpr c12
  by_cases c21 : t189 = 1
  ·rw [if_pos c21] at H
   have c21b0 : (t189 == 1) = true := beq_iff_eq.mpr c21
   have c21b1 : (t189 != 1) = false := bne_eq_false_iff_eq.mpr c21
   clear c21
   obtain ⟨⟨t196, t197⟩, A22, H⟩ := bnd_ H
   try dsimp only at H
   by_cases c23 : 0 < (t185.length : Int)
   ·rw [if_pos c23] at H
    have c23b0 : decide (0 < (t185.length : Int)) = true := decide_eq_true c23
    have c23b1 : decide (0 < t185.length) = true := decide_eq_true (by omega)
    clear c23
    obtain ⟨y198, hy_⟩ : ∃ y_ : List (S31), y_ = (t185.set (0 : Int).toNat (⟨(rd_T31 t185 0).f0, t196⟩ : S31)) := ⟨_, rfl⟩
    replace H : (spec_DrawConsolidate.j0 k y198 t180 t197) = some r := yb_
    have Ny198 := Aside0.mk hy_
    clear hy_
    have H' := Aside0.mk H
    clear H
    go_wp2_with (first | (refine gl_ 15 (some 16) Tryd.func15 #[.pointer (some ⟨g182, 0, none⟩), .int .i64 12] ?_; (with_reducible refine (spec_l1Next.calls g182 t180 t188 12 t189 t190 w _ ?side1 ?side2 A11.out).mono ?_); (case side1 => exact cI_ HI182.out); (case side2 => exact cB1_ (IsS57.ge HI182.out)); rintro e w25 ⟨rfl, hi, hb, hk⟩; refine ⟨_, rfl, ?_⟩; replace HO187 := Aside0.mk (Kd.N_mono (Kd.N_keep (Kd.N_mono (ok := fun k_ => (((w.heap.size ≤ k_)) ∧ k_ ≠ g182)) b2_3 (fun k_ hk_ => (⟨hk_, hk_.2⟩ : _ ∧ k_ ≠ g182))) hk (fun _ h => h.2)) (fun _ h => h.1)); replace HB := Aside0.mk (hb); replace HI182 := Aside0.mk (hi); (try clear hb); (try clear hb2); (try clear hk); (try clear hi)) | (refine gl_ 17 (some 28) Tryd.func17 #[.pointer (some ⟨g182, 0, none⟩)] ?_; (with_reducible refine (spec_l1DrawWeight.calls g182 t180 t190 t196 t197 w _ ?side1 ?side2 A22.out).mono ?_); (case side1 => exact cI_ HI182.out); (case side2 => exact cB1_ (IsS57.ge HI182.out)); rintro e w26 ⟨rfl, hi, hb, hk⟩; refine ⟨_, rfl, ?_⟩; replace HO187 := Aside0.mk (Kd.N_mono (Kd.N_keep (Kd.N_mono (ok := fun k_ => (((w.heap.size ≤ k_)) ∧ k_ ≠ g182)) b2_3 (fun k_ hk_ => (⟨hk_, hk_.2⟩ : _ ∧ k_ ≠ g182))) hk (fun _ h => h.2)) (fun _ h => h.1)); replace HB := Aside0.mk (hb); replace HI182 := Aside0.mk (hi); (try clear hb); (try clear hb2); (try clear hk); (try clear hi); have p24 : 0 ≤ (0 : Int) := (by omega); have q24 : (0 : Int) < ((t185.length : Int) : Int) := of_decide_eq_true ca_; have qi24 : (0 < t185.length) = True := eq_true (by omega); obtain ⟨go24, co24, eo24, gb24, gl24, cl24, HG24⟩ := Kd.N_form HO187.out (by omega); (first | cases eo24 | (injection eo24 with ea_ en_ ec_; (first | subst ea_ | (injection ea_ with ea_; subst ea_)); subst ec_; clear en_)); have GB24 := Aside0.mk gb24; have GG24 := Aside0.mk HG24; clear gb24 gl24 HG24; obtain ⟨ce24, hcl24, hM24, hcc24, hfr24⟩ := Kd.N_elem HO187.out z31 (0 : Int) p24 q24; obtain ⟨ua24_0, uc24_0, rfl, ul24_0, ge24_0⟩ := k31_openF hM24; have hx24_0 : w26.cell? ⟨go24, (0 : Int).toNat * 2, none⟩ = some (.slice ua24_0 ((rd_T31 t185 0).f0).length uc24_0) := hcc24 0 _ rfl; have hx24_1 : w26.cell? ⟨go24, (0 : Int).toNat * 2 + 1, none⟩ = some (.int .i64 ((rd_T31 t185 0).f1)) := hcc24 1 _ rfl; have hf24_0 : w26.frozen? ⟨go24, (0 : Int).toNat * 2, none⟩ = false := hfr24 0; have hf24_1 : w26.frozen? ⟨go24, (0 : Int).toNat * 2 + 1, none⟩ = false := hfr24 1; (try clear hM24); clear hcl24 hcc24 hfr24; (try rw [show ((0 : Int)).toNat = 0 from rfl] at hx24_0); (try simp only [Nat.reduceMul, Nat.zero_mul, Nat.zero_add, Nat.reduceAdd] at hx24_0); (try rw [show ((0 : Int)).toNat = 0 from rfl] at hf24_0); (try simp only [Nat.reduceMul, Nat.zero_mul, Nat.zero_add, Nat.reduceAdd] at hf24_0); (try rw [show ((0 : Int)).toNat = 0 from rfl] at hx24_1); (try simp only [Nat.reduceMul, Nat.zero_mul, Nat.zero_add, Nat.reduceAdd] at hx24_1); (try rw [show ((0 : Int)).toNat = 0 from rfl] at hf24_1); (try simp only [Nat.reduceMul, Nat.zero_mul, Nat.zero_add, Nat.reduceAdd] at hf24_1); replace p24 := eq_true p24; replace q24 := eq_true q24; have HX27 := Aside0.mk (show Kd.N k31 31 w26 w.heap.size (fun k_ => (w.heap.size ≤ k_) ∧ k_ ≠ g182) (.slice (some ⟨go24, 0, none⟩) t185.length co9) t185 from b2_3); obtain ⟨ce27, hcl27, hM27, hcc27, hfr27⟩ := Kd.N_elem HX27.out z31 (0 : Int) (by omega) (by have h_ : (0 : Int) < ((t185.length : Int) : Int) := of_decide_eq_true ca_; first | exact h_ | (have e_ := (Kd.N_reads' HO187.out).1; omega) | simpa using h_); obtain ⟨ua27_0, uc27_0, rfl, ul27_0, ge27_0⟩ := k31_openF hM27; have HP27 := Kd.N_seg HX27.out (0 : Int) (by omega) (by have h_ : (0 : Int) < ((t185.length : Int) : Int) := of_decide_eq_true ca_; first | exact h_ | (have e_ := (Kd.N_reads' HO187.out).1; omega) | simpa using h_) (seg := [.int .i64 t196]) (j := 1) hcl27 hcc27 (show 2 ≤ 2 from by decide) (x' := (⟨(rd_T31 t185 0).f0, t196⟩ : S31)) (k31_mkF _ _ (⟨(rd_T31 t185 0).f0, t196⟩ : S31) ul27_0 ge27_0) (fun _ hk => hk); have hx27_1 := hcc27 1 _ rfl; (try simp only [show (k31).sz = 2 from rfl, Nat.mul_one, Nat.add_zero] at hx27_1); (try rw [show ((0 : Int)).toNat = 0 from rfl] at hx27_1); (try simp only [Nat.reduceMul, Nat.zero_mul, Nat.zero_add, Nat.reduceAdd] at hx27_1); have hf27_1 := hfr27 1; (try simp only [show (k31).sz = 2 from rfl, Nat.mul_one, Nat.add_zero] at hf27_1); (try rw [show ((0 : Int)).toNat = 0 from rfl] at hf27_1); (try simp only [Nat.reduceMul, Nat.zero_mul, Nat.zero_add, Nat.reduceAdd] at hf27_1); (try clear hM27); clear hcl27 hcc27 hfr27) | ((with_reducible refine gate_store (t := 2) (p := 30) rfl ?_); refine store_event (t := 2) (p := 30) (v := ?vo_w28) (w1 := (w26.setCell ⟨go24, 1, none⟩ (.int .i64 t196))) ?hg ?ho ?hn ?hr ?_; (case ho => rfl); (case hg => rfl); (case hn => rfl); (case hr => first | (go_simp; done) | (go_simp; rfl)); intro w28 hw; have hg : w26.grownBy w28 (some go24) := (by rw [hw]; exact HP27.2); have hp_ : Kd.N k31 31 w28 w.heap.size (fun k_ => (w.heap.size ≤ k_) ∧ k_ ≠ g182) (.slice (some ⟨go24, 0, none⟩) t185.length co9) y198 := (by rw [hw, Ny198.out]; exact HP27.1); clear HP27; replace HI182 := Aside0.mk (IsS57.grown b2_2 hg (IsS57.own_neN HI182.out HO187.out (by decide))); replace HO187 := Aside0.mk (hp_); replace HB := Aside0.mk ((by rw [hw]; exact below_set (HB.out) GB24.out : Below w.heap.size w w28)); clear hg hw hp_))
    go_meet
    case rel => exact ⟨_, (y198), (t197), H', ⟨cm_⟩, ⟨cN_ HO187.out⟩, ⟨cI_ HI182.out⟩, ⟨cB1_ (IsS57.ge HI182.out)⟩⟩
   rw [if_neg c23] at H
   exact absurd H (by simp)
  rw [if_neg c21] at H
  have c21b0 : (t189 == 1) = false := beq_eq_false_iff_ne.mpr c21
  have c21b1 : (t189 != 1) = true := bne_iff_ne.mpr c21
  by_cases c29 : t189 = 2
  rotate_left
  ·rw [if_neg c29] at H
   have c29b0 : (t189 == 2) = false := beq_eq_false_iff_ne.mpr c29
   have c29b1 : (t189 != 2) = true := bne_iff_ne.mpr c29
   have H' := Aside0.mk H
   clear H
   go_wp2_with (first | (refine gl_ 15 (some 16) Tryd.func15 #[.pointer (some ⟨g182, 0, none⟩), .int .i64 12] ?_; (with_reducible refine (spec_l1Next.calls g182 t180 t188 12 t189 t190 w _ ?side1 ?side2 A11.out).mono ?_); (case side1 => exact cI_ HI182.out); (case side2 => exact cB1_ (IsS57.ge HI182.out)); rintro e w37 ⟨rfl, hi, hb, hk⟩; refine ⟨_, rfl, ?_⟩; replace HO187 := Aside0.mk (Kd.N_mono (Kd.N_keep (Kd.N_mono (ok := fun k_ => (((w.heap.size ≤ k_)) ∧ k_ ≠ g182)) b2_3 (fun k_ hk_ => (⟨hk_, hk_.2⟩ : _ ∧ k_ ≠ g182))) hk (fun _ h => h.2)) (fun _ h => h.1)); replace HB := Aside0.mk (hb); replace HI182 := Aside0.mk (hi); (try clear hb); (try clear hb2); (try clear hk); (try clear hi)))
   go_meet
   case rel => exact ⟨_, (t185), (t190), H', ⟨cm_⟩, ⟨cN_ HO187.out⟩, ⟨cI_ HI182.out⟩, ⟨cB1_ (IsS57.ge HI182.out)⟩⟩
  rw [if_pos c29] at H
  have c29b0 : (t189 == 2) = true := beq_iff_eq.mpr c29
  have c29b1 : (t189 != 2) = false := bne_eq_false_iff_eq.mpr c29
  clear c29
  by_cases c30 : 0 < (t185.length : Int)
  rotate_left
  ·rw [if_neg c30] at H
   exact absurd H (by simp)
  rw [if_pos c30] at H
  have c30b0 : decide (0 < (t185.length : Int)) = true := decide_eq_true c30
  have c30b1 : decide (0 < t185.length) = true := decide_eq_true (by omega)
  clear c30
  obtain ⟨y199, hy_⟩ : ∃ y_ : List (S31), y_ = (t185.set (0 : Int).toNat (⟨(rd_T31 t185 0).f0, 1000000000000⟩ : S31)) := ⟨_, rfl⟩
  replace H : (if y199.length < 4398046511104 then (spec_DrawConsolidate.j0 k (y199 ++ [(⟨(rd_T31 y199 0).f0, (rd_T31 y199 0).f1⟩ : S31)]) t180 t190) else (none)) = some r := yb_
  have Ny199 := Aside0.mk hy_
  clear hy_
  by_cases c32 : y199.length < 4398046511104
  ·rw [if_pos c32] at H
   have LMc32 := Aside0.mk c32
   clear c32
   obtain ⟨y201, hy_⟩ : ∃ y_ : List (S31), y_ = (y199 ++ [(⟨(rd_T31 y199 0).f0, (rd_T31 y199 0).f1⟩ : S31)]) := ⟨_, rfl⟩
   replace H : (spec_DrawConsolidate.j0 k y201 t180 t190) = some r := yb_
   have Ny201 := Aside0.mk hy_
   clear hy_
   have H' := Aside0.mk H
   clear H
   go_wp2_with (first | (refine gl_ 15 (some 16) Tryd.func15 #[.pointer (some ⟨g182, 0, none⟩), .int .i64 12] ?_; (with_reducible refine (spec_l1Next.calls g182 t180 t188 12 t189 t190 w _ ?side1 ?side2 A11.out).mono ?_); (case side1 => exact cI_ HI182.out); (case side2 => exact cB1_ (IsS57.ge HI182.out)); rintro e w33 ⟨rfl, hi, hb, hk⟩; refine ⟨_, rfl, ?_⟩; replace HO187 := Aside0.mk (Kd.N_mono (Kd.N_keep (Kd.N_mono (ok := fun k_ => (((w.heap.size ≤ k_)) ∧ k_ ≠ g182)) b2_3 (fun k_ hk_ => (⟨hk_, hk_.2⟩ : _ ∧ k_ ≠ g182))) hk (fun _ h => h.2)) (fun _ h => h.1)); replace HB := Aside0.mk (hb); replace HI182 := Aside0.mk (hi); (try clear hb); (try clear hb2); (try clear hk); (try clear hi); have p31 : 0 ≤ (0 : Int) := (by omega); have q31 : (0 : Int) < ((t185.length : Int) : Int) := of_decide_eq_true ca_; have qi31 : (0 < t185.length) = True := eq_true (by omega); obtain ⟨go31, co31, eo31, gb31, gl31, cl31, HG31⟩ := Kd.N_form HO187.out (by omega); (first | cases eo31 | (injection eo31 with ea_ en_ ec_; (first | subst ea_ | (injection ea_ with ea_; subst ea_)); subst ec_; clear en_)); have GB31 := Aside0.mk gb31; have GG31 := Aside0.mk HG31; clear gb31 gl31 HG31; obtain ⟨ce31, hcl31, hM31, hcc31, hfr31⟩ := Kd.N_elem HO187.out z31 (0 : Int) p31 q31; obtain ⟨ua31_0, uc31_0, rfl, ul31_0, ge31_0⟩ := k31_openF hM31; have hx31_0 : w33.cell? ⟨go31, (0 : Int).toNat * 2, none⟩ = some (.slice ua31_0 ((rd_T31 t185 0).f0).length uc31_0) := hcc31 0 _ rfl; have hx31_1 : w33.cell? ⟨go31, (0 : Int).toNat * 2 + 1, none⟩ = some (.int .i64 ((rd_T31 t185 0).f1)) := hcc31 1 _ rfl; have hf31_0 : w33.frozen? ⟨go31, (0 : Int).toNat * 2, none⟩ = false := hfr31 0; have hf31_1 : w33.frozen? ⟨go31, (0 : Int).toNat * 2 + 1, none⟩ = false := hfr31 1; (try clear hM31); clear hcl31 hcc31 hfr31; (try rw [show ((0 : Int)).toNat = 0 from rfl] at hx31_0); (try simp only [Nat.reduceMul, Nat.zero_mul, Nat.zero_add, Nat.reduceAdd] at hx31_0); (try rw [show ((0 : Int)).toNat = 0 from rfl] at hf31_0); (try simp only [Nat.reduceMul, Nat.zero_mul, Nat.zero_add, Nat.reduceAdd] at hf31_0); (try rw [show ((0 : Int)).toNat = 0 from rfl] at hx31_1); (try simp only [Nat.reduceMul, Nat.zero_mul, Nat.zero_add, Nat.reduceAdd] at hx31_1); (try rw [show ((0 : Int)).toNat = 0 from rfl] at hf31_1); (try simp only [Nat.reduceMul, Nat.zero_mul, Nat.zero_add, Nat.reduceAdd] at hf31_1); replace p31 := eq_true p31; replace q31 := eq_true q31; have HX34 := Aside0.mk (show Kd.N k31 31 w33 w.heap.size (fun k_ => (w.heap.size ≤ k_) ∧ k_ ≠ g182) (.slice (some ⟨go31, 0, none⟩) t185.length co9) t185 from b2_3); obtain ⟨ce34, hcl34, hM34, hcc34, hfr34⟩ := Kd.N_elem HX34.out z31 (0 : Int) (by omega) (by have h_ : (0 : Int) < ((t185.length : Int) : Int) := of_decide_eq_true ca_; first | exact h_ | (have e_ := (Kd.N_reads' HO187.out).1; omega) | simpa using h_); obtain ⟨ua34_0, uc34_0, rfl, ul34_0, ge34_0⟩ := k31_openF hM34; have HP34 := Kd.N_seg HX34.out (0 : Int) (by omega) (by have h_ : (0 : Int) < ((t185.length : Int) : Int) := of_decide_eq_true ca_; first | exact h_ | (have e_ := (Kd.N_reads' HO187.out).1; omega) | simpa using h_) (seg := [.int .i64 1000000000000]) (j := 1) hcl34 hcc34 (show 2 ≤ 2 from by decide) (x' := (⟨(rd_T31 t185 0).f0, 1000000000000⟩ : S31)) (k31_mkF _ _ (⟨(rd_T31 t185 0).f0, 1000000000000⟩ : S31) ul34_0 ge34_0) (fun _ hk => hk); have hx34_1 := hcc34 1 _ rfl; (try simp only [show (k31).sz = 2 from rfl, Nat.mul_one, Nat.add_zero] at hx34_1); (try rw [show ((0 : Int)).toNat = 0 from rfl] at hx34_1); (try simp only [Nat.reduceMul, Nat.zero_mul, Nat.zero_add, Nat.reduceAdd] at hx34_1); have hf34_1 := hfr34 1; (try simp only [show (k31).sz = 2 from rfl, Nat.mul_one, Nat.add_zero] at hf34_1); (try rw [show ((0 : Int)).toNat = 0 from rfl] at hf34_1); (try simp only [Nat.reduceMul, Nat.zero_mul, Nat.zero_add, Nat.reduceAdd] at hf34_1); (try clear hM34); clear hcl34 hcc34 hfr34) | ((with_reducible refine gate_store (t := 2) (p := 35) rfl ?_); refine store_event (t := 2) (p := 35) (v := ?vo_w35) (w1 := (w33.setCell ⟨go31, 1, none⟩ (.int .i64 1000000000000))) ?hg ?ho ?hn ?hr ?_; (case ho => rfl); (case hg => rfl); (case hn => rfl); (case hr => first | (go_simp; done) | (go_simp; rfl)); intro w35 hw; have hg : w33.grownBy w35 (some go31) := (by rw [hw]; exact HP34.2); have hp_ : Kd.N k31 31 w35 w.heap.size (fun k_ => (w.heap.size ≤ k_) ∧ k_ ≠ g182) (.slice (some ⟨go31, 0, none⟩) t185.length co9) y199 := (by rw [hw, Ny199.out]; exact HP34.1); clear HP34; replace HI182 := Aside0.mk (IsS57.grown b2_2 hg (IsS57.own_neN HI182.out HO187.out (by decide))); replace HO187 := Aside0.mk (hp_); replace HB := Aside0.mk ((by rw [hw]; exact below_set (HB.out) GB31.out : Below w.heap.size w w35)); clear hg hw hp_; have p200 : 0 ≤ (0 : Int) := (by omega); have q200 : 0 < (y199.length : Int) := (by have h_ : (0 : Int) < ((t185.length : Int) : Int) := of_decide_eq_true ca_; first | (have e_ := (Kd.N_reads' HO187.out).1; omega) | simpa only [Ny199.out, List.length_set] using h_); have ql200 : ((0 : Int) < ((t185.length : Int) : Int)) = True := eq_true (of_decide_eq_true ca_); (try have qn200 : (0 < t185.length) = True := eq_true (by have h_ : (0 : Int) < ((t185.length : Int) : Int) := of_decide_eq_true ca_; omega)); obtain ⟨ad200, A200_0, c200_0, e200, hx200_0, hx200_1, hl200_0, hi200_0⟩ := at_T31 (Kd.N_reads' HO187.out).2.2 0 p200 q200; obtain rfl : (⟨go31, 0, none⟩ : Addr) = ad200 := (by injection e200); obtain ⟨ce200, hce200, hMe200, hcc200⟩ := Kd.N_get HO187.out z31 0 p200 (by first | exact q200 | exact of_decide_eq_true ca_ | (have e_ := (Kd.N_reads' HO187.out).1; omega)); obtain ⟨ua200_0, uc200_0, rfl, ul200_0, ge200_0⟩ := k31_openF hMe200; have hv200_0 := hcc200 0 _ rfl; rw [Nat.add_zero] at hv200_0; replace hv200_0 := Option.some.inj (hv200_0.symm.trans hx200_0); injection hv200_0 with hva_ hvn_ hvc_; rw [hva_] at ge200_0; rw [hvc_] at ul200_0; have HL200_0 := Aside0.mk (show Kd.V (Kd.int .i64) 2 _ w.heap.size _ _ ((rd_T31 y199 0).f0) from Kd.V_mk ul200_0 ge200_0); clear hva_ hvn_ hvc_ ge200_0 ul200_0; clear hcc200 hce200; (first | simp only [add_plain] at hx200_0 | simp only [add_at] at hx200_0 | simp only [Addr.add, Nat.zero_add] at hx200_0 | skip); (first | simp only [add_plain] at hx200_1 | simp only [add_at] at hx200_1 | simp only [Addr.add, Nat.zero_add] at hx200_1 | skip); have qi200 : (0 < y199.length) = True := eq_true (by omega); (try rw [show ((0 : Int)).toNat = 0 from rfl] at hx200_0); (try rw [show 0 * 2 = 0 from rfl] at hx200_0); (try rw [Addr.add_zero'] at hx200_0); (try rw [show ((0 : Int)).toNat = 0 from rfl] at hx200_1); (try rw [show 0 * 2 = 0 from rfl] at hx200_1); (try rw [Addr.add_zero'] at hx200_1); have HR200_0 := Aside0.mk hi200_0; have HC200_0 := Aside0.mk hl200_0; clear hi200_0 hl200_0; replace p200 := eq_true p200; replace q200 := eq_true q200) | ((with_reducible refine gate_builtin (b := .append) (xs := #[.tmp 36, .tmp 40]) rfl ?_); at_builtin; refine Kd.N_append k31 (w0 := w) w.heap.size rfl (.tmp 36) (.tmp 40) 24 31 (.agg #[(.slice none 0 0), (.int .i64 0)]) 32 rfl Tryd.underlying24 info31 rfl (by decide) (by omega) (.slice (some ⟨go31, 0, none⟩) t185.length co9) y199 (⟨(rd_T31 y199 0).f0, (rd_T31 y199 0).f1⟩ : S31) [.slice A200_0 ((rd_T31 y199 0).f0).length c200_0, .int .i64 ((rd_T31 y199 0).f1)] (fun k_ => (w.heap.size ≤ k_) ∧ k_ ≠ g182) (fun k_ => ((fun k_ => (w.heap.size ≤ k_) ∧ k_ ≠ g182)) k_ ∧ some k_ ≠ (.slice (some ⟨go31, 0, none⟩) t185.length co9 : Value).ownBlock) rfl rfl ?aP (fun _ hk => hk) ?aF ?aO ?aB ?aS ?aL ?_; (case aP => exact (by exact (k31_mkF _ _ (⟨(rd_T31 y199 0).f0, (rd_T31 y199 0).f1⟩ : S31) (Kd.V_reads' (Kd.V_mono (ok' := (fun k_ => ((fun k_ => (w.heap.size ≤ k_) ∧ k_ ≠ g182)) k_ ∧ some k_ ≠ (.slice (some ⟨go31, 0, none⟩) t185.length co9 : Value).ownBlock)) (HL200_0.out) (fun k_ hk => ⟨⟨hk.1.1, hk.1.2⟩, hk.2⟩))).2.1 (Kd.V_F (by refine cV_ ?_; exact Kd.V_mono (ok' := (fun k_ => ((fun k_ => (w.heap.size ≤ k_) ∧ k_ ≠ g182)) k_ ∧ some k_ ≠ (.slice (some ⟨go31, 0, none⟩) t185.length co9 : Value).ownBlock)) (HL200_0.out) (fun k_ hk => ⟨⟨hk.1.1, hk.1.2⟩, hk.2⟩)))))); (case aB => exact b2_1); (case aF => exact (by exact (fun k_ hk => ⟨(Nat.le_trans (below_size b2_1) hk), IsS57.fresh b2_2 k_ hk⟩))); (case aO => exact b2_3); (case aS => exact (by exact (below_size b2_1))); (case aL => exact co_ LMc32.out); intro v202 w36 ho hb hg hat; rw [← Ny201.out] at ho; replace HI182 := Aside0.mk (IsS57.grown b2_2 hg (IsS57.own_neN HI182.out HO187.out (by decide))); replace HL200_0 := Aside0.mk (Kd.V_afterv (ok := (fun k_ => (w.heap.size ≤ k_) ∧ k_ ≠ g182)) (cV_ HL200_0.out) hg hat); replace HB := Aside0.mk (hb); have HO203 := Aside0.mk (ho); clear HO187; clear ho hb hg hat))
   go_meet
   case rel => exact ⟨_, (y201), (t190), H', ⟨cm_⟩, ⟨cN_ HO203.out⟩, ⟨cI_ HI182.out⟩, ⟨cB1_ (IsS57.ge HI182.out)⟩⟩
  rw [if_neg c32] at H
  exact absurd H (by simp)
 case rest =>
  clear HC5
  try clear c1
  try clear p1
  try clear q1
  try clear hx1
  try clear qi1
  try clear hf1
  try clear c2
  try clear p2
  try clear q2
  try clear hx2
  try clear qi2
  try clear hf2
  try clear c3
  try clear p3
  try clear q3
  try clear hx3
  try clear qi3
  try clear hf3
  try clear c5
  try clear c10
  try clear c10b0
  try clear c10b1
  try clear c12
  try clear c12b0
  try clear c12b1
  try clear c13
  try clear c14
  try clear c14b0
  try clear c14b1
  try clear c15
  try clear p15
  try clear q15
  try clear hx15
  try clear qi15
  try clear hf15
  try clear c16
  try clear c17
  try clear c19
  try clear hx19
  try clear hf19
  try clear c20
  try clear p20
  try clear q20
  try clear hx20
  try clear qi20
  try clear c21
  try clear c21b0
  try clear c21b1
  try clear c23
  try clear c23b0
  try clear c23b1
  try clear c24
  try clear p24
  try clear q24
  try clear hx24
  try clear qi24
  try clear hf24
  try clear c27
  try clear hx27
  try clear hf27
  try clear c29
  try clear c29b0
  try clear c29b1
  try clear c30
  try clear c30b0
  try clear c30b1
  try clear c31
  try clear p31
  try clear q31
  try clear hx31
  try clear qi31
  try clear hf31
  try clear c32
  try clear c34
  try clear hx34
  try clear hf34
  try clear hx15_0
  try clear hx15_1
  try clear hx19_0
  try clear hx200_0
  try clear hx200_1
  try clear hx24_0
  try clear hx24_1
  try clear hx27_1
  try clear hx31_0
  try clear hx31_1
  try clear hx34_1
  try clear p15
  try clear p200
  try clear p24
  try clear p31
  try clear q15
  try clear q200
  try clear q24
  try clear q31
  obtain ⟨kq, x4_4, x183001_4, HA, HJ4, HO_4, HI182, HB⟩ := hcut
  cases kq with
  | zero => exact absurd HA.out (by simp [spec_DrawConsolidate.j0])
  | succ kj4 =>
   have H := HA.out
   clear HA
   simp only [spec_DrawConsolidate.j0] at H
   obtain ⟨⟨t204, t205⟩, A38, H⟩ := bnd_ H
   try dsimp only at H
   by_cases c39 : t204 = true
   rotate_left
   ·replace c39 := Bool.eq_false_iff.mpr c39
    subst c39
    rw [if_neg (show ¬ (false = true) by decide)] at H
    obtain rfl := Option.some.inj H
    go_wp2_with (first | (refine gl_ 18 (some 43) Tryd.func18 #[.pointer (some ⟨g182, 0, none⟩), .int .i64 60] ?_; (with_reducible refine (spec_l1Chance.calls g182 t180 x183001_4 60 false t205 w _ ?side1 ?side2 A38.out).mono ?_); (case side1 => exact cI_ HI182.out); (case side2 => exact cB1_ (IsS57.ge HI182.out)); rintro e w53 ⟨rfl, hi, hb, hk⟩; refine ⟨_, rfl, ?_⟩; replace HO_4 := Aside0.mk (Kd.N_mono (Kd.N_keep (Kd.N_mono (ok := fun k_ => (((w.heap.size ≤ k_)) ∧ k_ ≠ g182)) (cN_ HO_4.out) (fun k_ hk_ => (⟨hk_, hk_.2⟩ : _ ∧ k_ ≠ g182))) hk (fun _ h => h.2)) (fun _ h => h.1)); replace HB := Aside0.mk (hb); replace HI182 := Aside0.mk (hi); (try clear hb); (try clear hb2); (try clear hk); (try clear hi)))
    go_ret
    exact ⟨_, ce_, by refine cN_ ?_; exact Kd.N_mono HO_4.out (fun _ hk => hk.1), cB1_ (IsS57.ge HI182.out)⟩
   subst c39
   rw [if_pos rfl] at H
   have H' := Aside0.mk H
   clear H
   go_wp2_with (first | (refine gl_ 18 (some 43) Tryd.func18 #[.pointer (some ⟨g182, 0, none⟩), .int .i64 60] ?_; (with_reducible refine (spec_l1Chance.calls g182 t180 x183001_4 60 true t205 w _ ?side1 ?side2 A38.out).mono ?_); (case side1 => exact cI_ HI182.out); (case side2 => exact cB1_ (IsS57.ge HI182.out)); rintro e w40 ⟨rfl, hi, hb, hk⟩; refine ⟨_, rfl, ?_⟩; replace HO_4 := Aside0.mk (Kd.N_mono (Kd.N_keep (Kd.N_mono (ok := fun k_ => (((w.heap.size ≤ k_)) ∧ k_ ≠ g182)) (cN_ HO_4.out) (fun k_ hk_ => (⟨hk_, hk_.2⟩ : _ ∧ k_ ≠ g182))) hk (fun _ h => h.2)) (fun _ h => h.1)); replace HB := Aside0.mk (hb); replace HI182 := Aside0.mk (hi); (try clear hb); (try clear hb2); (try clear hk); (try clear hi)))
   go_loopg [4, 5] kj4 (fun kq v4 v5 w' => ∃ (x4_2 : List (S31)) (x5_2 : Int) (x183001_2 : Int), v5 = .int .i64 x5_2 ∧ Aside0 (spec_DrawConsolidate.l0 kq x4_2 x5_2 t180 x183001_2 = some r) ∧ Aside0 (kq ≤ kj4) ∧ Aside0 (Kd.N k31 31 w' w.heap.size (fun k_ => (w.heap.size ≤ k_) ∧ k_ ≠ g182) v4 x4_2) ∧ Aside0 (IsS57 w w' g182 t180 x183001_2) ∧ Aside0 (Below w.heap.size w w'))
   case atStart => exact ⟨(([] : List (S31))), (0), (t205), cs_, H', ⟨Nat.le_refl _⟩, ⟨by first | exact Kd.S_nil _ _ _ _ _ | exact Kd.N_nil _ _ _ _ _ | exact Kd.V_nil _ _ _ _ _ | exact Kd.Q_nil _ _ _ _ _ | exact Kd.R_nil _ _ _ _ _⟩, ⟨cI_ HI182.out⟩, ⟨cB1_ (IsS57.ge HI182.out)⟩⟩
   case round =>
    clear H'
    try clear c1
    try clear p1
    try clear q1
    try clear hx1
    try clear qi1
    try clear hf1
    try clear c2
    try clear p2
    try clear q2
    try clear hx2
    try clear qi2
    try clear hf2
    try clear c3
    try clear p3
    try clear q3
    try clear hx3
    try clear qi3
    try clear hf3
    try clear c5
    try clear c10
    try clear c10b0
    try clear c10b1
    try clear c12
    try clear c12b0
    try clear c12b1
    try clear c13
    try clear c14
    try clear c14b0
    try clear c14b1
    try clear c15
    try clear p15
    try clear q15
    try clear hx15
    try clear qi15
    try clear hf15
    try clear c16
    try clear c17
    try clear c18
    try clear c19
    try clear hx19
    try clear hf19
    try clear c20
    try clear p20
    try clear q20
    try clear hx20
    try clear qi20
    try clear c21
    try clear c21b0
    try clear c21b1
    try clear c23
    try clear c23b0
    try clear c23b1
    try clear c24
    try clear p24
    try clear q24
    try clear hx24
    try clear qi24
    try clear hf24
    try clear c27
    try clear hx27
    try clear hf27
    try clear c29
    try clear c29b0
    try clear c29b1
    try clear c30
    try clear c30b0
    try clear c30b1
    try clear c31
    try clear p31
    try clear q31
    try clear hx31
    try clear qi31
    try clear hf31
    try clear c32
    try clear c34
    try clear hx34
    try clear hf34
    try clear c39
    try clear hx15_0
    try clear hx15_1
    try clear hx19_0
    try clear hx200_0
    try clear hx200_1
    try clear hx24_0
    try clear hx24_1
    try clear hx27_1
    try clear hx31_0
    try clear hx31_1
    try clear hx34_1
    try clear p1
    try clear p15
    try clear p2
    try clear p20
    try clear p200
    try clear p24
    try clear p3
    try clear p31
    try clear q1
    try clear q15
    try clear q2
    try clear q20
    try clear q200
    try clear q24
    try clear q3
    try clear q31
    obtain ⟨x4_2, x5_2, x183001_2, rfl, HA, HK2, HO_4, HI182, HB⟩ := hrel
    cases gk with
    | zero => exact absurd HA.out (by simp [spec_DrawConsolidate.l0])
    | succ k2 =>
     have H := HA.out
     clear HA
     simp only [spec_DrawConsolidate.l0] at H
     obtain ⟨⟨t206, t207⟩, A41, H⟩ := bnd_ H
     try dsimp only at H
     by_cases c42 : x5_2 < (wrap64 (800 + t206))
     rotate_left
     ·rw [if_neg c42] at H
      have c42b0 : decide (x5_2 < (wrap64 (800 + t206))) = false := decide_eq_false c42
      clear c42
      obtain rfl := Option.some.inj H
      go_wp2_with (first | (refine gl_ 15 (some 46) Tryd.func15 #[.pointer (some ⟨g182, 0, none⟩), .int .i64 2] ?_; (with_reducible refine (spec_l1Next.calls g182 t180 x183001_2 2 t206 t207 w _ ?side1 ?side2 A41.out).mono ?_); (case side1 => exact cI_ HI182.out); (case side2 => exact cB1_ (IsS57.ge HI182.out)); rintro e w52 ⟨rfl, hi, hb, hk⟩; refine ⟨_, rfl, ?_⟩; replace HO_4 := Aside0.mk (Kd.N_mono (Kd.N_keep (Kd.N_mono (ok := fun k_ => (((w.heap.size ≤ k_)) ∧ k_ ≠ g182)) (cN_ HO_4.out) (fun k_ hk_ => (⟨hk_, hk_.2⟩ : _ ∧ k_ ≠ g182))) hk (fun _ h => h.2)) (fun _ h => h.1)); replace HB := Aside0.mk (hb); replace HI182 := Aside0.mk (hi); (try clear hb); (try clear hb2); (try clear hk); (try clear hi)))
      go_ret
      exact ⟨_, ce_, by refine cN_ ?_; exact Kd.N_mono HO_4.out (fun _ hk => hk.1), cB1_ (IsS57.ge HI182.out)⟩
     rw [if_pos c42] at H
     have c42b0 : decide (x5_2 < (wrap64 (800 + t206))) = true := decide_eq_true c42
     clear c42
     obtain ⟨⟨t208, t209⟩, A43, H⟩ := bnd_ H
     try dsimp only at H
     by_cases c44 : (wrap64 (190 + t208)) = 0
     ·rw [if_pos c44] at H
      exact absurd H (by simp)
     rw [if_neg c44] at H
     have c44b0 : ((wrap64 (190 + t208)) == 0) = false := beq_eq_false_iff_ne.mpr c44
     have c44b1 : ((wrap64 (190 + t208)) != 0) = true := bne_iff_ne.mpr c44
     obtain ⟨y210, hy_⟩ : ∃ y_ : List Int, y_ = (([Int.tmod x5_2 (wrap64 (190 + t208))] : List Int)) := ⟨_, rfl⟩
     replace H : (if x4_2.length < 4398046511104 then (spec_DrawConsolidate.l0 k2 (x4_2 ++ [(⟨y210, 1⟩ : S31)]) (wrap64 (x5_2 + 1)) t180 t209) else (none)) = some r := yb_
     have Ny210 := Aside0.mk hy_
     clear hy_
     by_cases c45 : x4_2.length < 4398046511104
     ·rw [if_pos c45] at H
      have LMc45 := Aside0.mk c45
      clear c45
      obtain ⟨y213, hy_⟩ : ∃ y_ : List (S31), y_ = (x4_2 ++ [(⟨y210, 1⟩ : S31)]) := ⟨_, rfl⟩
      replace H : (spec_DrawConsolidate.l0 k2 y213 (wrap64 (x5_2 + 1)) t180 t209) = some r := yb_
      have Ny213 := Aside0.mk hy_
      clear hy_
      have H' := Aside0.mk H
      clear H
      go_wp2_with (first | (refine gl_ 15 (some 46) Tryd.func15 #[.pointer (some ⟨g182, 0, none⟩), .int .i64 2] ?_; (with_reducible refine (spec_l1Next.calls g182 t180 x183001_2 2 t206 t207 w _ ?side1 ?side2 A41.out).mono ?_); (case side1 => exact cI_ HI182.out); (case side2 => exact cB1_ (IsS57.ge HI182.out)); rintro e w46 ⟨rfl, hi, hb, hk⟩; refine ⟨_, rfl, ?_⟩; replace HO_4 := Aside0.mk (Kd.N_mono (Kd.N_keep (Kd.N_mono (ok := fun k_ => (((w.heap.size ≤ k_)) ∧ k_ ≠ g182)) (cN_ HO_4.out) (fun k_ hk_ => (⟨hk_, hk_.2⟩ : _ ∧ k_ ≠ g182))) hk (fun _ h => h.2)) (fun _ h => h.1)); replace HB := Aside0.mk (hb); replace HI182 := Aside0.mk (hi); (try clear hb); (try clear hb2); (try clear hk); (try clear hi)) | (refine gl_ 15 (some 54) Tryd.func15 #[.pointer (some ⟨g182, 0, none⟩), .int .i64 20] ?_; (with_reducible refine (spec_l1Next.calls g182 t180 t207 20 t208 t209 w _ ?side1 ?side2 A43.out).mono ?_); (case side1 => exact cI_ HI182.out); (case side2 => exact cB1_ (IsS57.ge HI182.out)); rintro e w47 ⟨rfl, hi, hb, hk⟩; refine ⟨_, rfl, ?_⟩; replace HO_4 := Aside0.mk (Kd.N_mono (Kd.N_keep (Kd.N_mono (ok := fun k_ => (((w.heap.size ≤ k_)) ∧ k_ ≠ g182)) (cN_ HO_4.out) (fun k_ hk_ => (⟨hk_, hk_.2⟩ : _ ∧ k_ ≠ g182))) hk (fun _ h => h.2)) (fun _ h => h.1)); replace HB := Aside0.mk (hb); replace HI182 := Aside0.mk (hi); (try clear hb); (try clear hb2); (try clear hk); (try clear hi)) | ((with_reducible refine gate_dst (N := 57) rfl ?_); refine Kd.R_lit (Kd.int .i64) _ 2 ?hg (N := 57) ?hd (xs := ([Int.tmod x5_2 (wrap64 (190 + t208))] : List Int)) (inner := [.int .i64 (Int.tmod x5_2 (wrap64 (190 + t208)))]) (ok := fun _ => True) (okp := fun _ => True) ?hr ?hp (fun _ hk => hk) trivial (Below.refl _ _) (Nat.le_refl _) (by simp) ?_; (case hd => rfl); (case hg => rfl); (case hr => first | (go_simp; done) | (go_simp; rfl)); (case hp => exact (Reps.one (show Kd.M (Kd.int .i64) _ _ _ (Int.tmod x5_2 (wrap64 (190 + t208))) [.int .i64 (Int.tmod x5_2 (wrap64 (190 + t208)))] from rfl) (Reps.none _ _))); intro v211 w48 ho49 hb hg_ hnew_; clear hg_ hnew_; (first | rw [← Ny210.out] at ho49 | (simp only [Int.reduceToNat] at ho49; rw [← Ny210.out] at ho49)); replace HO_4 := Aside0.mk (Kd.N_elder' (cN_ HO_4.out) (Kd.R_base ho49) hb); have HO212 := Aside0.mk (Kd.R_lower (Kd.R_newM (M := fun k_ => (w.heap.size ≤ k_)) ho49 (below_size b2_1) (fun k_ h_ => h_)) (below_size b2_1)); replace HB := Aside0.mk (below_step b2_1 hb); replace HI182 := Aside0.mk (IsS57.below b2_2 hb); clear hb ho49; obtain ⟨Ao50, co50, eo50⟩ := Kd.R_slice HO212.out; subst eo50) | ((with_reducible refine gate_builtin (b := .append) (xs := #[.tmp 51, .tmp 59]) rfl ?_); at_builtin; refine Kd.N_append k31 (w0 := w) w.heap.size rfl (.tmp 51) (.tmp 59) 24 31 (.agg #[(.slice none 0 0), (.int .i64 0)]) 32 rfl Tryd.underlying24 info31 rfl (by decide) (by omega) u4 x4_2 (⟨y210, 1⟩ : S31) [.slice Ao50 y210.length co50, .int .i64 1] (fun k_ => (w.heap.size ≤ k_) ∧ k_ ≠ g182) (fun k_ => ((fun k_ => (w.heap.size ≤ k_) ∧ k_ ≠ g182)) k_ ∧ some k_ ≠ (u4 : Value).ownBlock) rfl rfl ?aP (fun _ hk => hk) ?aF ?aO ?aB ?aS ?aL ?_; (case aP => exact (by exact (k31_mkF _ _ (⟨y210, 1⟩ : S31) (Kd.R_reads' (Kd.R_mono (ok' := (fun k_ => ((fun k_ => (w.heap.size ≤ k_) ∧ k_ ≠ g182)) k_ ∧ some k_ ≠ (u4 : Value).ownBlock)) (IsS57.apart HI182.out (Kd.R_apart' (HO212.out) (Kd.N_typed HO_4.out) (by decide)) (by decide)) (fun k_ hk => ⟨⟨hk.1.1.1, hk.2⟩, hk.1.2⟩))).2.1 (Kd.R_F (Kd.R_mono (ok' := (fun k_ => ((fun k_ => (w.heap.size ≤ k_) ∧ k_ ≠ g182)) k_ ∧ some k_ ≠ (u4 : Value).ownBlock)) (IsS57.apart HI182.out (Kd.R_apart' (HO212.out) (Kd.N_typed HO_4.out) (by decide)) (by decide)) (fun k_ hk => ⟨⟨hk.1.1.1, hk.2⟩, hk.1.2⟩)))))); (case aB => exact b2_1); (case aF => exact (by exact (fun k_ hk => ⟨(Nat.le_trans (below_size b2_1) hk), IsS57.fresh b2_2 k_ hk⟩))); (case aO => exact (by exact (by refine cN_ ?_; exact Kd.N_mono HO_4.out (fun _ hk => ⟨hk.1.1, hk.1.2⟩)))); (case aS => exact (by exact (below_size b2_1))); (case aL => exact co_ LMc45.out); intro v214 w51 ho hb hg hat; rw [← Ny213.out] at ho; replace HI182 := Aside0.mk (IsS57.grown b2_2 hg (IsS57.own_neN HI182.out HO_4.out (by decide))); replace HB := Aside0.mk (hb); have HO215 := Aside0.mk (ho); clear HO_4; clear HO212; clear ho hb hg hat))
      go_roundg k2
      case measure => have := HJ4.out; have := HK2.out; omega
      case rel => exact ⟨(y213), (wrap64 (x5_2 + 1)), (t209), cs_, H', ⟨by have := HJ4.out; have := HK2.out; omega⟩, ⟨cN_ HO215.out⟩, ⟨cI_ HI182.out⟩, ⟨cB1_ (IsS57.ge HI182.out)⟩⟩
     rw [if_neg c45] at H
     exact absurd H (by simp)

/-! ### impl_in: function 32 -/
def impl_in.f (a0 : Int) (a1 : Int) (a2 : Int) : Option (Bool) := if a0 ≥ a1 then (some (decide (a0 ≤ a2))) else (some false)
set_option maxHeartbeats 8000000 in
set_option maxRecDepth 100000 in
theorem impl_in.calls (a0 : Int) (a1 : Int) (a2 : Int) (r : Bool) (w : World) (h : impl_in.f a0 a1 a2 = some r) :
  Calls Tryd.prog 32 #[.int .i64 a0, .int .i64 a1, .int .i64 a2] w fun e w' => e = .returned (.bool r) ∧ Drawn0 w w' := by
 have H : (if a0 ≥ a1 then (some (decide (a0 ≤ a2))) else (some false)) = some r := h
 clear h
 by_cases c4 : a0 ≥ a1
 ·rw [if_pos c4] at H
  have c4b0 : decide (a1 ≤ a0) = true := decide_eq_true c4
  clear c4
  obtain rfl := Option.some.inj H
  go_enter Tryd.func32, Tryd.ntmps32
  go_wp2
  go_ret
  exact ⟨cs_, cD_⟩
 rw [if_neg c4] at H
 have c4b0 : decide (a1 ≤ a0) = false := decide_eq_false c4
 clear c4
 obtain rfl := Option.some.inj H
 go_enter Tryd.func32, Tryd.ntmps32
 go_wp2
 go_ret
 exact ⟨cs_, cD_⟩

/-! ### impl_RowFault: function 19 -/
def impl_RowFault.l0 : Nat → List Int → Int → Int → Option (Int)
 | 0, _, _, _ => none
 | k + 1, x8, x9, x10 => if x10 < x9 then (if 0 ≤ x10 then (if x10 < (x8.length : Int) then ((impl_in.f (rd x8 x10) (-1000000000) 1000000000).bind fun t217 => (if t217 = true then (impl_RowFault.l0 k x8 x9 (wrap64 (x10 + 1))) else (some 3))) else (none)) else (none)) else (some 0)
def impl_RowFault.f (k : Nat) (l0 : List Int) : Option (Int) := if (l0.length : Int) > 4 then (some 2) else (impl_RowFault.l0 k l0 (l0.length : Int) 0)
theorem impl_RowFault.mono_l : ∀ k, (∀ y0 y1 y2, LeO (impl_RowFault.l0 k y0 y1 y2) (impl_RowFault.l0 (k + 1) y0 y1 y2))
 | 0 => fun _ _ _ r h => by simp [impl_RowFault.l0] at h
 | k + 1 => by
  have ih0 := impl_RowFault.mono_l k
  ·intro y0 y1 y2
   unfold impl_RowFault.l0
   repeat' first
   | (with_reducible exact ih0 _ _ _)
   | (with_reducible exact LeO.refl _)
   | (with_reducible exact LeO.none _)
   | (with_reducible refine LeO.ite ?_ ?_)
   | (with_reducible refine LeO.bind ?_ (fun _ => ?_))
   | exact ih0 _ _ _
   | exact LeO.none _
   | refine LeO.ite ?_ ?_
   | refine LeO.bind ?_ (fun _ => ?_)
theorem impl_RowFault.mono : ∀ a0 k, LeO (impl_RowFault.f k a0) (impl_RowFault.f (k + 1) a0) := by
 intro a0 k
 have ih0 := impl_RowFault.mono_l k
 unfold impl_RowFault.f
 repeat' first
   | (with_reducible exact ih0 _ _ _)
   | (with_reducible exact LeO.refl _)
   | (with_reducible exact LeO.none _)
   | (with_reducible refine LeO.ite ?_ ?_)
   | (with_reducible refine LeO.bind ?_ (fun _ => ?_))
   | exact ih0 _ _ _
   | exact LeO.none _
   | refine LeO.ite ?_ ?_
   | refine LeO.bind ?_ (fun _ => ?_)
set_option maxHeartbeats 8000000 in
set_option maxRecDepth 100000 in
theorem impl_RowFault.calls (k : Nat) (A0 : Option Addr) (c0 : Nat) (l0 : List Int) (r : Int) (w : World) (hr0 : Kd.C (Kd.int .i64) w A0 l0.length l0) (hc0 : l0.length ≤ c0) (h : impl_RowFault.f k l0 = some r) :
  Calls Tryd.prog 19 #[.slice A0 l0.length c0] w fun e w' => e = .returned (.int .i64 r) ∧ Drawn0 w w' := by
 have HR0 := Aside0.mk hr0
 have HC0 := Aside0.mk hc0
 clear hr0 hc0
 have H : (if (l0.length : Int) > 4 then (some 2) else (impl_RowFault.l0 k l0 (l0.length : Int) 0)) = some r := h
 clear h
 by_cases c2 : (l0.length : Int) > 4
 ·rw [if_pos c2] at H
  have c2b0 : decide (4 < (l0.length : Int)) = true := decide_eq_true c2
  have c2b1 : decide (4 < l0.length) = true := decide_eq_true (by omega)
  clear c2
  obtain rfl := Option.some.inj H
  go_enter Tryd.func19, Tryd.ntmps19
  go_wp2
  go_ret
  exact ⟨cs_, cD_⟩
 rw [if_neg c2] at H
 have c2b0 : decide (4 < (l0.length : Int)) = false := decide_eq_false c2
 have c2b1 : decide (4 < l0.length) = false := decide_eq_false (by omega)
 clear c2
 have H' := Aside0.mk H
 clear H
 go_enter Tryd.func19, Tryd.ntmps19
 go_wp2
 go_loopg [10] k (fun kq v10 w' => ∃ (x10_1 : Int), v10 = .int .i64 x10_1 ∧ Aside0 (impl_RowFault.l0 kq l0 (l0.length : Int) x10_1 = some r) ∧ Aside0 (kq ≤ k) ∧ Drawn0 w w')
 case atStart => exact ⟨(0), cs_, H', ⟨Nat.le_refl _⟩, cD_⟩
 case round =>
  clear H'
  try clear c1
  try clear c2
  try clear c2b0
  try clear c2b1
  try clear p2
  obtain ⟨x10_1, rfl, HA, HK1, ⟨m1, rfl⟩⟩ := hrel
  cases gk with
  | zero => exact absurd HA.out (by simp [impl_RowFault.l0])
  | succ k1 =>
   have H := HA.out
   clear HA
   simp only [impl_RowFault.l0] at H
   by_cases c3 : x10_1 < (l0.length : Int)
   rotate_left
   ·rw [if_neg c3] at H
    have c3b0 : decide (x10_1 < (l0.length : Int)) = false := decide_eq_false c3
    clear c3
    obtain rfl := Option.some.inj H
    go_wp2
    go_ret
    exact ⟨cs_, cD_⟩
   rw [if_pos c3] at H
   have c3b0 : decide (x10_1 < (l0.length : Int)) = true := decide_eq_true c3
   clear c3
   by_cases c4 : 0 ≤ x10_1
   rotate_left
   ·rw [if_neg c4] at H
    exact absurd H (by simp)
   rw [if_pos c4] at H
   have c4b0 : decide (0 ≤ x10_1) = true := decide_eq_true c4
   clear c4
   by_cases c5 : x10_1 < (l0.length : Int)
   rotate_left
   ·rw [if_neg c5] at H
    exact absurd H (by simp)
   rw [if_pos c5] at H
   have c5b0 : decide (x10_1 < (l0.length : Int)) = true := decide_eq_true c5
   clear c5
   obtain ⟨t217, A6, H⟩ := bnd_ H
   try dsimp only at H
   by_cases c7 : t217 = true
   ·subst c7
    rw [if_pos rfl] at H
    have H' := Aside0.mk H
    clear H
    have p216 : 0 ≤ (x10_1 : Int) := of_decide_eq_true ca_
    have q216 : x10_1 < (l0.length : Int) := of_decide_eq_true ca_
    obtain ⟨ad216, e216, hx216_0⟩ := Kd.at_int HR0.out x10_1 p216 q216
    cases e216
    replace p216 := eq_true p216
    replace q216 := eq_true q216
    go_wp2_with (first | (refine gl_ 32 (some 15) Tryd.func32 #[.int .i64 (rd l0 x10_1), .int .i64 (-1000000000), .int .i64 1000000000] ?_; (with_reducible refine (impl_in.calls (rd l0 x10_1) (-1000000000) 1000000000 true _ A6.out).mono ?_); rintro e w' ⟨rfl, ⟨nd, rfl⟩⟩; refine ⟨_, rfl, ?_⟩))
    go_roundg k1
    case measure => have := HK1.out; omega
    case rel => exact ⟨(wrap64 (x10_1 + 1)), cs_, H', ⟨co_ HK1.out⟩, cD_⟩
   replace c7 := Bool.eq_false_iff.mpr c7
   subst c7
   rw [if_neg (show ¬ (false = true) by decide)] at H
   obtain rfl := Option.some.inj H
   have p216 : 0 ≤ (x10_1 : Int) := of_decide_eq_true ca_
   have q216 : x10_1 < (l0.length : Int) := of_decide_eq_true ca_
   obtain ⟨ad216, e216, hx216_0⟩ := Kd.at_int HR0.out x10_1 p216 q216
   cases e216
   replace p216 := eq_true p216
   replace q216 := eq_true q216
   go_wp2_with (first | (refine gl_ 32 (some 15) Tryd.func32 #[.int .i64 (rd l0 x10_1), .int .i64 (-1000000000), .int .i64 1000000000] ?_; (with_reducible refine (impl_in.calls (rd l0 x10_1) (-1000000000) 1000000000 false _ A6.out).mono ?_); rintro e w' ⟨rfl, ⟨nd, rfl⟩⟩; refine ⟨_, rfl, ?_⟩))
   go_ret
   exact ⟨cs_, cD_⟩

/-! ### impl_isWeight: function 20 -/
def impl_isWeight.f (a0 : Int) : Option (Bool) := (impl_in.f a0 (-1000000000000) 1000000000000).bind fun t218 => (some t218)
set_option maxHeartbeats 8000000 in
set_option maxRecDepth 100000 in
theorem impl_isWeight.calls (a0 : Int) (r : Bool) (w : World) (h : impl_isWeight.f a0 = some r) :
  Calls Tryd.prog 20 #[.int .i64 a0] w fun e w' => e = .returned (.bool r) ∧ Drawn0 w w' := by
 have H : ((impl_in.f a0 (-1000000000000) 1000000000000).bind fun t218 => (some t218)) = some r := h
 clear h
 obtain ⟨t218, A2, H⟩ := bnd_ H
 try dsimp only at H
 obtain rfl := Option.some.inj H
 go_enter Tryd.func20, Tryd.ntmps20
 go_wp2_with (first | (refine gl_ 32 (some 4) Tryd.func32 #[.int .i64 a0, .int .i64 (-1000000000000), .int .i64 1000000000000] ?_; (with_reducible refine (impl_in.calls a0 (-1000000000000) 1000000000000 t218 _ A2.out).mono ?_); rintro e w' ⟨rfl, ⟨nd, rfl⟩⟩; refine ⟨_, rfl, ?_⟩))
 go_ret
 exact ⟨cs_, cD_⟩

-- NOT PRINTED: function 33 (impl_Entry_33)

/-! ### cmp_isNaN_int64: function 58 -/
def cmp_isNaN_int64.f (a0 : Int) : Option (Bool) := some (a0 != a0)
set_option maxHeartbeats 8000000 in
set_option maxRecDepth 100000 in
theorem cmp_isNaN_int64.calls (a0 : Int) (r : Bool) (w : World) (h : cmp_isNaN_int64.f a0 = some r) :
  Calls Tryd.prog 58 #[.int .i64 a0] w fun e w' => e = .returned (.bool r) ∧ Drawn0 w w' := by
 have H : (some (a0 != a0)) = some r := h
 clear h
 obtain rfl := Option.some.inj H
 go_enter Tryd.func58, Tryd.ntmps58
 go_wp2
 go_ret
 exact ⟨cs_, cD_⟩

/-! ### cmp_Compare_int64: function 44 -/
def cmp_Compare_int64.f (a0 : Int) (a1 : Int) : Option (Int) := (cmp_isNaN_int64.f a0).bind fun t219 => ((cmp_isNaN_int64.f a1).bind fun t220 => (if t219 = true then (if t220 = true then (some 0) else (some (-1))) else (if t220 = true then (some 1) else (if a0 < a1 then (some (-1)) else (if a0 > a1 then (some 1) else (some 0))))))
set_option maxHeartbeats 8000000 in
set_option maxRecDepth 100000 in
theorem cmp_Compare_int64.calls (a0 : Int) (a1 : Int) (r : Int) (w : World) (h : cmp_Compare_int64.f a0 a1 = some r) :
  Calls Tryd.prog 44 #[.int .i64 a0, .int .i64 a1] w fun e w' => e = .returned (.int .i64 r) ∧ Drawn0 w w' := by
 have H : ((cmp_isNaN_int64.f a0).bind fun t219 => ((cmp_isNaN_int64.f a1).bind fun t220 => (if t219 = true then (if t220 = true then (some 0) else (some (-1))) else (if t220 = true then (some 1) else (if a0 < a1 then (some (-1)) else (if a0 > a1 then (some 1) else (some 0))))))) = some r := h
 clear h
 obtain ⟨t219, A3, H⟩ := bnd_ H
 try dsimp only at H
 obtain ⟨t220, A4, H⟩ := bnd_ H
 try dsimp only at H
 by_cases c5 : t219 = true
 ·subst c5
  rw [if_pos rfl] at H
  by_cases c6 : t220 = true
  ·subst c6
   rw [if_pos rfl] at H
   obtain rfl := Option.some.inj H
   go_enter Tryd.func44, Tryd.ntmps44
   go_wp2_with (first | (refine gl_ 58 (some 8) Tryd.func58 #[.int .i64 a0] ?_; (with_reducible refine (cmp_isNaN_int64.calls a0 true _ A3.out).mono ?_); rintro e w' ⟨rfl, ⟨nd, rfl⟩⟩; refine ⟨_, rfl, ?_⟩) | (refine gl_ 58 (some 10) Tryd.func58 #[.int .i64 a1] ?_; (with_reducible refine (cmp_isNaN_int64.calls a1 true _ A4.out).mono ?_); rintro e w' ⟨rfl, ⟨nd, rfl⟩⟩; refine ⟨_, rfl, ?_⟩))
   go_ret
   exact ⟨cs_, cD_⟩
  replace c6 := Bool.eq_false_iff.mpr c6
  subst c6
  rw [if_neg (show ¬ (false = true) by decide)] at H
  obtain rfl := Option.some.inj H
  go_enter Tryd.func44, Tryd.ntmps44
  go_wp2_with (first | (refine gl_ 58 (some 8) Tryd.func58 #[.int .i64 a0] ?_; (with_reducible refine (cmp_isNaN_int64.calls a0 true _ A3.out).mono ?_); rintro e w' ⟨rfl, ⟨nd, rfl⟩⟩; refine ⟨_, rfl, ?_⟩) | (refine gl_ 58 (some 10) Tryd.func58 #[.int .i64 a1] ?_; (with_reducible refine (cmp_isNaN_int64.calls a1 false _ A4.out).mono ?_); rintro e w' ⟨rfl, ⟨nd, rfl⟩⟩; refine ⟨_, rfl, ?_⟩))
  go_ret
  exact ⟨cs_, cD_⟩
 replace c5 := Bool.eq_false_iff.mpr c5
 subst c5
 rw [if_neg (show ¬ (false = true) by decide)] at H
 by_cases c7 : t220 = true
 ·subst c7
  rw [if_pos rfl] at H
  obtain rfl := Option.some.inj H
  go_enter Tryd.func44, Tryd.ntmps44
  go_wp2_with (first | (refine gl_ 58 (some 8) Tryd.func58 #[.int .i64 a0] ?_; (with_reducible refine (cmp_isNaN_int64.calls a0 false _ A3.out).mono ?_); rintro e w' ⟨rfl, ⟨nd, rfl⟩⟩; refine ⟨_, rfl, ?_⟩) | (refine gl_ 58 (some 10) Tryd.func58 #[.int .i64 a1] ?_; (with_reducible refine (cmp_isNaN_int64.calls a1 true _ A4.out).mono ?_); rintro e w' ⟨rfl, ⟨nd, rfl⟩⟩; refine ⟨_, rfl, ?_⟩))
  go_ret
  exact ⟨cs_, cD_⟩
 replace c7 := Bool.eq_false_iff.mpr c7
 subst c7
 rw [if_neg (show ¬ (false = true) by decide)] at H
 by_cases c8 : a0 < a1
 ·rw [if_pos c8] at H
  have c8b0 : decide (a0 < a1) = true := decide_eq_true c8
  clear c8
  obtain rfl := Option.some.inj H
  go_enter Tryd.func44, Tryd.ntmps44
  go_wp2_with (first | (refine gl_ 58 (some 8) Tryd.func58 #[.int .i64 a0] ?_; (with_reducible refine (cmp_isNaN_int64.calls a0 false _ A3.out).mono ?_); rintro e w' ⟨rfl, ⟨nd, rfl⟩⟩; refine ⟨_, rfl, ?_⟩) | (refine gl_ 58 (some 10) Tryd.func58 #[.int .i64 a1] ?_; (with_reducible refine (cmp_isNaN_int64.calls a1 false _ A4.out).mono ?_); rintro e w' ⟨rfl, ⟨nd, rfl⟩⟩; refine ⟨_, rfl, ?_⟩))
  go_ret
  exact ⟨cs_, cD_⟩
 rw [if_neg c8] at H
 have c8b0 : decide (a0 < a1) = false := decide_eq_false c8
 clear c8
 by_cases c9 : a0 > a1
 ·rw [if_pos c9] at H
  have c9b0 : decide (a1 < a0) = true := decide_eq_true c9
  clear c9
  obtain rfl := Option.some.inj H
  go_enter Tryd.func44, Tryd.ntmps44
  go_wp2_with (first | (refine gl_ 58 (some 8) Tryd.func58 #[.int .i64 a0] ?_; (with_reducible refine (cmp_isNaN_int64.calls a0 false _ A3.out).mono ?_); rintro e w' ⟨rfl, ⟨nd, rfl⟩⟩; refine ⟨_, rfl, ?_⟩) | (refine gl_ 58 (some 10) Tryd.func58 #[.int .i64 a1] ?_; (with_reducible refine (cmp_isNaN_int64.calls a1 false _ A4.out).mono ?_); rintro e w' ⟨rfl, ⟨nd, rfl⟩⟩; refine ⟨_, rfl, ?_⟩))
  go_ret
  exact ⟨cs_, cD_⟩
 rw [if_neg c9] at H
 have c9b0 : decide (a1 < a0) = false := decide_eq_false c9
 clear c9
 obtain rfl := Option.some.inj H
 go_enter Tryd.func44, Tryd.ntmps44
 go_wp2_with (first | (refine gl_ 58 (some 8) Tryd.func58 #[.int .i64 a0] ?_; (with_reducible refine (cmp_isNaN_int64.calls a0 false _ A3.out).mono ?_); rintro e w' ⟨rfl, ⟨nd, rfl⟩⟩; refine ⟨_, rfl, ?_⟩) | (refine gl_ 58 (some 10) Tryd.func58 #[.int .i64 a1] ?_; (with_reducible refine (cmp_isNaN_int64.calls a1 false _ A4.out).mono ?_); rintro e w' ⟨rfl, ⟨nd, rfl⟩⟩; refine ⟨_, rfl, ?_⟩))
 go_ret
 exact ⟨cs_, cD_⟩

/-! ### cmp_isNaN_int: function 59 -/
def cmp_isNaN_int.f (a0 : Int) : Option (Bool) := some (a0 != a0)
set_option maxHeartbeats 8000000 in
set_option maxRecDepth 100000 in
theorem cmp_isNaN_int.calls (a0 : Int) (r : Bool) (w : World) (h : cmp_isNaN_int.f a0 = some r) :
  Calls Tryd.prog 59 #[.int .i64 a0] w fun e w' => e = .returned (.bool r) ∧ Drawn0 w w' := by
 have H : (some (a0 != a0)) = some r := h
 clear h
 obtain rfl := Option.some.inj H
 go_enter Tryd.func59, Tryd.ntmps59
 go_wp2
 go_ret
 exact ⟨cs_, cD_⟩

end Go.Proofs.YthgmicingbjemaaDoor.PFnSums
