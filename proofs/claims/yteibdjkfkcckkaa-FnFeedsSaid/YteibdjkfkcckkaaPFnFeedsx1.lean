-- Written by fprint, a program of this session, out of Lean's own print of the translation. Lean checks it.
import Derived.Test.YteibdjkfkcckkaaDense
import Derived.Test.YteibdjkfkcckkaaShort
import Derived.Test.YteibdjkfkcckkaaPFnFeedsx0
namespace Go.Proofs.Yteibdjkfkcckkaa.PFnFeeds
open Go.RowKit Go.Proofs.YteibdjkfkcckkaaW.PrintWords Go.Proofs.YteibdjkfkcckkaaW.PrintLast Go.Proofs.YteibdjkfkcckkaaW.PrintMore
attribute [local go_sem] max2_int min2_int max_two min_two max_three min_three max_four min_four   -- for this text's walks alone
set_option linter.unusedVariables false
set_option linter.unusedSimpArgs false

/-- append(v, ys...) where v was made of nothing and ys is a row of one's own: its elements lead to the same blocks. -/
theorem Kd.S_append_copy {P : Program} {ops : Array Oper} {rest : List Oper} {o : Oper} {a : Act} {Q : Exit → Act → World → Prop} {α : Type} (d : Kd α) {W : World} (base : Nat) (hgd : o.guard = none) (s x : Operand) (t e : TypeId) (z : Value) (bytes : Nat)
    (ho : o.op = .call { callee := .builtin .append, args := #[s, x], argTypes := #[t, t] })
    (ht : P.underlying t = some (.slice e)) (hinfo : (P.info? e).map (fun i => (i.zero, i.size, i.bytes)) = some (some z, d.sz, bytes)) (hz : z.cells.size = d.sz) (hs0 : 0 < d.sz) (hb0 : 0 < bytes) (hE : e ∉ d.E)
    (v : Value) (ys zs : List α) (hzs : ys = zs) (A : Option Addr) (c : Nat) (hs : a.eval s = v) (hx : a.eval x = .slice A ys.length c) {base1 : Nat}
    (HE : Kd.S d e W base1 (fun _ => True) v []) (hb1 : base ≤ base1) (HP : Kd.S d e W base (fun _ => True) (.slice A ys.length c) ys) (hne : ∀ k, (Value.slice A ys.length c).ownBlock = some k → k < base1) (hbase : base ≤ W.heap.size) (hl : ys.length * bytes ≤ 140737488355328)
    (h : ∀ v1 w1, Kd.S d e w1 base (fun k => True ∧ some k ≠ (Value.slice A ys.length c).ownBlock) v1 zs → W.grownBy w1 v.ownBlock → (v1.ownBlock = v.ownBlock ∨ ∃ b, v1.ownBlock = some b ∧ W.heap.size ≤ b) → wpList P ops Q rest (a.put o.dst v1) w1) :
    wpList P ops Q (o :: rest) a W := by
  subst hzs
  have hE1 := Kd.S_lower HE hb1
  have ht1 := Kd.S_typed HE
  obtain ⟨fe, he0, inner, he1, her⟩ := hE1
  obtain ⟨f, hp0, hp1⟩ := HP
  obtain ⟨A', c', hv, _, hr⟩ := OwnRow.reads hp1
  injection hv with hv1 _ hv3
  subst hv1 hv3
  have hlen : (ys.zipIdx).length = ys.length := List.length_zipIdx
  refine Kd.R_append_rows (Kd.tag f d) (w0 := W) (Rr := (Kd.tag f d).M W base (fun k => True ∧ some k ≠ (Value.slice A ys.length c).ownBlock)) base hgd s x t e z bytes ho ht hinfo hz hs0 hb0 v [] ys.zipIdx A ys.length c
    (fun k => True ∧ some k ≠ (Value.slice A ys.length c).ownBlock) (fun k => (True ∧ some k ≠ (Value.slice A ys.length c).ownBlock) ∧ base ≤ k ∧ k < W.heap.size ∧ ∃ q, q ∈ d.E ∧ ∃ cells, W.heap[k]? = some (.cells cells q (0, 0)))
    hs hx ⟨fun k hk => ⟨trivial, fun e => ?_⟩, inner, he1, her.1, fun j p hj => by simp at hj⟩ (hlen ▸ hr) (fun p cs hp => (Kd.tag f d).M_bound hp) (fun k hk => ⟨hk.1, fun e_ => ?_⟩) (fun k hk => ⟨trivial, fun e => ?_⟩) (Below.refl _ _) hbase (by simpa using hl) ?_
  · have := hne k e.symm
    have := Kd.S_base HE k hk
    omega
  · obtain ⟨_, _, _, q, hq, cs, hc⟩ := hk
    obtain ⟨cs', hc'⟩ := ht1 k e_.symm
    rw [hc] at hc'
    cases hc'
    exact hE hq
  · have := own_lt hp1.choose_spec.1 k e.symm
    omega
  · intro v1 w1 hr1 hb hg hat
    exact h v1 w1 ⟨f, by simpa using hr1⟩ hg hat
theorem own_new_ {W W1 : World} {u v : Value} {b : Nat} (hb : Below b W W1) (hu : ∀ k, u.ownBlock = some k → W.heap.size ≤ k) (hat : v.ownBlock = u.ownBlock ∨ ∃ k, v.ownBlock = some k ∧ W1.heap.size ≤ k) : ∀ k, v.ownBlock = some k → W.heap.size ≤ k := by
  intro k hk
  rcases hat with e | ⟨b, e, hle⟩
  · exact hu k (e ▸ hk)
  · rw [hk] at e
    cases e
    exact Nat.le_trans hb.size hle
/-- Element i of a row apart, its field 6 lent: what takes its place, made out of its blocks or of new ones, is put back. -/
theorem bent_open_ {W : World} {base g n cap : Nat} {ok : Nat → Prop} {xs : List S58} (HS : Kd.S k58 58 W base ok (.slice (some ⟨g, 0, none⟩) n cap) xs) (i : Int) (h0 : 0 ≤ i) (h1 : i < n) :
    ∃ (v : Value) (oki : Nat → Prop), W.cell? ⟨g, i.toNat * 7 + 6, none⟩ = some v ∧ (∀ k, oki k → ok k ∧ k ≠ g) ∧ g < W.heap.size ∧ ok g ∧ Kd.R (Kd.int .i64) 2 W base oki v (rd_T58 xs i).f6 ∧
      (∀ j, W.frozen? ⟨g, i.toNat * 7 + j, none⟩ = false) ∧
      ∀ (W1 : World) (v1 : Value) (r : List Int), W.grownBy W1 v.ownBlock → Kd.R (Kd.int .i64) 2 W1 base (fun k => oki k ∨ (ok k ∧ k ≠ g) ∧ W.heap.size ≤ k) v1 r →
        Kd.S k58 58 (W1.setCells g (i.toNat * 7 + 6) [v1]) base ok (.slice (some ⟨g, 0, none⟩) n cap) (xs.set i.toNat (⟨(rd_T58 xs i).f0, (rd_T58 xs i).f1, (rd_T58 xs i).f2, (rd_T58 xs i).f3, (rd_T58 xs i).f4, (rd_T58 xs i).f5, r⟩ : S58)) := by
  have hlt := Kd.S_lt HS g (by simp [Value.ownBlock])
  have hokg := (Kd.S_R HS).1 g (by simp [Value.ownBlock])
  obtain ⟨oki, c, hcl, hM, hcc, hfr, hoki, hH⟩ := Kd.S_elem HS z58 i h0 h1
  obtain ⟨v6, rfl, ge⟩ := k58_openM hM
  refine ⟨v6, oki, hcc 6 _ rfl, hoki, hlt, hokg, ge, hfr, fun W1 v1 r hg hr => ?_⟩
  have hH1 := Kd.H_grown (Kd.H_widen hH) hg (fun k hk => .inl (ge.1 k hk))
  have hM1 := k58_mkM W1 base (fun k => oki k ∨ (ok k ∧ k ≠ g) ∧ W.heap.size ≤ k) (⟨(rd_T58 xs i).f0, (rd_T58 xs i).f1, (rd_T58 xs i).f2, (rd_T58 xs i).f3, (rd_T58 xs i).f4, (rd_T58 xs i).f5, r⟩ : S58) hr
  exact (Kd.S_seg (okg := fun _ => False) (okp := fun k => oki k ∨ (ok k ∧ k ≠ g) ∧ W.heap.size ≤ k) (seg := [v1]) (j := 6) (Kd.H_mono hH1 (fun k hk => ⟨hk, id⟩)) h0 h1 (show 7 ≤ 7 from by decide) hM1 (fun k hk => .inl (hk.imp id (fun h => ⟨h.1.1, h.2⟩))) (fun _ h => h.elim)).1
/-! ### a copy of a list (append to an empty one) -/
def list_copy.f (l0 : List S58) : Option (List S58) := if l0.length < 1954687338268 then some l0 else none

/-! ### append of two lists -/
def list_app.f (l0 : List Int) (l1 : List Int) : Option (List Int) := if l0.length + l1.length < 17592186044416 then some (l0 ++ l1) else none

/-! ### spec_l3Width: function 44 -/
def spec_l3Width.f : Nat → List (S58) → Int → Option (Int)
 | 0, _, _ => none
 | k + 1, l0, a1 => if 0 ≤ a1 then (if a1 < (l0.length : Int) then (if ((rd_T58 l0 a1).f0) = 1 then (some ((rd_T58 l0 a1).f3)) else (if ((rd_T58 l0 a1).f0) = 3 then (some (((rd_T58 l0 a1).f6).length : Int)) else (if ((rd_T58 l0 a1).f0) = 6 then ((spec_l3Width.f k l0 ((rd_T58 l0 a1).f1)).bind fun t103 => ((spec_l3Width.f k l0 ((rd_T58 l0 a1).f2)).bind fun t104 => (some (wrap64 ((wrap64 (t103 + t104)) - ((rd_T58 l0 a1).f3)))))) else (if ((rd_T58 l0 a1).f0) = 7 then (some (wrap64 (((rd_T58 l0 a1).f3) + 1))) else (if ((rd_T58 l0 a1).f0) = 8 then (some (wrap64 (((rd_T58 l0 a1).f3) + 1))) else (if ((rd_T58 l0 a1).f0) = 9 then (some (wrap64 (((rd_T58 l0 a1).f3) + 1))) else (if ((rd_T58 l0 a1).f0) = 10 then (some (wrap64 (((rd_T58 l0 a1).f3) + 1))) else ((spec_l3Width.f k l0 ((rd_T58 l0 a1).f1)).bind fun t105 => (some t105))))))))) else (none)) else (none)
theorem spec_l3Width.mono_l : ∀ k, (∀ y0 y1, LeO (spec_l3Width.f k y0 y1) (spec_l3Width.f (k + 1) y0 y1))
 | 0 => fun _ _ r h => by simp [spec_l3Width.f] at h
 | k + 1 => by
  have ih0 := spec_l3Width.mono_l k
  ·intro y0 y1
   unfold spec_l3Width.f
   repeat' first
   | (with_reducible exact ih0 _ _)
   | (with_reducible exact LeO.refl _)
   | (with_reducible exact LeO.none _)
   | (with_reducible refine LeO.ite ?_ ?_)
   | (with_reducible refine LeO.bind ?_ (fun _ => ?_))
   | exact ih0 _ _
   | exact LeO.none _
   | refine LeO.ite ?_ ?_
   | refine LeO.bind ?_ (fun _ => ?_)
theorem spec_l3Width.mono : ∀ a0 a1 k, LeO (spec_l3Width.f k a0 a1) (spec_l3Width.f (k + 1) a0 a1) := by
 intro a0 a1 k
 have ih0 := spec_l3Width.mono_l k
 exact ih0 a0 a1
def spec_l3Width.T8 : Bool × List (List Nat × List Nat) := (true, [([], []), ([], []), ([1], [1]), ([0, 2], [0, 2]), ([], []), ([], []), ([5], [5]), ([4, 6, 3], [4, 6]), ([3, 7], [3, 7]), ([], []), ([9], [9]), ([8, 10], [8, 10]), ([11, 7, 0, 1, 2, 3, 4, 5, 6, 7, 8, 9, 10, 11], [11])])
def spec_l3Width.B8 : List Nat := [0, 0, 2, 7, 0, 0, 32, 127, 255, 0, 512, 2047, 4095]
theorem spec_l3Width.tab8 : rtab .any (opsOf Try.f44 8) = spec_l3Width.T8 := by kernel_rfl
theorem spec_l3Width.bits8 : waitsOk spec_l3Width.T8.2 spec_l3Width.B8 = true := by kernel_rfl
set_option maxHeartbeats 8000000 in
set_option maxRecDepth 100000 in
theorem spec_l3Width.calls (k : Nat) : ∀ (A0 : Option Addr) (c0 : Nat) (l0 : List (S58)) (a1 : Int) (r : Int) (w : World) (hr0 : Kd.C k58 w A0 l0.length l0) (hc0 : l0.length ≤ c0) (h : spec_l3Width.f k l0 a1 = some r),
  Calls Try.prog 44 #[.slice A0 l0.length c0, .int .i64 a1] w fun e w' => e = .returned (.int .i64 r) ∧ Below w.heap.size w w' := by
 induction k using Nat.strongRecOn with
 | _ k ih =>
 intro A0 c0 l0 a1 r w hr0 hc0 h
 cases k with
 | zero => exact absurd h (by simp [spec_l3Width.f])
 | succ k =>
 simp only [spec_l3Width.f] at h
 have hu58 := Try.underlying58
 have HR0 := Aside0.mk hr0
 have HC0 := Aside0.mk hc0
 clear hr0 hc0
 have HB := Aside0.mk (Below.refl w.heap.size w)
 have H : (if 0 ≤ a1 then (if a1 < (l0.length : Int) then (if ((rd_T58 l0 a1).f0) = 1 then (some ((rd_T58 l0 a1).f3)) else (if ((rd_T58 l0 a1).f0) = 3 then (some (((rd_T58 l0 a1).f6).length : Int)) else (if ((rd_T58 l0 a1).f0) = 6 then ((spec_l3Width.f k l0 ((rd_T58 l0 a1).f1)).bind fun t103 => ((spec_l3Width.f k l0 ((rd_T58 l0 a1).f2)).bind fun t104 => (some (wrap64 ((wrap64 (t103 + t104)) - ((rd_T58 l0 a1).f3)))))) else (if ((rd_T58 l0 a1).f0) = 7 then (some (wrap64 (((rd_T58 l0 a1).f3) + 1))) else (if ((rd_T58 l0 a1).f0) = 8 then (some (wrap64 (((rd_T58 l0 a1).f3) + 1))) else (if ((rd_T58 l0 a1).f0) = 9 then (some (wrap64 (((rd_T58 l0 a1).f3) + 1))) else (if ((rd_T58 l0 a1).f0) = 10 then (some (wrap64 (((rd_T58 l0 a1).f3) + 1))) else ((spec_l3Width.f k l0 ((rd_T58 l0 a1).f1)).bind fun t105 => (some t105))))))))) else (none)) else (none)) = some r := h
 clear h
 by_cases c3 : 0 ≤ a1
 rotate_left
 ·rw [if_neg c3] at H
  exact absurd H (by simp)
 rw [if_pos c3] at H
 have c3b0 : decide (0 ≤ a1) = true := decide_eq_true c3
 clear c3
 by_cases c4 : a1 < (l0.length : Int)
 rotate_left
 ·rw [if_neg c4] at H
  exact absurd H (by simp)
 rw [if_pos c4] at H
 have c4b0 : decide (a1 < (l0.length : Int)) = true := decide_eq_true c4
 clear c4
 by_cases c5 : ((rd_T58 l0 a1).f0) = 1
 ·rw [if_pos c5] at H
  have c5b0 : (((rd_T58 l0 a1).f0) == 1) = true := beq_iff_eq.mpr c5
  have c5b1 : (((rd_T58 l0 a1).f0) != 1) = false := bne_eq_false_iff_eq.mpr c5
  clear c5
  obtain rfl := Option.some.inj H
  have p101 : 0 ≤ (a1 : Int) := of_decide_eq_true ca_
  have q101 : a1 < (l0.length : Int) := of_decide_eq_true ca_
  obtain ⟨ad101, A101_6, c101_6, e101, hx101_0, hx101_1, hx101_2, hx101_3, hx101_4, hx101_5, hx101_6, hl101_6, hi101_6⟩ := at_T58 HR0.out a1 p101 q101
  cases e101
  have HR101_6 := Aside0.mk hi101_6
  have HC101_6 := Aside0.mk hl101_6
  clear hi101_6 hl101_6
  replace p101 := eq_true p101
  replace q101 := eq_true q101
  go_enter Try.func44, Try.ntmps44
  go_wp2_with (first | (refine bx_ 5 #[.int .i64 0, .int .i64 0, .int .i64 0, .int .i64 0, .int .i64 0, .int .i64 0, .slice none 0 0] 58 ?_; intro gb102 hg w6 hbox hb; have BK102 := Aside0.mk (hbox); have GW102 := Aside0.mk ((by rw [hg]; exact (below_size cB0_) : w.heap.size ≤ gb102)); have GE102 := Aside0.mk ((by rw [hg]; exact (below_size cB0_) : w.heap.size ≤ gb102)); replace HB := Aside0.mk (below_step cB0_ hb); clear hb hbox hg; obtain ⟨hcz7_0, hcz7_1, hcz7_2, hcz7_3, hcz7_4, hcz7_5, hcz7_6, hfz7_0, hfz7_1, hfz7_2, hfz7_3, hfz7_4, hfz7_5, hfz7_6⟩ := cells7 BK102.out))
  go_ret
  exact ⟨ce_, cB1_ GE102.out⟩
 rw [if_neg c5] at H
 have c5b0 : (((rd_T58 l0 a1).f0) == 1) = false := beq_eq_false_iff_ne.mpr c5
 have c5b1 : (((rd_T58 l0 a1).f0) != 1) = true := bne_iff_ne.mpr c5
 by_cases c8 : ((rd_T58 l0 a1).f0) = 3
 ·rw [if_pos c8] at H
  have c8b0 : (((rd_T58 l0 a1).f0) == 3) = true := beq_iff_eq.mpr c8
  have c8b1 : (((rd_T58 l0 a1).f0) != 3) = false := bne_eq_false_iff_eq.mpr c8
  clear c8
  obtain rfl := Option.some.inj H
  have p101 : 0 ≤ (a1 : Int) := of_decide_eq_true ca_
  have q101 : a1 < (l0.length : Int) := of_decide_eq_true ca_
  obtain ⟨ad101, A101_6, c101_6, e101, hx101_0, hx101_1, hx101_2, hx101_3, hx101_4, hx101_5, hx101_6, hl101_6, hi101_6⟩ := at_T58 HR0.out a1 p101 q101
  cases e101
  have HR101_6 := Aside0.mk hi101_6
  have HC101_6 := Aside0.mk hl101_6
  clear hi101_6 hl101_6
  replace p101 := eq_true p101
  replace q101 := eq_true q101
  go_enter Try.func44, Try.ntmps44
  go_wp2_with (first | (refine bx_ 5 #[.int .i64 0, .int .i64 0, .int .i64 0, .int .i64 0, .int .i64 0, .int .i64 0, .slice none 0 0] 58 ?_; intro gb102 hg w9 hbox hb; have BK102 := Aside0.mk (hbox); have GW102 := Aside0.mk ((by rw [hg]; exact (below_size cB0_) : w.heap.size ≤ gb102)); have GE102 := Aside0.mk ((by rw [hg]; exact (below_size cB0_) : w.heap.size ≤ gb102)); replace HB := Aside0.mk (below_step cB0_ hb); clear hb hbox hg; obtain ⟨hcz10_0, hcz10_1, hcz10_2, hcz10_3, hcz10_4, hcz10_5, hcz10_6, hfz10_0, hfz10_1, hfz10_2, hfz10_3, hfz10_4, hfz10_5, hfz10_6⟩ := cells7 BK102.out))
  go_ret
  exact ⟨ce_, cB1_ GE102.out⟩
 rw [if_neg c8] at H
 have c8b0 : (((rd_T58 l0 a1).f0) == 3) = false := beq_eq_false_iff_ne.mpr c8
 have c8b1 : (((rd_T58 l0 a1).f0) != 3) = true := bne_iff_ne.mpr c8
 by_cases c11 : ((rd_T58 l0 a1).f0) = 6
 ·rw [if_pos c11] at H
  have c11b0 : (((rd_T58 l0 a1).f0) == 6) = true := beq_iff_eq.mpr c11
  have c11b1 : (((rd_T58 l0 a1).f0) != 6) = false := bne_eq_false_iff_eq.mpr c11
  clear c11
  obtain ⟨t103, A12, H⟩ := bnd_ H
  try dsimp only at H
  obtain ⟨t104, A13, H⟩ := bnd_ H
  try dsimp only at H
  obtain rfl := Option.some.inj H
  have p101 : 0 ≤ (a1 : Int) := of_decide_eq_true ca_
  have q101 : a1 < (l0.length : Int) := of_decide_eq_true ca_
  obtain ⟨ad101, A101_6, c101_6, e101, hx101_0, hx101_1, hx101_2, hx101_3, hx101_4, hx101_5, hx101_6, hl101_6, hi101_6⟩ := at_T58 HR0.out a1 p101 q101
  cases e101
  have HR101_6 := Aside0.mk hi101_6
  have HC101_6 := Aside0.mk hl101_6
  clear hi101_6 hl101_6
  replace p101 := eq_true p101
  replace q101 := eq_true q101
  go_enter Try.func44, Try.ntmps44
  try go_wp2_with (first | (refine bx_ 5 #[.int .i64 0, .int .i64 0, .int .i64 0, .int .i64 0, .int .i64 0, .int .i64 0, .slice none 0 0] 58 ?_; intro gb102 hg w14 hbox hb; have BK102 := Aside0.mk (hbox); have GW102 := Aside0.mk ((by rw [hg]; exact (below_size cB0_) : w.heap.size ≤ gb102)); have GE102 := Aside0.mk ((by rw [hg]; exact (below_size cB0_) : w.heap.size ≤ gb102)); replace HB := Aside0.mk (below_step cB0_ hb); clear hb hbox hg; obtain ⟨hcz15_0, hcz15_1, hcz15_2, hcz15_3, hcz15_4, hcz15_5, hcz15_6, hfz15_0, hfz15_1, hfz15_2, hfz15_3, hfz15_4, hfz15_5, hfz15_6⟩ := cells7 BK102.out))
  have n0_ : Aside0 ((((((((w14.setCell ⟨gb102, 0, none⟩ (.int .i64 ((rd_T58 l0 a1).f0))).setCell ⟨gb102, 1, none⟩ (.int .i64 ((rd_T58 l0 a1).f1))).setCell ⟨gb102, 2, none⟩ (.int .i64 ((rd_T58 l0 a1).f2))).setCell ⟨gb102, 3, none⟩ (.int .i64 ((rd_T58 l0 a1).f3))).setCell ⟨gb102, 4, none⟩ (.int .i64 ((rd_T58 l0 a1).f4))).setCell ⟨gb102, 5, none⟩ (.int .i64 ((rd_T58 l0 a1).f5))).setCell ⟨gb102, 6, none⟩ (.slice A101_6 ((rd_T58 l0 a1).f6).length c101_6)).heap[gb102]? = some (.cells #[.int .i64 ((rd_T58 l0 a1).f0), .int .i64 ((rd_T58 l0 a1).f1), .int .i64 ((rd_T58 l0 a1).f2), .int .i64 ((rd_T58 l0 a1).f3), .int .i64 ((rd_T58 l0 a1).f4), .int .i64 ((rd_T58 l0 a1).f5), .slice A101_6 ((rd_T58 l0 a1).f6).length c101_6] 58 (0, 0))) := ⟨by refine cO_ ?_; refine blk_put (cs := #[.int .i64 ((rd_T58 l0 a1).f0), .int .i64 ((rd_T58 l0 a1).f1), .int .i64 ((rd_T58 l0 a1).f2), .int .i64 ((rd_T58 l0 a1).f3), .int .i64 ((rd_T58 l0 a1).f4), .int .i64 ((rd_T58 l0 a1).f5), .slice none 0 0]) ?_ 6 _ rfl; refine cO_ ?_; refine blk_put (cs := #[.int .i64 ((rd_T58 l0 a1).f0), .int .i64 ((rd_T58 l0 a1).f1), .int .i64 ((rd_T58 l0 a1).f2), .int .i64 ((rd_T58 l0 a1).f3), .int .i64 ((rd_T58 l0 a1).f4), .int .i64 0, .slice none 0 0]) ?_ 5 _ rfl; refine cO_ ?_; refine blk_put (cs := #[.int .i64 ((rd_T58 l0 a1).f0), .int .i64 ((rd_T58 l0 a1).f1), .int .i64 ((rd_T58 l0 a1).f2), .int .i64 ((rd_T58 l0 a1).f3), .int .i64 0, .int .i64 0, .slice none 0 0]) ?_ 4 _ rfl; refine cO_ ?_; refine blk_put (cs := #[.int .i64 ((rd_T58 l0 a1).f0), .int .i64 ((rd_T58 l0 a1).f1), .int .i64 ((rd_T58 l0 a1).f2), .int .i64 0, .int .i64 0, .int .i64 0, .slice none 0 0]) ?_ 3 _ rfl; refine cO_ ?_; refine blk_put (cs := #[.int .i64 ((rd_T58 l0 a1).f0), .int .i64 ((rd_T58 l0 a1).f1), .int .i64 0, .int .i64 0, .int .i64 0, .int .i64 0, .slice none 0 0]) ?_ 2 _ rfl; refine cO_ ?_; refine blk_put (cs := #[.int .i64 ((rd_T58 l0 a1).f0), .int .i64 0, .int .i64 0, .int .i64 0, .int .i64 0, .int .i64 0, .slice none 0 0]) ?_ 1 _ rfl; refine cO_ ?_; refine blk_put (cs := #[.int .i64 0, .int .i64 0, .int .i64 0, .int .i64 0, .int .i64 0, .int .i64 0, .slice none 0 0]) ?_ 0 _ rfl; refine cO_ ?_; exact BK102.out⟩
  have n1_ : Aside0 (Below w.heap.size w (((((((w14.setCell ⟨gb102, 0, none⟩ (.int .i64 ((rd_T58 l0 a1).f0))).setCell ⟨gb102, 1, none⟩ (.int .i64 ((rd_T58 l0 a1).f1))).setCell ⟨gb102, 2, none⟩ (.int .i64 ((rd_T58 l0 a1).f2))).setCell ⟨gb102, 3, none⟩ (.int .i64 ((rd_T58 l0 a1).f3))).setCell ⟨gb102, 4, none⟩ (.int .i64 ((rd_T58 l0 a1).f4))).setCell ⟨gb102, 5, none⟩ (.int .i64 ((rd_T58 l0 a1).f5))).setCell ⟨gb102, 6, none⟩ (.slice A101_6 ((rd_T58 l0 a1).f6).length c101_6))) := ⟨cB1_ GE102.out⟩
  (try clear BK102)
  (try clear HB)
  generalize (((((((w14.setCell ⟨gb102, 0, none⟩ (.int .i64 ((rd_T58 l0 a1).f0))).setCell ⟨gb102, 1, none⟩ (.int .i64 ((rd_T58 l0 a1).f1))).setCell ⟨gb102, 2, none⟩ (.int .i64 ((rd_T58 l0 a1).f2))).setCell ⟨gb102, 3, none⟩ (.int .i64 ((rd_T58 l0 a1).f3))).setCell ⟨gb102, 4, none⟩ (.int .i64 ((rd_T58 l0 a1).f4))).setCell ⟨gb102, 5, none⟩ (.int .i64 ((rd_T58 l0 a1).f5))).setCell ⟨gb102, 6, none⟩ (.slice A101_6 ((rd_T58 l0 a1).f6).length c101_6)) = w16 at n0_ n1_ ⊢
  have BK102 := n0_
  have HB := n1_
  clear n0_ n1_
  replace BK102 := Aside0.mk (blk_drew BK102.out)
  replace HB := Aside0.mk (below_drew1 HB.out)
  refine start_ (n := 13) (S := fun w' => w'.cell? ⟨gb102, 0, none⟩ = some (.int .i64 ((rd_T58 l0 a1).f0)) ∧ w'.cell? ⟨gb102, 1, none⟩ = some (.int .i64 ((rd_T58 l0 a1).f1)) ∧ w'.cell? ⟨gb102, 2, none⟩ = some (.int .i64 ((rd_T58 l0 a1).f2)) ∧ w'.cell? ⟨gb102, 3, none⟩ = some (.int .i64 ((rd_T58 l0 a1).f3)) ∧ w'.cell? ⟨gb102, 4, none⟩ = some (.int .i64 ((rd_T58 l0 a1).f4)) ∧ w'.cell? ⟨gb102, 5, none⟩ = some (.int .i64 ((rd_T58 l0 a1).f5)) ∧ w'.cell? ⟨gb102, 6, none⟩ = some (.slice A101_6 ((rd_T58 l0 a1).f6).length c101_6)) (ds := []) (bl 13 0) (by kernel_rfl) rfl rfl ⟨(blk_cell BK102.out 0).trans rfl, (blk_cell BK102.out 1).trans rfl, (blk_cell BK102.out 2).trans rfl, (blk_cell BK102.out 3).trans rfl, (blk_cell BK102.out 4).trans rfl, (blk_cell BK102.out 5).trans rfl, (blk_cell BK102.out 6).trans rfl⟩ (fun hHeld => ?_); refine with_tabW spec_l3Width.tab8 spec_l3Width.bits8 (fun HT_ HW_ => ?_)
  generalize w16.drew = w17 at BK102 HB hHeld ⊢
  refine pu_ 0 (some 23) (bl 13 1) HT_.out rfl ?_
  refine pu_ 1 (some 24) (bl 13 3) HT_.out rfl ?_
  refine pu_ 4 (some 27) (bl 13 19) HT_.out rfl ?_
  refine pu_ 5 (some 28) (bl 13 51) HT_.out rfl ?_
  refine pu_ 9 (some 32) (bl 13 563) HT_.out rfl ?_
  refine tw_ 2 (some 25) (bl 13 567) HT_.out HW_.out rfl hHeld (fun w' s_ => by obtain ⟨s0, s1, s2, s3, s4, s5, s6⟩ := s_; go_simp; with_reducible rfl) ?_
  refine tw_ 6 (some 29) (bl 13 631) HT_.out HW_.out rfl hHeld (fun w' s_ => by obtain ⟨s0, s1, s2, s3, s4, s5, s6⟩ := s_; go_simp; with_reducible rfl) ?_
  refine tw_ 10 (some 33) (bl 13 1655) HT_.out HW_.out rfl hHeld (fun w' s_ => by obtain ⟨s0, s1, s2, s3, s4, s5, s6⟩ := s_; go_simp; with_reducible rfl) ?_
  refine on_ 3 (some 26) (bl 13 1663) HT_.out rfl (fun K hK => ?_)
  refine goes_ Try.func44 (by kernel_rfl) rfl #[.slice (some ad101) l0.length c0, .int .i64 ((rd_T58 l0 a1).f1)] (by rfl) rfl rfl cx_ ?_
  with_reducible refine (ih k (by omega) _ _ l0 ((rd_T58 l0 a1).f1) t103 _ ?side1 ?side2 A12.out).mono ?_
  (case side1 => exact cC_ (Kd.C_below HR0.out HB.out))
  (case side2 => exact HC0.out)
  rintro e w18 ⟨rfl, hb⟩
  refine ⟨_, rfl, ?_⟩
  replace BK102 := Aside0.mk (blk_below (g := gb102) (o := .cells #[.int .i64 ((rd_T58 l0 a1).f0), .int .i64 ((rd_T58 l0 a1).f1), .int .i64 ((rd_T58 l0 a1).f2), .int .i64 ((rd_T58 l0 a1).f3), .int .i64 ((rd_T58 l0 a1).f4), .int .i64 ((rd_T58 l0 a1).f5), .slice A101_6 ((rd_T58 l0 a1).f6).length c101_6] 58 (0, 0)) (cO_ BK102.out) hb)
  replace HB := Aside0.mk (below_step (cB1_ GE102.out) hb)
  (try clear hb)
  (try clear hb2)
  (try clear hk)
  (try clear hi)
  refine hK.out _ _ ⟨(blk_cell BK102.out 0).trans rfl, (blk_cell BK102.out 1).trans rfl, (blk_cell BK102.out 2).trans rfl, (blk_cell BK102.out 3).trans rfl, (blk_cell BK102.out 4).trans rfl, (blk_cell BK102.out 5).trans rfl, (blk_cell BK102.out 6).trans rfl⟩ (fun hHeld => ?_)
  clear hK K
  refine norm_ (a' := ?_) ?_ ?_
  rotate_left
  ·show Act.put _ (some 26) _ = _
   simp only [Act.put, List.setIfInBounds_toArray, List.set_cons_zero, List.set_cons_succ, i64_w, i32_w]
   rfl
  refine on_ 7 (some 30) (bl 13 1791) HT_.out rfl (fun K hK => ?_)
  refine goes_ Try.func44 (by kernel_rfl) rfl #[.slice (some ad101) l0.length c0, .int .i64 ((rd_T58 l0 a1).f2)] (by rfl) rfl rfl cx_ ?_
  with_reducible refine (ih k (by omega) _ _ l0 ((rd_T58 l0 a1).f2) t104 _ ?side1 ?side2 A13.out).mono ?_
  (case side1 => exact cC_ (Kd.C_below HR0.out HB.out))
  (case side2 => exact HC0.out)
  rintro e w19 ⟨rfl, hb⟩
  refine ⟨_, rfl, ?_⟩
  replace BK102 := Aside0.mk (blk_below (g := gb102) (o := .cells #[.int .i64 ((rd_T58 l0 a1).f0), .int .i64 ((rd_T58 l0 a1).f1), .int .i64 ((rd_T58 l0 a1).f2), .int .i64 ((rd_T58 l0 a1).f3), .int .i64 ((rd_T58 l0 a1).f4), .int .i64 ((rd_T58 l0 a1).f5), .slice A101_6 ((rd_T58 l0 a1).f6).length c101_6] 58 (0, 0)) (cO_ BK102.out) hb)
  replace HB := Aside0.mk (below_step (cB1_ GE102.out) hb)
  (try clear hb)
  (try clear hb2)
  (try clear hk)
  (try clear hi)
  refine hK.out _ _ ⟨(blk_cell BK102.out 0).trans rfl, (blk_cell BK102.out 1).trans rfl, (blk_cell BK102.out 2).trans rfl, (blk_cell BK102.out 3).trans rfl, (blk_cell BK102.out 4).trans rfl, (blk_cell BK102.out 5).trans rfl, (blk_cell BK102.out 6).trans rfl⟩ (fun hHeld => ?_)
  clear hK K
  refine norm_ (a' := ?_) ?_ ?_
  rotate_left
  ·show Act.put _ (some 30) _ = _
   simp only [Act.put, List.setIfInBounds_toArray, List.set_cons_zero, List.set_cons_succ, i64_w, i32_w]
   rfl
  refine pu_ 8 (some 31) (bl 13 2047) HT_.out rfl ?_
  refine pu_ 11 (some 34) (bl 13 4095) HT_.out rfl ?_
  refine pu_ 12 (some 4) (bl 13 8191) HT_.out rfl ?_
  refine done_ (done_of HT_.out (by kernel_rfl)) ?_
  try go_wp2
  go_ret
  exact ⟨ce_, cB1_ GE102.out⟩
 rw [if_neg c11] at H
 have c11b0 : (((rd_T58 l0 a1).f0) == 6) = false := beq_eq_false_iff_ne.mpr c11
 have c11b1 : (((rd_T58 l0 a1).f0) != 6) = true := bne_iff_ne.mpr c11
 by_cases c20 : ((rd_T58 l0 a1).f0) = 7
 ·rw [if_pos c20] at H
  have c20b0 : (((rd_T58 l0 a1).f0) == 7) = true := beq_iff_eq.mpr c20
  have c20b1 : (((rd_T58 l0 a1).f0) != 7) = false := bne_eq_false_iff_eq.mpr c20
  clear c20
  obtain rfl := Option.some.inj H
  have p101 : 0 ≤ (a1 : Int) := of_decide_eq_true ca_
  have q101 : a1 < (l0.length : Int) := of_decide_eq_true ca_
  obtain ⟨ad101, A101_6, c101_6, e101, hx101_0, hx101_1, hx101_2, hx101_3, hx101_4, hx101_5, hx101_6, hl101_6, hi101_6⟩ := at_T58 HR0.out a1 p101 q101
  cases e101
  have HR101_6 := Aside0.mk hi101_6
  have HC101_6 := Aside0.mk hl101_6
  clear hi101_6 hl101_6
  replace p101 := eq_true p101
  replace q101 := eq_true q101
  go_enter Try.func44, Try.ntmps44
  go_wp2_with (first | (refine bx_ 5 #[.int .i64 0, .int .i64 0, .int .i64 0, .int .i64 0, .int .i64 0, .int .i64 0, .slice none 0 0] 58 ?_; intro gb102 hg w21 hbox hb; have BK102 := Aside0.mk (hbox); have GW102 := Aside0.mk ((by rw [hg]; exact (below_size cB0_) : w.heap.size ≤ gb102)); have GE102 := Aside0.mk ((by rw [hg]; exact (below_size cB0_) : w.heap.size ≤ gb102)); replace HB := Aside0.mk (below_step cB0_ hb); clear hb hbox hg; obtain ⟨hcz22_0, hcz22_1, hcz22_2, hcz22_3, hcz22_4, hcz22_5, hcz22_6, hfz22_0, hfz22_1, hfz22_2, hfz22_3, hfz22_4, hfz22_5, hfz22_6⟩ := cells7 BK102.out))
  go_ret
  exact ⟨ce_, cB1_ GE102.out⟩
 rw [if_neg c20] at H
 have c20b0 : (((rd_T58 l0 a1).f0) == 7) = false := beq_eq_false_iff_ne.mpr c20
 have c20b1 : (((rd_T58 l0 a1).f0) != 7) = true := bne_iff_ne.mpr c20
 by_cases c23 : ((rd_T58 l0 a1).f0) = 8
 ·rw [if_pos c23] at H
  have c23b0 : (((rd_T58 l0 a1).f0) == 8) = true := beq_iff_eq.mpr c23
  have c23b1 : (((rd_T58 l0 a1).f0) != 8) = false := bne_eq_false_iff_eq.mpr c23
  clear c23
  obtain rfl := Option.some.inj H
  have p101 : 0 ≤ (a1 : Int) := of_decide_eq_true ca_
  have q101 : a1 < (l0.length : Int) := of_decide_eq_true ca_
  obtain ⟨ad101, A101_6, c101_6, e101, hx101_0, hx101_1, hx101_2, hx101_3, hx101_4, hx101_5, hx101_6, hl101_6, hi101_6⟩ := at_T58 HR0.out a1 p101 q101
  cases e101
  have HR101_6 := Aside0.mk hi101_6
  have HC101_6 := Aside0.mk hl101_6
  clear hi101_6 hl101_6
  replace p101 := eq_true p101
  replace q101 := eq_true q101
  go_enter Try.func44, Try.ntmps44
  go_wp2_with (first | (refine bx_ 5 #[.int .i64 0, .int .i64 0, .int .i64 0, .int .i64 0, .int .i64 0, .int .i64 0, .slice none 0 0] 58 ?_; intro gb102 hg w24 hbox hb; have BK102 := Aside0.mk (hbox); have GW102 := Aside0.mk ((by rw [hg]; exact (below_size cB0_) : w.heap.size ≤ gb102)); have GE102 := Aside0.mk ((by rw [hg]; exact (below_size cB0_) : w.heap.size ≤ gb102)); replace HB := Aside0.mk (below_step cB0_ hb); clear hb hbox hg; obtain ⟨hcz25_0, hcz25_1, hcz25_2, hcz25_3, hcz25_4, hcz25_5, hcz25_6, hfz25_0, hfz25_1, hfz25_2, hfz25_3, hfz25_4, hfz25_5, hfz25_6⟩ := cells7 BK102.out))
  go_ret
  exact ⟨ce_, cB1_ GE102.out⟩
 rw [if_neg c23] at H
 have c23b0 : (((rd_T58 l0 a1).f0) == 8) = false := beq_eq_false_iff_ne.mpr c23
 have c23b1 : (((rd_T58 l0 a1).f0) != 8) = true := bne_iff_ne.mpr c23
 by_cases c26 : ((rd_T58 l0 a1).f0) = 9
 ·rw [if_pos c26] at H
  have c26b0 : (((rd_T58 l0 a1).f0) == 9) = true := beq_iff_eq.mpr c26
  have c26b1 : (((rd_T58 l0 a1).f0) != 9) = false := bne_eq_false_iff_eq.mpr c26
  clear c26
  obtain rfl := Option.some.inj H
  have p101 : 0 ≤ (a1 : Int) := of_decide_eq_true ca_
  have q101 : a1 < (l0.length : Int) := of_decide_eq_true ca_
  obtain ⟨ad101, A101_6, c101_6, e101, hx101_0, hx101_1, hx101_2, hx101_3, hx101_4, hx101_5, hx101_6, hl101_6, hi101_6⟩ := at_T58 HR0.out a1 p101 q101
  cases e101
  have HR101_6 := Aside0.mk hi101_6
  have HC101_6 := Aside0.mk hl101_6
  clear hi101_6 hl101_6
  replace p101 := eq_true p101
  replace q101 := eq_true q101
  go_enter Try.func44, Try.ntmps44
  go_wp2_with (first | (refine bx_ 5 #[.int .i64 0, .int .i64 0, .int .i64 0, .int .i64 0, .int .i64 0, .int .i64 0, .slice none 0 0] 58 ?_; intro gb102 hg w27 hbox hb; have BK102 := Aside0.mk (hbox); have GW102 := Aside0.mk ((by rw [hg]; exact (below_size cB0_) : w.heap.size ≤ gb102)); have GE102 := Aside0.mk ((by rw [hg]; exact (below_size cB0_) : w.heap.size ≤ gb102)); replace HB := Aside0.mk (below_step cB0_ hb); clear hb hbox hg; obtain ⟨hcz28_0, hcz28_1, hcz28_2, hcz28_3, hcz28_4, hcz28_5, hcz28_6, hfz28_0, hfz28_1, hfz28_2, hfz28_3, hfz28_4, hfz28_5, hfz28_6⟩ := cells7 BK102.out))
  go_ret
  exact ⟨ce_, cB1_ GE102.out⟩
 rw [if_neg c26] at H
 have c26b0 : (((rd_T58 l0 a1).f0) == 9) = false := beq_eq_false_iff_ne.mpr c26
 have c26b1 : (((rd_T58 l0 a1).f0) != 9) = true := bne_iff_ne.mpr c26
 by_cases c29 : ((rd_T58 l0 a1).f0) = 10
 ·rw [if_pos c29] at H
  have c29b0 : (((rd_T58 l0 a1).f0) == 10) = true := beq_iff_eq.mpr c29
  have c29b1 : (((rd_T58 l0 a1).f0) != 10) = false := bne_eq_false_iff_eq.mpr c29
  clear c29
  obtain rfl := Option.some.inj H
  have p101 : 0 ≤ (a1 : Int) := of_decide_eq_true ca_
  have q101 : a1 < (l0.length : Int) := of_decide_eq_true ca_
  obtain ⟨ad101, A101_6, c101_6, e101, hx101_0, hx101_1, hx101_2, hx101_3, hx101_4, hx101_5, hx101_6, hl101_6, hi101_6⟩ := at_T58 HR0.out a1 p101 q101
  cases e101
  have HR101_6 := Aside0.mk hi101_6
  have HC101_6 := Aside0.mk hl101_6
  clear hi101_6 hl101_6
  replace p101 := eq_true p101
  replace q101 := eq_true q101
  go_enter Try.func44, Try.ntmps44
  go_wp2_with (first | (refine bx_ 5 #[.int .i64 0, .int .i64 0, .int .i64 0, .int .i64 0, .int .i64 0, .int .i64 0, .slice none 0 0] 58 ?_; intro gb102 hg w30 hbox hb; have BK102 := Aside0.mk (hbox); have GW102 := Aside0.mk ((by rw [hg]; exact (below_size cB0_) : w.heap.size ≤ gb102)); have GE102 := Aside0.mk ((by rw [hg]; exact (below_size cB0_) : w.heap.size ≤ gb102)); replace HB := Aside0.mk (below_step cB0_ hb); clear hb hbox hg; obtain ⟨hcz31_0, hcz31_1, hcz31_2, hcz31_3, hcz31_4, hcz31_5, hcz31_6, hfz31_0, hfz31_1, hfz31_2, hfz31_3, hfz31_4, hfz31_5, hfz31_6⟩ := cells7 BK102.out))
  go_ret
  exact ⟨ce_, cB1_ GE102.out⟩
 rw [if_neg c29] at H
 have c29b0 : (((rd_T58 l0 a1).f0) == 10) = false := beq_eq_false_iff_ne.mpr c29
 have c29b1 : (((rd_T58 l0 a1).f0) != 10) = true := bne_iff_ne.mpr c29
 obtain ⟨t105, A32, H⟩ := bnd_ H
 try dsimp only at H
 obtain rfl := Option.some.inj H
 have p101 : 0 ≤ (a1 : Int) := of_decide_eq_true ca_
 have q101 : a1 < (l0.length : Int) := of_decide_eq_true ca_
 obtain ⟨ad101, A101_6, c101_6, e101, hx101_0, hx101_1, hx101_2, hx101_3, hx101_4, hx101_5, hx101_6, hl101_6, hi101_6⟩ := at_T58 HR0.out a1 p101 q101
 cases e101
 have HR101_6 := Aside0.mk hi101_6
 have HC101_6 := Aside0.mk hl101_6
 clear hi101_6 hl101_6
 replace p101 := eq_true p101
 replace q101 := eq_true q101
 go_enter Try.func44, Try.ntmps44
 go_wp2_with (first | (refine bx_ 5 #[.int .i64 0, .int .i64 0, .int .i64 0, .int .i64 0, .int .i64 0, .int .i64 0, .slice none 0 0] 58 ?_; intro gb102 hg w33 hbox hb; have BK102 := Aside0.mk (hbox); have GW102 := Aside0.mk ((by rw [hg]; exact (below_size cB0_) : w.heap.size ≤ gb102)); have GE102 := Aside0.mk ((by rw [hg]; exact (below_size cB0_) : w.heap.size ≤ gb102)); replace HB := Aside0.mk (below_step cB0_ hb); clear hb hbox hg; obtain ⟨hcz34_0, hcz34_1, hcz34_2, hcz34_3, hcz34_4, hcz34_5, hcz34_6, hfz34_0, hfz34_1, hfz34_2, hfz34_3, hfz34_4, hfz34_5, hfz34_6⟩ := cells7 BK102.out) | (refine gl_ 44 (some 46) Try.func44 #[.slice (some ad101) l0.length c0, .int .i64 ((rd_T58 l0 a1).f1)] ?_; (with_reducible refine (ih k (by omega) _ _ l0 ((rd_T58 l0 a1).f1) t105 _ ?side1 ?side2 A32.out).mono ?_); (case side1 => exact (by exact Kd.C_below HR0.out (cB1_ GE102.out))); (case side2 => exact HC0.out); rintro e w35 ⟨rfl, hb⟩; refine ⟨_, rfl, ?_⟩; replace BK102 := Aside0.mk (blk_below (g := gb102) (o := .cells #[.int .i64 ((rd_T58 l0 a1).f0), .int .i64 ((rd_T58 l0 a1).f1), .int .i64 ((rd_T58 l0 a1).f2), .int .i64 ((rd_T58 l0 a1).f3), .int .i64 ((rd_T58 l0 a1).f4), .int .i64 ((rd_T58 l0 a1).f5), .slice A101_6 ((rd_T58 l0 a1).f6).length c101_6] 58 (0, 0)) (by refine cO_ ?_; refine blk_put (cs := #[.int .i64 ((rd_T58 l0 a1).f0), .int .i64 ((rd_T58 l0 a1).f1), .int .i64 ((rd_T58 l0 a1).f2), .int .i64 ((rd_T58 l0 a1).f3), .int .i64 ((rd_T58 l0 a1).f4), .int .i64 ((rd_T58 l0 a1).f5), .slice none 0 0]) ?_ 6 _ rfl; refine cO_ ?_; refine blk_put (cs := #[.int .i64 ((rd_T58 l0 a1).f0), .int .i64 ((rd_T58 l0 a1).f1), .int .i64 ((rd_T58 l0 a1).f2), .int .i64 ((rd_T58 l0 a1).f3), .int .i64 ((rd_T58 l0 a1).f4), .int .i64 0, .slice none 0 0]) ?_ 5 _ rfl; refine cO_ ?_; refine blk_put (cs := #[.int .i64 ((rd_T58 l0 a1).f0), .int .i64 ((rd_T58 l0 a1).f1), .int .i64 ((rd_T58 l0 a1).f2), .int .i64 ((rd_T58 l0 a1).f3), .int .i64 0, .int .i64 0, .slice none 0 0]) ?_ 4 _ rfl; refine cO_ ?_; refine blk_put (cs := #[.int .i64 ((rd_T58 l0 a1).f0), .int .i64 ((rd_T58 l0 a1).f1), .int .i64 ((rd_T58 l0 a1).f2), .int .i64 0, .int .i64 0, .int .i64 0, .slice none 0 0]) ?_ 3 _ rfl; refine cO_ ?_; refine blk_put (cs := #[.int .i64 ((rd_T58 l0 a1).f0), .int .i64 ((rd_T58 l0 a1).f1), .int .i64 0, .int .i64 0, .int .i64 0, .int .i64 0, .slice none 0 0]) ?_ 2 _ rfl; refine cO_ ?_; refine blk_put (cs := #[.int .i64 ((rd_T58 l0 a1).f0), .int .i64 0, .int .i64 0, .int .i64 0, .int .i64 0, .int .i64 0, .slice none 0 0]) ?_ 1 _ rfl; refine cO_ ?_; refine blk_put (cs := #[.int .i64 0, .int .i64 0, .int .i64 0, .int .i64 0, .int .i64 0, .int .i64 0, .slice none 0 0]) ?_ 0 _ rfl; refine cO_ ?_; exact BK102.out) hb); replace HB := Aside0.mk (below_step (cB1_ GE102.out) hb); (try clear hb); (try clear hb2); (try clear hk); (try clear hi)))
 go_ret
 exact ⟨ce_, cB1_ GE102.out⟩

/-! ### spec_l1In: function 59 -/
def spec_l1In.f (a0 : Int) (a1 : Int) (a2 : Int) : Option (Bool) := if a0 ≥ a1 then (some (decide (a0 ≤ a2))) else (some false)
set_option maxHeartbeats 8000000 in
set_option maxRecDepth 100000 in
theorem spec_l1In.calls (a0 : Int) (a1 : Int) (a2 : Int) (r : Bool) (w : World) (h : spec_l1In.f a0 a1 a2 = some r) :
  Calls Try.prog 59 #[.int .i64 a0, .int .i64 a1, .int .i64 a2] w fun e w' => e = .returned (.bool r) ∧ Drawn0 w w' := by
 have H : (if a0 ≥ a1 then (some (decide (a0 ≤ a2))) else (some false)) = some r := h
 clear h
 by_cases c4 : a0 ≥ a1
 ·rw [if_pos c4] at H
  have c4b0 : decide (a1 ≤ a0) = true := decide_eq_true c4
  clear c4
  obtain rfl := Option.some.inj H
  go_enter Try.func59, Try.ntmps59
  go_wp2
  go_ret
  exact ⟨cs_, cD_⟩
 rw [if_neg c4] at H
 have c4b0 : decide (a1 ≤ a0) = false := decide_eq_false c4
 clear c4
 obtain rfl := Option.some.inj H
 go_enter Try.func59, Try.ntmps59
 go_wp2
 go_ret
 exact ⟨cs_, cD_⟩

/-! ### spec_l3Reads: function 72 -/
def spec_l3Reads.f (a0 : Int) : Option (Int) := if a0 = 1 then (some 0) else (if a0 = 4 then (some 2) else (if a0 = 6 then (some 2) else (some 1)))
set_option maxHeartbeats 8000000 in
set_option maxRecDepth 100000 in
theorem spec_l3Reads.calls (a0 : Int) (r : Int) (w : World) (h : spec_l3Reads.f a0 = some r) :
  Calls Try.prog 72 #[.int .i64 a0] w fun e w' => e = .returned (.int .i64 r) ∧ Drawn0 w w' := by
 have H : (if a0 = 1 then (some 0) else (if a0 = 4 then (some 2) else (if a0 = 6 then (some 2) else (some 1)))) = some r := h
 clear h
 by_cases c2 : a0 = 1
 ·rw [if_pos c2] at H
  have c2b0 : (a0 == 1) = true := beq_iff_eq.mpr c2
  have c2b1 : (a0 != 1) = false := bne_eq_false_iff_eq.mpr c2
  clear c2
  obtain rfl := Option.some.inj H
  go_enter Try.func72, Try.ntmps72
  go_wp2
  go_ret
  exact ⟨cs_, cD_⟩
 rw [if_neg c2] at H
 have c2b0 : (a0 == 1) = false := beq_eq_false_iff_ne.mpr c2
 have c2b1 : (a0 != 1) = true := bne_iff_ne.mpr c2
 by_cases c3 : a0 = 4
 ·rw [if_pos c3] at H
  have c3b0 : (a0 == 4) = true := beq_iff_eq.mpr c3
  have c3b1 : (a0 != 4) = false := bne_eq_false_iff_eq.mpr c3
  clear c3
  obtain rfl := Option.some.inj H
  go_enter Try.func72, Try.ntmps72
  go_wp2
  go_ret
  exact ⟨cs_, cD_⟩
 rw [if_neg c3] at H
 have c3b0 : (a0 == 4) = false := beq_eq_false_iff_ne.mpr c3
 have c3b1 : (a0 != 4) = true := bne_iff_ne.mpr c3
 by_cases c4 : a0 = 6
 ·rw [if_pos c4] at H
  have c4b0 : (a0 == 6) = true := beq_iff_eq.mpr c4
  have c4b1 : (a0 != 6) = false := bne_eq_false_iff_eq.mpr c4
  clear c4
  obtain rfl := Option.some.inj H
  go_enter Try.func72, Try.ntmps72
  go_wp2
  go_ret
  exact ⟨cs_, cD_⟩
 rw [if_neg c4] at H
 have c4b0 : (a0 == 6) = false := beq_eq_false_iff_ne.mpr c4
 have c4b1 : (a0 != 6) = true := bne_iff_ne.mpr c4
 obtain rfl := Option.some.inj H
 go_enter Try.func72, Try.ntmps72
 go_wp2
 go_ret
 exact ⟨cs_, cD_⟩

end Go.Proofs.Yteibdjkfkcckkaa.PFnFeeds
