-- Written by fprint, a program of this session, out of Lean's own print of the translation. Lean checks it.
import Derived.Test.YteibdjkfkcckkaaGreatDoorDense
import Derived.Test.YteibdjkfkcckkaaGreatDoorPFnPlansx0
namespace Go.Proofs.YteibdjkfkcckkaaGreatDoor.PFnPlans
open Go.RowKit Go.Proofs.YteibdjkfkcckkaaGreatDoorW.PrintWords Go.Proofs.YteibdjkfkcckkaaGreatDoorW.PrintLast Go.Proofs.YteibdjkfkcckkaaGreatDoorW.PrintMore
attribute [local go_sem] max2_int min2_int max_two min_two max_three min_three max_four min_four
set_option linter.unusedVariables false
set_option maxHeartbeats 8000000
set_option maxRecDepth 100000
set_option linter.unusedSimpArgs false

/-- append(v, ys...) where v was made of nothing and ys is a row of one's own: its elements lead to the same blocks. -/
theorem Kd.S_append_copy {P : Program} {ops : Array Oper} {rest : List Oper} {o : Oper} {a : Act} {Q : Exit → Act → World → Prop} {α : Type} (d : Kd α) {W : World} (base : Nat) (hgd : o.guard = none) (s x : Operand) (t e : TypeId) (z : Value) (bytes : Nat)
    (ho : o.op = .call { callee := .builtin .append, args := #[s, x], argTypes := #[t, t] })
    (ht : P.underlying t = some (.slice e)) (hinfo : (P.info? e).map (fun i => (i.zero, i.size, i.bytes)) = some (some z, d.sz, bytes)) (hz : z.cells.size = d.sz) (hs0 : 0 < d.sz) (hb0 : 0 < bytes) (hE : e ∉ d.E)
    (v : Value) (ys zs : List α) (hzs : ys = zs) (A : Option Addr) (c : Nat) (hs : a.eval s = v) (hx : a.eval x = .slice A ys.length c) {base1 : Nat}
    (HE : Kd.S d e W base1 (fun _ => True) v []) (hb1 : base ≤ base1) (HP : Kd.S d e W base (fun _ => True) (.slice A ys.length c) ys) (hne : ∀ k, (Value.slice A ys.length c).ownBlock = some k → k < base1) (hbase : base ≤ W.heap.size) (hl : ys.length * bytes ≤ 140737488355328)
    (h : ∀ v1 w1, Kd.S d e w1 base (fun k => True ∧ some k ≠ (Value.slice A ys.length c).ownBlock) v1 zs → W.grownBy w1 v.ownBlock → (v1.ownBlock = v.ownBlock ∨ ∃ b, v1.ownBlock = some b ∧ W.heap.size ≤ b) → wpList P ops Q rest (a.put o.dst v1) w1) :
    wpList P ops Q (o :: rest) a W := by
  subst hzs
  have hE1 := Kd.S_lower HE hb1
  have ht1 := Kd.S_typed HE
  obtain ⟨fe, he0, inner, he1, her⟩ := hE1
  obtain ⟨f, hp0, hp1⟩ := HP
  obtain ⟨A', c', hv, _, hr⟩ := OwnRow.reads hp1
  injection hv with hv1 _ hv3
  subst hv1 hv3
  have hlen : (ys.zipIdx).length = ys.length := List.length_zipIdx
  refine Kd.R_append_rows (Kd.tag f d) (w0 := W) (Rr := (Kd.tag f d).M W base (fun k => True ∧ some k ≠ (Value.slice A ys.length c).ownBlock)) base hgd s x t e z bytes ho ht hinfo hz hs0 hb0 v [] ys.zipIdx A ys.length c
    (fun k => True ∧ some k ≠ (Value.slice A ys.length c).ownBlock) (fun k => (True ∧ some k ≠ (Value.slice A ys.length c).ownBlock) ∧ base ≤ k ∧ k < W.heap.size ∧ ∃ q, q ∈ d.E ∧ ∃ cells, W.heap[k]? = some (.cells cells q (0, 0)))
    hs hx ⟨fun k hk => ⟨trivial, fun e => ?_⟩, inner, he1, her.1, fun j p hj => by simp at hj⟩ (hlen ▸ hr) (fun p cs hp => (Kd.tag f d).M_bound hp) (fun k hk => ⟨hk.1, fun e_ => ?_⟩) (fun k hk => ⟨trivial, fun e => ?_⟩) (Below.refl _ _) hbase (by simpa using hl) ?_
  · have := hne k e.symm
    have := Kd.S_base HE k hk
    omega
  · obtain ⟨_, _, _, q, hq, cs, hc⟩ := hk
    obtain ⟨cs', hc'⟩ := ht1 k e_.symm
    rw [hc] at hc'
    cases hc'
    exact hE hq
  · have := own_lt hp1.choose_spec.1 k e.symm
    omega
  · intro v1 w1 hr1 hb hg hat
    exact h v1 w1 ⟨f, by simpa using hr1⟩ hg hat
theorem own_new_ {W W1 : World} {u v : Value} {b : Nat} (hb : Below b W W1) (hu : ∀ k, u.ownBlock = some k → W.heap.size ≤ k) (hat : v.ownBlock = u.ownBlock ∨ ∃ k, v.ownBlock = some k ∧ W1.heap.size ≤ k) : ∀ k, v.ownBlock = some k → W.heap.size ≤ k := by
  intro k hk
  rcases hat with e | ⟨b, e, hle⟩
  · exact hu k (e ▸ hk)
  · rw [hk] at e
    cases e
    exact Nat.le_trans hb.size hle
/-- Element i of a row apart, its field 6 lent: what takes its place, made out of its blocks or of new ones, is put back. -/
theorem bent_open_ {W : World} {base g n cap : Nat} {ok : Nat → Prop} {xs : List S36} (HS : Kd.S k36 36 W base ok (.slice (some ⟨g, 0, none⟩) n cap) xs) (i : Int) (h0 : 0 ≤ i) (h1 : i < n) :
    ∃ (v : Value) (oki : Nat → Prop), W.cell? ⟨g, i.toNat * 7 + 6, none⟩ = some v ∧ (∀ k, oki k → ok k ∧ k ≠ g) ∧ g < W.heap.size ∧ ok g ∧ Kd.R (Kd.int .i64) 2 W base oki v (rd_T36 xs i).f6 ∧
      (∀ j, W.frozen? ⟨g, i.toNat * 7 + j, none⟩ = false) ∧
      ∀ (W1 : World) (v1 : Value) (r : List Int), W.grownBy W1 v.ownBlock → Kd.R (Kd.int .i64) 2 W1 base (fun k => oki k ∨ (ok k ∧ k ≠ g) ∧ W.heap.size ≤ k) v1 r →
        Kd.S k36 36 (W1.setCells g (i.toNat * 7 + 6) [v1]) base ok (.slice (some ⟨g, 0, none⟩) n cap) (xs.set i.toNat (⟨(rd_T36 xs i).f0, (rd_T36 xs i).f1, (rd_T36 xs i).f2, (rd_T36 xs i).f3, (rd_T36 xs i).f4, (rd_T36 xs i).f5, r⟩ : S36)) := by
  have hlt := Kd.S_lt HS g (by simp [Value.ownBlock])
  have hokg := (Kd.S_R HS).1 g (by simp [Value.ownBlock])
  obtain ⟨oki, c, hcl, hM, hcc, hfr, hoki, hH⟩ := Kd.S_elem HS z36 i h0 h1
  obtain ⟨v6, rfl, ge⟩ := k36_openM hM
  refine ⟨v6, oki, hcc 6 _ rfl, hoki, hlt, hokg, ge, hfr, fun W1 v1 r hg hr => ?_⟩
  have hH1 := Kd.H_grown (Kd.H_widen hH) hg (fun k hk => .inl (ge.1 k hk))
  have hM1 := k36_mkM W1 base (fun k => oki k ∨ (ok k ∧ k ≠ g) ∧ W.heap.size ≤ k) (⟨(rd_T36 xs i).f0, (rd_T36 xs i).f1, (rd_T36 xs i).f2, (rd_T36 xs i).f3, (rd_T36 xs i).f4, (rd_T36 xs i).f5, r⟩ : S36) hr
  exact (Kd.S_seg (okg := fun _ => False) (okp := fun k => oki k ∨ (ok k ∧ k ≠ g) ∧ W.heap.size ≤ k) (seg := [v1]) (j := 6) (Kd.H_mono hH1 (fun k hk => ⟨hk, id⟩)) h0 h1 (show 7 ≤ 7 from by decide) hM1 (fun k hk => .inl (hk.imp id (fun h => ⟨h.1.1, h.2⟩))) (fun _ h => h.elim)).1
/-! ### a copy of a list (append to an empty one) -/
def list_copy.f (l0 : List S36) : Option (List S36) := if l0.length < 1954687338268 then some l0 else none

/-! ### append of two lists -/
def list_app.f (l0 : List Int) (l1 : List Int) : Option (List Int) := if l0.length + l1.length < 17592186044416 then some (l0 ++ l1) else none

/-! ### laws_lwBig: function 5 -/
def laws_lwBig.f (l0 : List Int) : Option (Bool) := some (decide ((l0.length : Int) > 1048576))
theorem laws_lwBig.calls (A0 : Option Addr) (c0 : Nat) (l0 : List Int) (r : Bool) (w : World) (hr0 : Kd.C (Kd.int .u8) w A0 l0.length l0) (hc0 : l0.length ≤ c0) (h : laws_lwBig.f l0 = some r) :
  Calls Tryz.prog 5 #[.slice A0 l0.length c0] w fun e w' => e = .returned (.bool r) ∧ Drawn0 w w' := by
 have HR0 := Aside0.mk hr0
 have HC0 := Aside0.mk hc0
 clear hr0 hc0
 have H : (some (decide ((l0.length : Int) > 1048576))) = some r := h
 clear h
 obtain rfl := Option.some.inj H
 go_enter Tryz.func5, Tryz.ntmps5
 go_wp2
 go_ret
 exact ⟨cs_, cD_⟩

/-! ### spec_l1In: function 35 -/
def spec_l1In.f (a0 : Int) (a1 : Int) (a2 : Int) : Option (Bool) := if a0 ≥ a1 then (some (decide (a0 ≤ a2))) else (some false)
theorem spec_l1In.calls (a0 : Int) (a1 : Int) (a2 : Int) (r : Bool) (w : World) (h : spec_l1In.f a0 a1 a2 = some r) :
  Calls Tryz.prog 35 #[.int .i64 a0, .int .i64 a1, .int .i64 a2] w fun e w' => e = .returned (.bool r) ∧ Drawn0 w w' := by
 have H : (if a0 ≥ a1 then (some (decide (a0 ≤ a2))) else (some false)) = some r := h
 clear h
 by_cases c4 : a0 ≥ a1
 ·rw [if_pos c4] at H
  have c4b0 : decide (a1 ≤ a0) = true := decide_eq_true c4
  clear c4
  obtain rfl := Option.some.inj H
  go_enter Tryz.func35, Tryz.ntmps35
  go_wp2
  go_ret
  exact ⟨cs_, cD_⟩
 ·rw [if_neg c4] at H
  have c4b0 : decide (a1 ≤ a0) = false := decide_eq_false c4
  clear c4
  obtain rfl := Option.some.inj H
  go_enter Tryz.func35, Tryz.ntmps35
  go_wp2
  go_ret
  exact ⟨cs_, cD_⟩

/-! ### spec_l3Reads: function 37 -/
def spec_l3Reads.f (a0 : Int) : Option (Int) := if a0 = 1 then (some 0) else (if a0 = 4 then (some 2) else (if a0 = 6 then (some 2) else (some 1)))
theorem spec_l3Reads.calls (a0 : Int) (r : Int) (w : World) (h : spec_l3Reads.f a0 = some r) :
  Calls Tryz.prog 37 #[.int .i64 a0] w fun e w' => e = .returned (.int .i64 r) ∧ Drawn0 w w' := by
 have H : (if a0 = 1 then (some 0) else (if a0 = 4 then (some 2) else (if a0 = 6 then (some 2) else (some 1)))) = some r := h
 clear h
 by_cases c2 : a0 = 1
 ·rw [if_pos c2] at H
  have c2b0 : (a0 == 1) = true := beq_iff_eq.mpr c2
  have c2b1 : (a0 != 1) = false := bne_eq_false_iff_eq.mpr c2
  clear c2
  obtain rfl := Option.some.inj H
  go_enter Tryz.func37, Tryz.ntmps37
  go_wp2
  go_ret
  exact ⟨cs_, cD_⟩
 ·rw [if_neg c2] at H
  have c2b0 : (a0 == 1) = false := beq_eq_false_iff_ne.mpr c2
  have c2b1 : (a0 != 1) = true := bne_iff_ne.mpr c2
  by_cases c3 : a0 = 4
  ·rw [if_pos c3] at H
   have c3b0 : (a0 == 4) = true := beq_iff_eq.mpr c3
   have c3b1 : (a0 != 4) = false := bne_eq_false_iff_eq.mpr c3
   clear c3
   obtain rfl := Option.some.inj H
   go_enter Tryz.func37, Tryz.ntmps37
   go_wp2
   go_ret
   exact ⟨cs_, cD_⟩
  ·rw [if_neg c3] at H
   have c3b0 : (a0 == 4) = false := beq_eq_false_iff_ne.mpr c3
   have c3b1 : (a0 != 4) = true := bne_iff_ne.mpr c3
   by_cases c4 : a0 = 6
   ·rw [if_pos c4] at H
    have c4b0 : (a0 == 6) = true := beq_iff_eq.mpr c4
    have c4b1 : (a0 != 6) = false := bne_eq_false_iff_eq.mpr c4
    clear c4
    obtain rfl := Option.some.inj H
    go_enter Tryz.func37, Tryz.ntmps37
    go_wp2
    go_ret
    exact ⟨cs_, cD_⟩
   ·rw [if_neg c4] at H
    have c4b0 : (a0 == 6) = false := beq_eq_false_iff_ne.mpr c4
    have c4b1 : (a0 != 6) = true := bne_iff_ne.mpr c4
    obtain rfl := Option.some.inj H
    go_enter Tryz.func37, Tryz.ntmps37
    go_wp2
    go_ret
    exact ⟨cs_, cD_⟩

end Go.Proofs.YteibdjkfkcckkaaGreatDoor.PFnPlans
