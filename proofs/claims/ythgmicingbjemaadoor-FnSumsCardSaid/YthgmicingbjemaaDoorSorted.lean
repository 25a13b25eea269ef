/- slices.SortStableFunc and slices.Clone over entries, by byRow: a permutation in the order of the rows; the rows themselves are left as they are. -/
import Derived.Test.YthgmicingbjemaaDoorCmp
import Derived.Test.YthgmicingbjemaaDoorWFoot
set_option linter.unusedVariables false
namespace Go.Proofs.YthgmicingbjemaaDoor.Sorted
open Go.RowKit Go.Sort Go.Shelf Go.Lib Go.Proofs.YthgmicingbjemaaDoorW.PrintWords Go.Proofs.YthgmicingbjemaaDoorW.PrintLast Go.Proofs.YthgmicingbjemaaDoor.Sum Go.Proofs.YthgmicingbjemaaDoor.Cmp Go.Proofs.YthgmicingbjemaaDoor.Sort

/-- An entry as it lies: its row's slice, and its weight. -/
structure El where
  A : Option Addr
  c : Nat
  l : List Int
  x : Int
instance : Inhabited El := ⟨⟨none, 0, [], 0⟩⟩
def encE (e : El) : List Value := [.slice e.A e.l.length e.c, .int .i64 e.x]
/-- Its row lies apart from block g. -/
def Good (w : World) (g N : Nat) (e : El) : Prop := Kd.F (Kd.int .i64) w (fun k => k ≠ g ∧ k < N) e.A e.l.length e.l ∧ e.l.length ≤ e.c
abbrev Sub (w : World) (g N : Nat) := { e : El // Good w g N e }
instance (w : World) (g N : Nat) : Inhabited (Sub w g N) := ⟨⟨⟨none, 0, [], 0⟩, Kd.F_nil _ _ _, Nat.le_refl _⟩⟩
def encS {w : World} {g N : Nat} (e : Sub w g N) : List Value := encE e.1
def cfS {w : World} {g N : Nat} (x y : Sub w g N) : Int := cmpR x.1.l y.1.l
theorem sw_other {α : Type} [Inhabited α] (enc : α → List Value) (k : Nat) (w : World) (g off m : Nat) (dk : Array α) (os : Array Obj) {j : Nat} (hj : j < w.heap.size) (hne : j ≠ g) : (sortWorldK enc k w g off m dk os).heap[j]? = w.heap[j]? := by
  unfold sortWorldK putRowK putRow mapBlock grow Sort.ahead
  show ((w.heap.modify g _) ++ os)[j]? = _
  rw [Array.getElem?_append_left (by rw [Array.size_modify]; exact hj), Array.getElem?_modify, if_neg (Ne.symm hne)]
theorem cmpLays (w : World) (g N off size : Nat) : CmpLays Tryd.prog 35 #[] (encS (w := w) (g := g) (N := N)) 2 cfS g off size w := by
  intro m os dk _ x y
  have hx := (Kd.F_step x.2.1 (W1 := sortWorldK encS 2 w g off m dk os) (fun k hk hlt => sw_other encS 2 w g off m dk os hlt hk.1))
  have hy := (Kd.F_step y.2.1 (W1 := sortWorldK encS 2 w g off m dk os) (fun k hk hlt => sw_other encS 2 w g off m dk os hlt hk.1))
  exact byRow x.1.A x.1.c x.1.l x.1.x y.1.A y.1.c y.1.l y.1.x _ (Kd.F_now hx) x.2.2 (Kd.F_now hy) y.2.2
theorem cmpR_le_trans {a b c : List Int} (h1 : ¬ cmpR a b < 0) (h2 : ¬ cmpR b c < 0) : ¬ cmpR a c < 0 := by
  intro h
  by_cases e : cmpR b c = 0
  · rw [← cmpR_eq e] at h; exact h1 h
  · exact h1 (cmpR_trans h (cmpR_pos h2 e))
theorem swo (w : World) (g N : Nat) : SWO (ltOf (cfS (w := w) (g := g) (N := N))) where
  irrefl x := by show decide (cmpR x.1.l x.1.l < 0) = false; rw [cmpR_self]; rfl
  trans x y z h1 h2 := decide_eq_true (cmpR_trans (of_decide_eq_true h1) (of_decide_eq_true h2))
  ntrans x y z h1 h2 := decide_eq_false (cmpR_le_trans (of_decide_eq_false h1) (of_decide_eq_false h2))
theorem laid : Laid Tryd.prog where
  ins := {
    mixed := by kernel_rfl
    f20 := ⟨ "slices.insertionSortCmpFunc[loop.example/g00160/impl.Entry]", by decide, by kernel_rfl⟩
    t0 := Tryd.underlying0, a0 := Tryd.isAgg0, z0 := Tryd.sizeOf0, v0 := Tryd.zeroValue0
    t3 := Tryd.underlying3, a3 := Tryd.isAgg3, z3 := Tryd.sizeOf3, v3 := Tryd.zeroValue3
    t4 := Tryd.underlying4, a4 := Tryd.isAgg4, z4 := Tryd.sizeOf4, v4 := Tryd.zeroValue4
    t22 := Tryd.underlying24, a22 := Tryd.isAgg24, z22 := Tryd.sizeOf24, v22 := Tryd.zeroValue24
    t25 := Tryd.underlying63, a25 := Tryd.isAgg63, z25 := Tryd.sizeOf63, v25 := Tryd.zeroValue63 }
  mixed := by kernel_rfl
  t0 := Tryd.underlying0
  a0 := Tryd.isAgg0
  z0 := Tryd.sizeOf0
  v0 := Tryd.zeroValue0
  t3 := Tryd.underlying3
  a3 := Tryd.isAgg3
  z3 := Tryd.sizeOf3
  v3 := Tryd.zeroValue3
  t4 := Tryd.underlying4
  a4 := Tryd.isAgg4
  z4 := Tryd.sizeOf4
  v4 := Tryd.zeroValue4
  t22 := Tryd.underlying24
  a22 := Tryd.isAgg24
  z22 := Tryd.sizeOf24
  v22 := Tryd.zeroValue24
  t25 := Tryd.underlying63
  a25 := Tryd.isAgg63
  z25 := Tryd.sizeOf63
  v25 := Tryd.zeroValue63
  t39 := Tryd.underlying102
  a39 := Tryd.isAgg102
  z39 := Tryd.sizeOf102
  v39 := Tryd.zeroValue102
  f22 := Tryd.func64
  f24 := Tryd.func71
  f25 := Tryd.func77
  f17 := Tryd.func54
  e21 := enters_of Tryd.func63 (by kernel_rfl) rfl
  e22 := enters_of Tryd.func64 (by kernel_rfl) rfl
  e24 := enters_of Tryd.func71 (by kernel_rfl) rfl
  e25 := enters_of Tryd.func77 (by kernel_rfl) rfl
  e17 := enters_of Tryd.func54 (by kernel_rfl) rfl
set_option maxHeartbeats 4000000 in
set_option maxRecDepth 100000 in
/-- slices.SortStableFunc over a row that is there. -/
theorem sortStable (w : World) (g N cap : Nat) (d : Array (Sub w g N)) (hH : HoldsK encS 2 w g 0 d) (hg : g < w.heap.size) (hsz : d.size < 1152921504606846976) :
    Calls Tryd.prog 34 #[.slice (some ⟨g, 0, none⟩) d.size cap, .func (.func 35) #[] #[]] w fun e w' => e = .returned (.tuple #[]) ∧ ∃ d', PermIn 0 d.size d d' ∧ SortedIn (ltOf cfS) 0 d.size d' ∧ SWK encS 2 w g 0 d' w' := by
  have hcall := stable laid 2 Tryd.isAgg31 Tryd.sizeOf31 encS cfS (swo w g N) 35 #[] g 0 cap d w (enters_of Tryd.func35 (by kernel_rfl) rfl) (cmpLays w g N 0 d.size)
    ⟨fun _ => rfl, fun x v hv => by simp [encS, encE] at hv; rcases hv with rfl | rfl <;> rfl, hH, hg⟩ hsz
  go_enter Tryd.func34, Tryd.ntmps34
  go_wp2_with (first | (go_at_call 54; refine hcall.mono ?_; rintro e w1 ⟨rfl, d1, h1, h2, h3⟩))
  go_end0
  exact ⟨rfl, d1, h1, h2, h3⟩
set_option maxHeartbeats 4000000 in
set_option maxRecDepth 100000 in
theorem insNone (f : Value) (w : World) : Calls Tryd.prog 63 #[.slice none 0 0, .int .i64 0, .int .i64 0, f] w fun e w' => e = .returned (.tuple #[]) ∧ w' = w := by
  go_enter Tryd.func63, Tryd.ntmps63
  go_wp2
  go_loopg [8] 0 (fun kx s8 wr => s8 = .int .i64 1 ∧ wr = w)
  case atStart => exact ⟨by first | rfl | simp, rfl⟩
  case round =>
    obtain ⟨rfl, rfl⟩ := hrel
    go_wp2
    go_end0
    exact ⟨rfl, rfl⟩
set_option maxHeartbeats 4000000 in
set_option maxRecDepth 100000 in
theorem stableNone (f : Value) (w : World) : Calls Tryd.prog 54 #[.slice none 0 0, .int .i64 0, f] w fun e w' => e = .returned (.tuple #[]) ∧ w' = w := by
  go_enter Tryd.func54, Tryd.ntmps54
  go_wp2
  go_loopg [7, 8] 0 (fun kx s7 s8 wr => s7 = .int .i64 0 ∧ s8 = .int .i64 20 ∧ wr = w)
  case atStart => exact ⟨rfl, rfl, rfl⟩
  case round =>
    obtain ⟨rfl, rfl, rfl⟩ := hrel
    go_wp2_with (first | (go_at_call 63; refine (insNone f wr).mono ?_; rintro e w1 ⟨rfl, rfl⟩))
    go_loopg [6] 0 (fun kx s6 wr => s6 = .int .i64 20 ∧ wr = w1)
    case atStart => exact ⟨rfl, rfl⟩
    case round =>
      obtain ⟨rfl, rfl⟩ := hrel
      go_wp2
      go_end0
      exact ⟨rfl, rfl⟩
set_option maxHeartbeats 4000000 in
set_option maxRecDepth 100000 in
theorem sortNone (f : Value) (w : World) : Calls Tryd.prog 34 #[.slice none 0 0, f] w fun e w' => e = .returned (.tuple #[]) ∧ w' = w := by
  go_enter Tryd.func34, Tryd.ntmps34
  go_wp2_with (first | (go_at_call 54; refine (stableNone f w).mono ?_; rintro e w1 ⟨rfl, rfl⟩))
  go_end0
  exact ⟨rfl, rfl⟩

/-! Cells and entries. -/
abbrev kP : Kd En := Kd.pair (Kd.slice 2 (Kd.int .i64)) (Kd.int .i64)
theorem C_iso {α : Type} {f : α → En} {w : World} {A : Option Addr} {n : Nat} {xs : List α} (h : Kd.C (Kd.iso kP f) w A n xs) : Kd.C kP w A n (xs.map f) := by
  refine ⟨by rw [List.length_map]; exact h.1, h.2.1, fun hn => ?_⟩
  obtain ⟨ad, e, hc⟩ := h.2.2 hn
  refine ⟨ad, e, fun j p hj => ?_⟩
  rw [List.getElem?_map] at hj
  obtain ⟨x, hx, rfl⟩ := Option.map_eq_some_iff.1 hj
  exact hc j x hx
theorem C_of_iso {α : Type} {f : α → En} {w : World} {A : Option Addr} {n : Nat} {xs : List α} (h : Kd.C kP w A n (xs.map f)) : Kd.C (Kd.iso kP f) w A n xs := by
  refine ⟨by rw [← List.length_map (f := f)]; exact h.1, h.2.1, fun hn => ?_⟩
  obtain ⟨ad, e, hc⟩ := h.2.2 hn
  refine ⟨ad, e, fun j p hj => ?_⟩
  exact hc j (f p) (by rw [List.getElem?_map, hj]; rfl)
theorem choose_list {α β : Type} [Inhabited β] {P : α → β → Prop} : ∀ {ps : List α}, (∀ p ∈ ps, ∃ e, P p e) → ∃ es : List β, es.length = ps.length ∧ ∀ (j : Nat) (p : α) (e : β), ps[j]? = some p → es[j]? = some e → P p e
  | [], _ => ⟨[], rfl, fun j p e h => by simp at h⟩
  | p :: ps, h => by
    obtain ⟨e, he⟩ := h p (List.mem_cons_self ..)
    obtain ⟨es, hl, hs⟩ := choose_list (fun q hq => h q (List.mem_cons_of_mem _ hq))
    refine ⟨e :: es, by simp [hl], fun j q f h1 h2 => ?_⟩
    cases j with
    | zero =>
      rw [List.getElem?_cons_zero] at h1 h2
      cases h1; cases h2; exact he
    | succ j => exact hs j q f (by simpa using h1) (by simpa using h2)
theorem els_of_C {w : World} {A : Option Addr} {n : Nat} {ps : List En} (h : Kd.C kP w A n ps) :
    ∃ els : List El, els.map (fun e => (e.l, e.x)) = ps ∧ (∀ e ∈ els, Kd.C (Kd.int .i64) w e.A e.l.length e.l ∧ e.l.length ≤ e.c) ∧ Kd.C (Kd.raw 2) w A n (els.map encE) := by
  rcases Nat.eq_zero_or_pos n with h0 | hn
  · subst h0
    obtain rfl : ps = [] := List.eq_nil_of_length_eq_zero h.1
    exact ⟨[], rfl, (fun e he => by cases he), rfl, by omega, fun h => by omega⟩
  · obtain ⟨ad, hA, hc⟩ := h.2.2 hn
    obtain ⟨js, hjl, hjs⟩ := choose_list (α := Nat) (β := El) (ps := List.range ps.length) (P := fun j e => ∀ p, ps[j]? = some p → (e.l, e.x) = p ∧ (Kd.C (Kd.int .i64) w e.A e.l.length e.l ∧ e.l.length ≤ e.c) ∧ ∀ i u, (encE e)[i]? = some u → w.cell? (ad.add (j * 2 + i)) = some u) (fun j hj => by
      have hj := List.mem_range.1 hj
      obtain ⟨c, hs, hr, hcell⟩ := hc j _ (List.getElem?_eq_getElem hj)
      obtain ⟨_, _, rfl, ⟨A0, c0, rfl, l0, g0⟩, rfl⟩ := hr
      refine ⟨⟨A0, c0, ps[j].1, ps[j].2⟩, fun p hp => ?_⟩
      rw [List.getElem?_eq_getElem hj] at hp
      cases hp
      exact ⟨rfl, ⟨g0, l0⟩, hcell⟩)
    rw [List.length_range] at hjl
    have key : ∀ (j : Nat) (p : En) (e : El), ps[j]? = some p → js[j]? = some e → (e.l, e.x) = p ∧ (Kd.C (Kd.int .i64) w e.A e.l.length e.l ∧ e.l.length ≤ e.c) ∧ ∀ i u, (encE e)[i]? = some u → w.cell? (ad.add (j * 2 + i)) = some u := by
      intro j p e hp he
      have hlt : j < ps.length := (List.getElem?_eq_some_iff.1 hp).1
      exact hjs j j e (by rw [List.getElem?_range hlt]) he p hp
    have kget : ∀ (j : Nat) (e : El), js[j]? = some e → ∃ p, ps[j]? = some p := fun j e he => by
      have hlt : j < js.length := (List.getElem?_eq_some_iff.1 he).1
      exact ⟨_, List.getElem?_eq_getElem (by omega)⟩
    refine ⟨js, ?_, ?_, ?_⟩
    · apply List.ext_getElem?
      intro j
      rw [List.getElem?_map]
      rcases Nat.lt_or_ge j js.length with hj | hj
      · obtain ⟨p, hp⟩ := kget j _ (List.getElem?_eq_getElem hj)
        rw [List.getElem?_eq_getElem hj, hp]
        exact congrArg some (key j p _ hp (List.getElem?_eq_getElem hj)).1
      · rw [List.getElem?_eq_none hj, List.getElem?_eq_none (by omega)]; rfl
    · intro e he
      obtain ⟨j, hj⟩ := List.mem_iff_getElem?.1 he
      obtain ⟨p, hp⟩ := kget j e hj
      exact (key j p e hp hj).2.1
    · refine ⟨by rw [List.length_map, hjl]; exact h.1, h.2.1, fun _ => ⟨ad, hA, fun j c hj => ?_⟩⟩
      rw [List.getElem?_map] at hj
      obtain ⟨e, he, rfl⟩ := Option.map_eq_some_iff.1 hj
      obtain ⟨p, hp⟩ := kget j e he
      exact ⟨encE e, rfl, ⟨rfl, rfl, fun u hu => by simp [encE] at hu; rcases hu with rfl | rfl <;> rfl⟩, (key j p e hp he).2.2⟩

set_option maxHeartbeats 8000000 in
set_option maxRecDepth 100000 in
/-- slices.Clone over entries: the same cells in a row of the call's own. -/
theorem cloneSome (ad : Addr) (cap : Nat) (zs : List (List Value)) (w : World) (hr0 : Kd.C (Kd.raw 2) w (some ad) zs.length zs) (hl : zs.length < 4398046511104) :
    Calls Tryd.prog 33 #[.slice (some ad) zs.length cap] w fun e w' => ∃ v : Value, e = .returned v ∧ Kd.R (Kd.raw 2) 31 w' w.heap.size (fun _ => True) v zs ∧ (∃ g, v.ownBlock = some g) ∧ Below w.heap.size w w' := by
  have hq_ : ∀ (w : World) (a : Option Addr) (n c n' c' : Nat), (binOp .eql 24 (.slice a n c) (.slice none n' c')).run Tryd.prog w = .ok (.bool a.isNone) w := by
    intro w a n c n' c'
    have h1 : ∀ d : Nat, (Op.equalIn (d + 1) 24 (.slice a n c) (.slice none n' c')).run Tryd.prog w = .ok a.isNone w := by
      intro d
      cases a <;> simp [Op.equalIn, run_underlying Tryd.underlying24]
    simp only [binOp]
    simp [Op.equal, Op.maxDepth, h1 9999]
  have info_ : (Tryd.prog.info? 31).map (fun i => (i.zero, i.size, i.bytes)) = some (some (.agg #[.slice none 0 0, .int .i64 0]), (Kd.raw 2).sz, 32) := by kernel_rfl
  have HR0 := Aside0.mk hr0
  have HL_ := Aside0.mk hl
  clear hr0 hl
  have HB := Aside0.mk (Below.refl w.heap.size w)
  go_enter Tryd.func33, Tryd.ntmps33
  go_wp2_with (first | ((with_reducible refine gate_dst (N := 5) rfl ?_); refine Kd.R_lit (Kd.raw 2) _ 31 ?hg (N := 5) ?hd (xs := ([] : List (List Value))) (inner := []) (ok := fun _ => True) (okp := fun _ => True) ?hr ?hp (fun _ hk => hk) trivial (Below.refl _ _) (Nat.le_refl _) (by simp) ?_; (case hd => rfl); (case hg => rfl); (case hr => first | (go_simp; done) | (go_simp; rfl)); (case hp => exact (Reps.none _ _)); intro v161 w3 ho4 hb hg_ hnew_; have HNEW := Aside0.mk hnew_; clear hg_ hnew_; have n0_ := Aside0.mk (Kd.R_lower ho4 (below_size HB.out)); have n1_ := Aside0.mk (below_step HB.out hb); clear HB; have HO162 := n0_; have HB := n1_; clear n0_ n1_; clear hb ho4) | ((with_reducible refine gate_builtin (b := .append) (xs := #[.tmp 5, .tmp 6]) rfl ?_); at_builtin; refine Kd.R_append_rows (Kd.raw 2) (w0 := w) w.heap.size rfl (.tmp 5) (.tmp 6) 24 31 (.agg #[.slice none 0 0, .int .i64 0]) 32 rfl Tryd.underlying24 info_ rfl (by decide) (by omega) v161 ([] : List (List Value)) zs _ _ _ (fun _ => True) (fun _ => False) rfl rfl ?aO ?aR (fun _ _ h => h) (fun _ h => h.elim) ?aF ?aB ?aS ?aL ?_; (case aR => exact (Kd.C_below HR0.out HB.out)); (case aB => exact HB.out); (case aF => exact (fun _ _ => trivial)); (case aO => exact HO162.out); (case aS => exact (below_size HB.out)); (case aL => have := HL_.out; simp only [List.length_nil]; omega); intro v164 w5 ho hb hg hat; rw [List.nil_append] at ho; have HAT := Aside0.mk hat; have n0_ := Aside0.mk (hb); have n1_ := Aside0.mk (ho); clear HB; clear HO162; have HB := n0_; have HO165 := n1_; clear n0_ n1_; clear ho hb hg hat))
  go_ret
  refine ⟨_, rfl, HO165.out, ?_, HB.out⟩
  rcases HAT.out with h | ⟨b, h, _⟩
  · obtain ⟨b, hb, _⟩ := HNEW.out
    exact ⟨b, h.trans hb⟩
  · exact ⟨b, h⟩
set_option maxHeartbeats 4000000 in
set_option maxRecDepth 100000 in
theorem cloneNone (cap : Nat) (w : World) : Calls Tryd.prog 33 #[.slice none 0 cap] w fun e w' => e = .returned (.slice none 0 0) ∧ Below w.heap.size w w' := by
  have hq_ : ∀ (w : World) (a : Option Addr) (n c n' c' : Nat), (binOp .eql 24 (.slice a n c) (.slice none n' c')).run Tryd.prog w = .ok (.bool a.isNone) w := by
    intro w a n c n' c'
    have h1 : ∀ d : Nat, (Op.equalIn (d + 1) 24 (.slice a n c) (.slice none n' c')).run Tryd.prog w = .ok a.isNone w := by
      intro d
      cases a <;> simp [Op.equalIn, run_underlying Tryd.underlying24]
    simp only [binOp]
    simp [Op.equal, Op.maxDepth, h1 9999]
  go_enter Tryd.func33, Tryd.ntmps33
  go_wp2
  go_ret
  exact ⟨rfl, Below.refl _ _⟩
/-- A row of the call's own, as the sort wants it. -/
theorem holds_of_R {w : World} {base g N n cap : Nat} {ok : Nat → Prop} {d : Array (Sub w g N)} (h : Kd.R (Kd.raw 2) 31 w base ok (.slice (some ⟨g, 0, none⟩) n cap) (d.toList.map encS)) : HoldsK encS 2 w g 0 d ∧ n = d.size := by
  obtain ⟨_, inner, ho, hr⟩ := h
  have hlen : (d.toList.map encS).length = d.size := by simp
  rw [hlen] at ho
  obtain ⟨hl, hv⟩ := ho
  rcases hv with ⟨hv, _⟩ | ⟨g', cap', cur, hv, _, hb, _, _, _, htake⟩
  · cases hv
  · injection hv with h1 h2 h3
    injection h1 with h1
    injection h1 with h1
    subst h1; subst h3
    have htake : cur.toList.take (d.size * 2) = inner := htake
    refine ⟨fun t ht => ?_, h2⟩
    rw [size_flatK] at ht
    have hcell : ∀ t, t < d.size * 2 → w.cell? ⟨g, 0 + t, none⟩ = inner[t]? := fun t ht => by
      rw [blk_cell hb, Nat.zero_add, ← htake, List.getElem?_take, if_pos ht, Array.getElem?_toList]
    refine ⟨?_, blk_frozen hb _⟩
    rw [hcell t ht, get_flatK _ _ _ _ ht]
    have hq : t / 2 < d.size := by omega
    have := hr.2 (t / 2) (encS d[t / 2]!) (by rw [List.getElem?_map, Array.getElem?_toList, Array.getElem?_eq_getElem hq, getElem!_pos d _ hq]; rfl)
    have hcs : (inner.drop (t / 2 * 2)).take 2 = encS d[t / 2]! := this.1
    have e1 : inner[t]? = ((inner.drop (t / 2 * 2)).take 2)[t % 2]? := by
      rw [List.getElem?_take, if_pos (Nat.mod_lt _ (by omega)), List.getElem?_drop]
      congr 1
      omega
    rw [e1, hcs]
    show (encE d[t / 2]!.1)[t % 2]? = some (encE d[t / 2]!.1)[t % 2]!
    have hm : t % 2 < (encE d[t / 2]!.1).length := Nat.mod_lt _ (by decide)
    rw [List.getElem?_eq_getElem hm, getElem!_pos (encE d[t / 2]!.1) (t % 2) hm]
/-- .. and as it reads behind the sort. -/
theorem C_of_holds {w W : World} {g N : Nat} {d : Array (Sub w g N)} (hH : HoldsK encS 2 W g 0 d) (hW : ∀ k, k < w.heap.size → k ≠ g → k < N → W.heap[k]? = w.heap[k]?) (hn : d.size ≤ 9223372036854775807) : Kd.C kP W (some ⟨g, 0, none⟩) d.size (d.toList.map fun e => (e.1.l, e.1.x)) := by
  refine ⟨by simp, hn, fun _ => ⟨_, rfl, fun j p hj => ?_⟩⟩
  rw [List.getElem?_map] at hj
  obtain ⟨e, he, rfl⟩ := Option.map_eq_some_iff.1 hj
  have hlt : j < d.size := by simpa using (List.getElem?_eq_some_iff.1 he).1
  have hde : d[j]! = e := by
    rw [getElem!_pos d j hlt]
    rw [Array.getElem?_toList, Array.getElem?_eq_getElem hlt] at he
    exact Option.some.inj he
  have hF := Kd.F_step e.2.1 (W1 := W) (fun k hk hlt2 => hW k hlt2 hk.1 hk.2)
  refine ⟨encS e, rfl, ⟨[.slice e.1.A e.1.l.length e.1.c], [.int .i64 e.1.x], rfl, ⟨e.1.A, e.1.c, rfl, e.2.2, Kd.F_now hF⟩, rfl⟩, fun i u hu => ?_⟩
  have hi : i < 2 := (List.getElem?_eq_some_iff.1 hu).1
  have hc := (HoldsK.cell hH hlt hi).1
  rw [hde] at hc
  have e2 : (encS e)[i]! = u := by
    obtain ⟨h1, h2⟩ := List.getElem?_eq_some_iff.1 hu
    rw [getElem!_pos (encS e) i h1]; exact h2
  rw [e2] at hc
  rw [Addr.add_lit, ← Nat.add_assoc]
  exact hc
theorem swk_frame {w W : World} {g N : Nat} {d : Array (Sub w g N)} (h : SWK encS 2 w g 0 d W) : (∀ k, k < w.heap.size → k ≠ g → W.heap[k]? = w.heap[k]?) ∧ w.heap.size ≤ W.heap.size ∧ W.os = w.os ∧ W.tape = w.tape ∧ W.output = w.output := by
  obtain ⟨n, os, rfl⟩ := h
  exact ⟨fun k h1 h2 => sw_other _ _ _ _ _ _ _ _ h1 h2, size_sortWorldK_c _ _ _ _ _ _ _ _, rfl, rfl, rfl⟩
theorem permIn_list {α : Type} [Inhabited α] {d d' : Array α} (h : PermIn 0 d.size d d') : d'.toList.Perm d.toList := by
  have h2 := h.2.2
  have e1 : d.extract 0 d.size = d := by simp
  have e2 : d'.extract 0 d.size = d' := by rw [← h.1]; simp
  rw [e1, e2] at h2
  exact h2
/-- What Clone leaves: nothing (of nil), or the same cells in a row of the call's own. -/
structure Cloned (w0 w : World) (ps : List En) (v : Value) : Prop where
  below : Below w0.heap.size w0 w
  row : (v = .slice none 0 0 ∧ ps = []) ∨ ∃ els : List El, els.map (fun e => (e.l, e.x)) = ps ∧ (∀ e ∈ els, Kd.C (Kd.int .i64) w0 e.A e.l.length e.l ∧ e.l.length ≤ e.c) ∧ Kd.R (Kd.raw 2) 31 w w0.heap.size (fun _ => True) v (els.map encE) ∧ (∃ g, v.ownBlock = some g) ∧ els.length < 4398046511104
theorem cloneAny (A : Option Addr) (c : Nat) (ps : List En) (w : World) (hC : Kd.C kP w A ps.length ps) (hl : ps.length < 4398046511104) :
    Calls Tryd.prog 33 #[.slice A ps.length c] w fun e w' => ∃ v : Value, e = .returned v ∧ Cloned w w' ps v := by
  cases A with
  | none =>
    have h0 : ps = [] := by
      by_cases hp : 0 < ps.length
      · obtain ⟨ad, h1, _⟩ := hC.2.2 hp
        cases h1
      · exact List.eq_nil_of_length_eq_zero (by omega)
    subst h0
    refine (cloneNone c w).mono ?_
    rintro e w' ⟨rfl, hb⟩
    exact ⟨_, rfl, hb, .inl ⟨rfl, rfl⟩⟩
  | some ad =>
    obtain ⟨els, he, hg, hr⟩ := els_of_C hC
    have hlen : ps.length = (els.map encE).length := by rw [← he, List.length_map, List.length_map]
    have hll : els.length = ps.length := by rw [← he, List.length_map]
    rw [hlen] at hr ⊢
    refine (cloneSome ad c (els.map encE) w hr (by rw [← hlen]; exact hl)).mono ?_
    rintro e w' ⟨v, rfl, h1, h2, hb⟩
    exact ⟨v, rfl, hb, .inr ⟨els, he, hg, h1, h2, by omega⟩⟩
/-- The world cut off behind its first N blocks. -/
def cut (W : World) (N : Nat) : World := { W with heap := W.heap.extract 0 N }
theorem cut_heap {W : World} {N k : Nat} (hk : k < N) : (cut W N).heap[k]? = W.heap[k]? := by
  show (W.heap.extract 0 N)[k]? = _
  rw [Array.getElem?_extract]
  by_cases h : k < W.heap.size
  · rw [if_pos (by omega), Nat.zero_add]
  · rw [if_neg (by omega), Array.getElem?_eq_none (by omega)]
theorem cut_size {W : World} {N : Nat} (h : N ≤ W.heap.size) : (cut W N).heap.size = N := by
  show (W.heap.extract 0 N).size = N
  rw [Array.size_extract]; omega
theorem cut_below {W : World} {N : Nat} (h : N ≤ W.heap.size) : Below (cut W N).heap.size (cut W N) W :=
  ⟨rfl, rfl, rfl, by rw [cut_size h]; exact h, fun k hk => by rw [cut_size h] at hk; exact (cut_heap hk).symm⟩
/-- Clone, then SortStableFunc: what the cloned row reads then. The world W1: W, but for what was made behind the clone. -/
structure AfterSort (w0 w1 w W W1 : World) (ps : List En) (v : Value) (qs : List En) : Prop where
  below0 : Below w0.heap.size w0 W1
  below1 : Below W1.heap.size W1 W
  size : W1.heap.size = w1.heap.size
  keep : w.heap.size ≤ W.heap.size ∧ ∀ k, w1.heap.size ≤ k → k < w.heap.size → W.heap[k]? = w.heap[k]?
  perm : qs.Perm ps
  rising : Rising qs
  reads : ∃ A c, v = .slice A qs.length c ∧ qs.length ≤ c ∧ Kd.C kP W1 A qs.length qs
theorem sortAny {w0 w1 w : World} {ps : List En} {v : Value} (hcl : Cloned w0 w1 ps v) (hb1 : Below w1.heap.size w1 w) :
    Calls Tryd.prog 34 #[v, .func (.func 35) #[] #[]] w fun e w' => e = .returned (.tuple #[]) ∧ ∃ W1 qs, AfterSort w0 w1 w w' W1 ps v qs := by
  have hsz0 := hcl.below.size
  have hsz1 := hb1.size
  rcases hcl.row with ⟨rfl, rfl⟩ | ⟨els, rfl, hgood, h, ⟨g, hg⟩, hl⟩
  · refine (sortNone _ w).mono ?_
    rintro e w' ⟨rfl, rfl⟩
    refine ⟨rfl, cut w' w1.heap.size, [], hcl.below.trans ⟨hb1.os, hb1.tape, hb1.output, by rw [cut_size hsz1]; exact Nat.le_refl _, fun k hk => (cut_heap (by omega)).trans (hb1.block k (by omega))⟩, cut_below hsz1, cut_size hsz1, ⟨Nat.le_refl _, fun _ _ _ => rfl⟩, List.Perm.refl _, fun i j x y _ hx => by simp at hx, none, 0, rfl, Nat.le_refl _, rfl, Nat.zero_le _, fun h => by simp at h⟩
  · have hgl1 := own_lt h.2.choose_spec.1 g hg
    have hgb := own_base h.2.choose_spec.1 g hg
    replace h := Kd.R_below h hb1
    have hgl := own_lt h.2.choose_spec.1 g hg
    obtain ⟨A, cap, rfl, hcap, _⟩ := Kd.R_reads h
    rw [List.length_map] at hcap
    obtain ⟨ad, rfl⟩ : ∃ ad, A = some ad := by
      cases A with
      | none => simp [Value.ownBlock] at hg
      | some ad => exact ⟨ad, rfl⟩
    obtain ⟨g', rfl⟩ := Kd.R_head h
    obtain rfl : g' = g := by simpa [Value.ownBlock] using hg
    have hb0 : Below w0.heap.size w0 w := hcl.below.trans (hb1.mono hsz0)
    have good : ∀ e ∈ els, Good w g' w1.heap.size e := fun e he => by
      obtain ⟨h1, h2⟩ := hgood e he
      exact ⟨Kd.F_mono (Kd.F_below (Kd.C_F (Kd.heap_int _) h1) hb0) (fun k hk => by omega), h2⟩
    obtain ⟨d, hd⟩ : ∃ d : Array (Sub w g' w1.heap.size), d.toList.map (fun e => e.1) = els := ⟨(els.attach.map fun e => (⟨e.1, good e.1 e.2⟩ : Sub w g' w1.heap.size)).toArray, by simp⟩
    have hde : d.toList.map encS = els.map encE := by
      rw [← hd, List.map_map]; rfl
    have hds : d.size = els.length := by
      rw [← hd, List.length_map]; simp
    rw [← hde] at h
    obtain ⟨hH, hn⟩ := holds_of_R h
    rw [← hde, hn]
    refine (sortStable w g' w1.heap.size cap d hH hgl (by omega)).mono ?_
    rintro e W ⟨rfl, d', hp, hs, hS⟩
    obtain ⟨f1, f2, f3, f4, f5⟩ := swk_frame hS
    have hsz : d'.size = d.size := hp.1
    have hNW : w1.heap.size ≤ W.heap.size := by omega
    have hHW := hS.holds hgl hH hsz
    have hHc : HoldsK encS 2 (cut W w1.heap.size) g' 0 d' := fun j hj => by
      have := hHW j hj
      rw [World.cell?_of_block (show (cut W w1.heap.size).heap[g']? = W.heap[g']? from cut_heap hgl1), World.frozen?_of_block (show (cut W w1.heap.size).heap[g']? = W.heap[g']? from cut_heap hgl1)]
      exact this
    have hC := C_of_holds hHc (fun k h1 h2 h3 => (cut_heap h3).trans (f1 k h1 h2)) (by omega)
    have hq : (d'.toList.map fun e => (e.1.l, e.1.x)).length = d'.size := by simp
    refine ⟨rfl, cut W w1.heap.size, d'.toList.map fun e => (e.1.l, e.1.x), ?_, cut_below hNW, cut_size hNW, ⟨f2, fun k h1 h2 => f1 k h2 (by omega)⟩, ?_, ?_, some ⟨g', 0, none⟩, cap, ?_, ?_, ?_⟩
    · exact hcl.below.trans ⟨f3.trans hb1.os, f4.trans hb1.tape, f5.trans hb1.output, by rw [cut_size hNW]; exact Nat.le_refl _, fun k hk => ((cut_heap (by omega)).trans (f1 k (by omega) (by omega))).trans (hb1.block k (by omega))⟩
    · rw [← hd, List.map_map]
      exact (permIn_list hp).map _
    · intro i j x y hij hx hy
      rw [List.getElem?_map] at hx hy
      obtain ⟨ex, hex, rfl⟩ := Option.map_eq_some_iff.1 hx
      obtain ⟨ey, hey, rfl⟩ := Option.map_eq_some_iff.1 hy
      rw [Array.getElem?_toList] at hex hey
      obtain ⟨hi, hex⟩ := Array.getElem?_eq_some_iff.1 hex
      obtain ⟨hj, hey⟩ := Array.getElem?_eq_some_iff.1 hey
      have := hs i j (Nat.zero_le _) hij (by omega)
      rw [getElem!_pos d' j hj, getElem!_pos d' i hi, hex, hey] at this
      exact of_decide_eq_false this
    · rw [hq, hsz]
    · rw [hq, hsz, hds]; exact hcap
    · rw [hq]; exact hC
end Go.Proofs.YthgmicingbjemaaDoor.Sorted
