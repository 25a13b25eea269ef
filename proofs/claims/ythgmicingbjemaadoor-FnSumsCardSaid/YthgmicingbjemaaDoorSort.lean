/- slices.SortStableFunc's fellows at elements of k cells, over whatever program bears these bodies: from a world of the sort's to a world of the sort's (after the library's walks of slices.SortFunc's family). -/
import Derived.Test.YthgmicingbjemaaDoorStablePure
import Derived.Test.YthgmicingbjemaaDoorProg
import Derived.Shelf.SlSortCmp.KitK
import Derived.Sort.WalkB2
import Derived.Sort.WalkB12
import Derived.Deep.LoopGhost
import Derived.Deep.CutRange
namespace Go.Proofs.YthgmicingbjemaaDoor.Sort
open Go.Shelf Go.RowKit Go.Lib Go.Sort Go.Proofs.YthgmicingbjemaaDoor.Stable
variable {P : Program} {α : Type} [Inhabited α]

/-- The numbers of insertionSortCmpFunc's text. -/
def rho : Ren := ⟨fun _ => 63, fun k => if k = 0 then 0 else if k = 3 then 3 else if k = 4 then 4 else if k = 22 then 24 else if k = 24 then 31 else 63, fun k => k⟩
/-- What the walks lean on of the program: its bodies of the family, and the types that these name. -/
structure Laid (P : Program) : Prop where
  ins : SlLaysF0.n20 P rho
  mixed : P.follows .mixedOrders = true
  t0 : P.underlying 0 = some (TypeDesc.tuple #[])
  a0 : ∀ w, (isAgg 0).run P w = .ok false w
  z0 : ∀ w, (Go.sizeOf 0).run P w = .ok 1 w
  v0 : ∀ w, (zeroValue 0).run P w = .ok (Value.tuple #[]) w
  t3 : P.underlying 3 = some (TypeDesc.int IntKind.i64)
  a3 : ∀ w, (isAgg 3).run P w = .ok false w
  z3 : ∀ w, (Go.sizeOf 3).run P w = .ok 1 w
  v3 : ∀ w, (zeroValue 3).run P w = .ok (Value.int IntKind.i64 0) w
  t4 : P.underlying 4 = some (TypeDesc.bool)
  a4 : ∀ w, (isAgg 4).run P w = .ok false w
  z4 : ∀ w, (Go.sizeOf 4).run P w = .ok 1 w
  v4 : ∀ w, (zeroValue 4).run P w = .ok (Value.bool false) w
  t22 : P.underlying 24 = some (TypeDesc.slice 31)
  a22 : ∀ w, (isAgg 24).run P w = .ok false w
  z22 : ∀ w, (Go.sizeOf 24).run P w = .ok 1 w
  v22 : ∀ w, (zeroValue 24).run P w = .ok (Value.slice none 0 0) w
  t25 : P.underlying 63 = some (TypeDesc.func #[31, 31] #[3] false)
  a25 : ∀ w, (isAgg 63).run P w = .ok false w
  z25 : ∀ w, (Go.sizeOf 63).run P w = .ok 1 w
  v25 : ∀ w, (zeroValue 63).run P w = .ok (Value.nilFunc) w
  t39 : P.underlying 102 = some (TypeDesc.int IntKind.u64)
  a39 : ∀ w, (isAgg 102).run P w = .ok false w
  z39 : ∀ w, (Go.sizeOf 102).run P w = .ok 1 w
  v39 : ∀ w, (zeroValue 102).run P w = .ok (Value.int IntKind.u64 0) w
  f22 : P.funcs[64]? = some Tryd.f64
  f24 : P.funcs[71]? = some Tryd.f71
  f25 : P.funcs[77]? = some Tryd.f77
  f17 : P.funcs[54]? = some Tryd.f54
  e21 : ∀ args w, (callFunc 63 args).run P w = .ok (.enter 63 args) w
  e22 : ∀ args w, (callFunc 64 args).run P w = .ok (.enter 64 args) w
  e24 : ∀ args w, (callFunc 71 args).run P w = .ok (.enter 71 args) w
  e25 : ∀ args w, (callFunc 77 args).run P w = .ok (.enter 77 args) w
  e17 : ∀ args w, (callFunc 54 args).run P w = .ok (.enter 54 args) w

set_option maxHeartbeats 8000000 in
set_option maxRecDepth 1000000 in
/-- slices.swapRangeCmpFunc: n places from a on are exchanged with n places from b on. -/
theorem swapRange (L : Laid P) (k : Nat) (aE : ∀ w, (isAgg 31).run P w = .ok true w) (zE : ∀ w, (Go.sizeOf 31).run P w = .ok k w) (enc : α → List Value) (g : Nat) (cb : Array Value) (blk off cap a b n : Nat) (d0 d : Array α) (w0 w : World) (R : RowK enc k w0 blk off d0) (hs : d0.size = d.size) (S : SWK enc k w0 blk off d w) (hab : a + n ≤ b) (hb : b + n ≤ d.size) (hsz : d.size < 4611686018427387904) :
    Calls P 77 #[.slice (some ⟨blk, off, none⟩) d.size cap, .int .i64 a, .int .i64 b, .int .i64 n, .func (.func g) #[] cb] w fun e w' => e = .returned (.tuple #[]) ∧ ∃ d', SwapIn d d' a b n ∧ PermIn a (b + n) d d' ∧ SWK enc k w0 blk off d' w' := by
  have mixed := L.mixed; have t0 := L.t0; have a0 := L.a0; have z0 := L.z0; have v0 := L.v0; have t3 := L.t3; have a3 := L.a3; have z3 := L.z3; have v3 := L.v3; have t4 := L.t4; have a4 := L.a4; have z4 := L.z4; have v4 := L.v4; have t22 := L.t22; have a22 := L.a22; have z22 := L.z22; have v22 := L.v22; have t25 := L.t25; have a25 := L.a25; have z25 := L.z25; have v25 := L.v25; have t39 := L.t39; have a39 := L.a39; have z39 := L.z39; have v39 := L.v39
  have FG := L.f25
  have S0 : Aside (SWK enc k w0 blk off d w) := S
  clear S
  go_enter FG, Tryd.ntmps77
  go_wp2
  go_loopg [10] n (fun kx s8 wr => ∃ (i : Nat) (dk : Array α), s8 = .int .i64 i ∧ i ≤ n ∧ n - i ≤ kx ∧ dk.size = d.size ∧ Aside (SWK enc k w0 blk off dk wr) ∧ SwapIn d dk a b i ∧ PermIn a (b + n) d dk)
  case atStart => exact ⟨0, d, rfl, by omega, by omega, rfl, S0, SwapIn.zero d a b, permIn_refl _ _ _⟩
  case round =>
    clear S0
    obtain ⟨i, dk, rfl, hin, hkx, hds, S1, hI, hP⟩ := hrel
    by_cases hlt : i < n
    · have hltz : (i : Int) < (n : Int) := by omega
      have HI : Aside (SwapIn d dk a b i ∧ PermIn a (b + n) d dk) := ⟨hI, hP⟩
      clear hI hP
      go_wp2_with fail
      have ea44 : ((a : Int) + (i : Int)).toNat = a + i := by omega
      have pa44 : (0 : Int) ≤ (a : Int) + (i : Int) := by omega
      have ba44 : (a : Int) + (i : Int) < (d.size : Int) := by omega
      have ra44 : IntKind.i64.wrap ((a : Int) + (i : Int)) = (a : Int) + (i : Int) := by rw [IntKind.wrap_i64]; omega
      have ec44 : ((b : Int) + (i : Int)).toNat = b + i := by omega
      have pc44 : (0 : Int) ≤ (b : Int) + (i : Int) := by omega
      have bc44 : (b : Int) + (i : Int) < (d.size : Int) := by omega
      have rc44 : IntKind.i64.wrap ((b : Int) + (i : Int)) = (b : Int) + (i : Int) := by rw [IntKind.wrap_i64]; omega
      have S2 : Aside (SWK enc k w0 blk off (swp dk (a + i) (b + i)) ((wr.drew.setCells blk (off + (a + i) * k) (enc dk[b + i]!)).setCells blk (off + (b + i) * k) (enc dk[a + i]!))) := S1.out.swapped R (a + i) (b + i) (by omega) (by omega)
      have l44a := S1.out.ld1 R (by omega) P (a + i) (by omega)
      have l44b := S1.out.ld1 R (by omega) P (b + i) (by omega)
      have s44a := S1.out.st1 R (by omega) P (a + i) (by omega) dk[b + i]!
      have s44b := S1.out.st2 R (by omega) P (a + i) (b + i) (by omega) (by omega) dk[b + i]! dk[a + i]!
      have n44a : (enc dk[a + i]!).length = k := R.hk _
      have n44b : (enc dk[b + i]!).length = k := R.hk _
      generalize enc dk[a + i]! = cI44 at S2 l44a s44b n44a
      generalize enc dk[b + i]! = cJ44 at S2 l44b s44a s44b n44b
      clear S1
      go_wp2_with fail
      go_big_region_o
      clear l44a l44b s44a s44b
      generalize (wr.drew.setCells blk (off + (a + i) * k) cJ44).setCells blk (off + (b + i) * k) cI44 = w2 at S2 ⊢
      go_wp2
      go_roundg (n - (i + 1))
      case measure => omega
      case rel =>
        exact ⟨i + 1, swp dk (a + i) (b + i), by simp, by omega, Nat.le_refl _, by rw [size_swp]; exact hds, S2, HI.out.1.succ (by omega) (by omega), permIn_trans _ _ _ _ _ HI.out.2 (swp_permIn dk a (b + n) (a + i) (b + i) (by omega) (by omega) (by omega) (by omega) (by omega))⟩
    · have hltz : ¬ (i : Int) < (n : Int) := by omega
      go_wp2
      go_end0
      obtain rfl : i = n := by omega
      exact ⟨rfl, dk, hI, hP, S1.out⟩

set_option maxHeartbeats 8000000 in
set_option maxRecDepth 1000000 in
/-- slices.rotateCmpFunc: the blocks [a, m) and [m, b) change their places. -/
theorem rotate (L : Laid P) (k : Nat) (aE : ∀ w, (isAgg 31).run P w = .ok true w) (zE : ∀ w, (Go.sizeOf 31).run P w = .ok k w) (enc : α → List Value) (g : Nat) (cb : Array Value) (blk off cap a m b : Nat) (d0 d : Array α) (w0 w : World) (R : RowK enc k w0 blk off d0) (hs : d0.size = d.size) (S : SWK enc k w0 blk off d w) (ham : a < m) (hmb : m < b) (hb : b ≤ d.size) (hsz : d.size < 4611686018427387904) :
    Calls P 71 #[.slice (some ⟨blk, off, none⟩) d.size cap, .int .i64 a, .int .i64 m, .int .i64 b, .func (.func g) #[] cb] w fun e w' => e = .returned (.tuple #[]) ∧ ∃ d', RotIn d d' a m b ∧ PermIn a b d d' ∧ SWK enc k w0 blk off d' w' := by
  have mixed := L.mixed; have t0 := L.t0; have a0 := L.a0; have z0 := L.z0; have v0 := L.v0; have t3 := L.t3; have a3 := L.a3; have z3 := L.z3; have v3 := L.v3; have t4 := L.t4; have a4 := L.a4; have z4 := L.z4; have v4 := L.v4; have t22 := L.t22; have a22 := L.a22; have z22 := L.z22; have v22 := L.v22; have t25 := L.t25; have a25 := L.a25; have z25 := L.z25; have v25 := L.v25; have t39 := L.t39; have a39 := L.a39; have z39 := L.z39; have v39 := L.v39; have e25 := L.e25
  have FG := L.f24
  have S0 : Aside (SWK enc k w0 blk off d w) := S
  clear S
  have ha1 : (m : Int) - (a : Int) = ((m - a : Nat) : Int) := by omega
  have hb1 : (b : Int) - (m : Int) = ((b - m : Nat) : Int) := by omega
  have hra : IntKind.i64.wrap ((m : Int) - (a : Int)) = ((m - a : Nat) : Int) := by rw [IntKind.wrap_i64]; omega
  have hrb : IntKind.i64.wrap ((b : Int) - (m : Int)) = ((b - m : Nat) : Int) := by rw [IntKind.wrap_i64]; omega
  go_enter FG, Tryd.ntmps71
  go_wp2
  go_loopg [10, 11] (b - a) (fun kx s10 s11 wr => ∃ (i j : Nat) (dk : Array α), s10 = .int .i64 i ∧ s11 = .int .i64 j ∧ 0 < i ∧ 0 < j ∧ a + i ≤ m ∧ m + j ≤ b ∧ i + j ≤ kx ∧ dk.size = d.size ∧ Aside (SWK enc k w0 blk off dk wr) ∧ Aside (PermIn a b d dk ∧ ∀ d', RotIn dk d' (m - i) m (m + j) → RotIn d d' a m b))
  case atStart =>
    exact ⟨m - a, b - m, d, by first | rfl | simp [*], by first | rfl | simp [*], by omega, by omega, by omega, by omega, by omega, rfl, S0, ⟨permIn_refl _ _ _, fun d' h => by rwa [show m - (m - a) = a by omega, show m + (b - m) = b by omega] at h⟩⟩
  case round =>
    clear S0
    obtain ⟨i, j, dk, rfl, rfl, hi0, hj0, him, hjb, hkx, hds, S1, HI⟩ := hrel
    have emi : (m : Int) - (i : Int) = ((m - i : Nat) : Int) := by omega
    have rmi : IntKind.i64.wrap ((m : Int) - (i : Int)) = ((m - i : Nat) : Int) := by rw [IntKind.wrap_i64]; omega
    by_cases hne : i = j
    · -- 'i == j': the last exchange
      subst hne
      have hnez : ¬ ((i : Int) ≠ (i : Int)) := fun h => h rfl
      have hcall := swapRange L k aE zE enc g cb blk off cap (m - i) m i d0 dk w0 wr R (by omega) S1.out (by omega) (by omega) (by omega)
      rw [hds] at hcall
      clear S1
      go_wp2_with (go_at_fn 77; refine hcall.mono ?_; rintro e w1 ⟨rfl, d1, hI1, hP1, S2⟩)
      go_end0
      exact ⟨rfl, d1, HI.out.2 d1 (RotIn.of_even (by omega) hI1), permIn_trans _ _ _ _ _ HI.out.1 (permIn_mono _ _ _ _ _ _ (by omega) (by omega) (by omega) hP1), S2⟩
    · have hnez : (i : Int) ≠ (j : Int) := by omega
      by_cases hij : j < i
      · have hijz : (i : Int) > (j : Int) := by omega
        have rij : IntKind.i64.wrap ((i : Int) - (j : Int)) = ((i - j : Nat) : Int) := by rw [IntKind.wrap_i64]; omega
        have hcall := swapRange L k aE zE enc g cb blk off cap (m - i) m j d0 dk w0 wr R (by omega) S1.out (by omega) (by omega) (by omega)
        rw [hds] at hcall
        clear S1
        go_wp2_with (go_at_fn 77; refine hcall.mono ?_; rintro e w1 ⟨rfl, d1, hI1, hP1, S2⟩)
        have S2' : Aside (SWK enc k w0 blk off d1 w1) := S2
        have HI1 : Aside (SwapIn dk d1 (m - i) m j ∧ PermIn (m - i) (m + j) dk d1) := ⟨hI1, hP1⟩
        clear S2 hI1 hP1
        go_wp2
        go_roundg (i - j + j)
        case measure => omega
        case rel =>
          refine ⟨i - j, j, d1, by first | rfl | simp [*] | (congr 1; omega), rfl, by omega, hj0, by omega, hjb, Nat.le_refl _, by rw [HI1.out.1.size]; exact hds, S2', ⟨permIn_trans _ _ _ _ _ HI.out.1 (permIn_mono _ _ _ _ _ _ (by omega) (by omega) (by omega) HI1.out.2), fun d' h => HI.out.2 d' (RotIn.of_left hij (by omega) HI1.out.1 h)⟩⟩
      · have hij' : i < j := by omega
        have hijz : ¬ ((i : Int) > (j : Int)) := by omega
        have rji : IntKind.i64.wrap ((j : Int) - (i : Int)) = ((j - i : Nat) : Int) := by rw [IntKind.wrap_i64]; omega
        have rmj : IntKind.i64.wrap ((m : Int) + (j : Int)) = ((m + j : Nat) : Int) := by rw [IntKind.wrap_i64]; omega
        have rmji : IntKind.i64.wrap ((m : Int) + (j : Int) - (i : Int)) = ((m + j - i : Nat) : Int) := by rw [IntKind.wrap_i64]; omega
        have rmji2 : IntKind.i64.wrap (((m + j : Nat) : Int) - (i : Int)) = ((m + j - i : Nat) : Int) := by rw [IntKind.wrap_i64]; omega
        have hcall := swapRange L k aE zE enc g cb blk off cap (m - i) (m + j - i) i d0 dk w0 wr R (by omega) S1.out (by omega) (by omega) (by omega)
        rw [hds] at hcall
        clear S1
        go_wp2_with (go_at_fn 77; refine hcall.mono ?_; rintro e w1 ⟨rfl, d1, hI1, hP1, S2⟩)
        have S2' : Aside (SWK enc k w0 blk off d1 w1) := S2
        have HI1 : Aside (SwapIn dk d1 (m - i) (m + j - i) i ∧ PermIn (m - i) (m + j - i + i) dk d1) := ⟨hI1, hP1⟩
        clear S2 hI1 hP1
        go_wp2
        go_roundg (i + (j - i))
        case measure => omega
        case rel =>
          refine ⟨i, j - i, d1, rfl, by first | rfl | simp [*] | (congr 1; omega), hi0, by omega, him, by omega, Nat.le_refl _, by rw [HI1.out.1.size]; exact hds, S2', ⟨permIn_trans _ _ _ _ _ HI.out.1 (permIn_mono _ _ _ _ _ _ (by omega) (by omega) (by omega) HI1.out.2), fun d' h => HI.out.2 d' (RotIn.of_right hij' (by omega) HI1.out.1 h)⟩⟩

set_option maxHeartbeats 8000000 in
set_option maxRecDepth 1000000 in
theorem symOne (L : Laid P) (k : Nat) (aE : ∀ w, (isAgg 31).run P w = .ok true w) (zE : ∀ w, (Go.sizeOf 31).run P w = .ok k w) (enc : α → List Value) (cf : α → α → Int) (hO : SWO (ltOf cf)) (g : Nat) (cb : Array Value) (blk off cap : Nat) (d0 : Array α) (w0 : World)
    (eg : ∀ args w, (callFunc g args).run P w = .ok (.enter g args) w) (hcmp0 : CmpLays P g cb enc k cf blk off d0.size w0) (R : RowK enc k w0 blk off d0) (a m b : Nat) (d : Array α) (w : World)
    (hs : d0.size = d.size) (S : SWK enc k w0 blk off d w) (ham : a < m) (hmb : m < b) (hb : b ≤ d.size) (hsz : d.size < 4611686018427387904) (h1 : m = a + 1) :
    Calls P 64 #[.slice (some ⟨blk, off, none⟩) d.size cap, .int .i64 a, .int .i64 m, .int .i64 b, .func (.func g) #[] cb] w fun e w' => e = .returned (.tuple #[]) ∧ ∃ d', Merged (ltOf cf) d d' a m b ∧ SWK enc k w0 blk off d' w' := by
  have mixed := L.mixed; have t0 := L.t0; have a0 := L.a0; have z0 := L.z0; have v0 := L.v0; have t3 := L.t3; have a3 := L.a3; have z3 := L.z3; have v3 := L.v3; have t4 := L.t4; have a4 := L.a4; have z4 := L.z4; have v4 := L.v4; have t22 := L.t22; have a22 := L.a22; have z22 := L.z22; have v22 := L.v22; have t25 := L.t25; have a25 := L.a25; have z25 := L.z25; have v25 := L.v25; have t39 := L.t39; have a39 := L.a39; have z39 := L.z39; have v39 := L.v39; have e24 := L.e24; have e22 := L.e22
  have FG := L.f22
  have hcmp : Aside (CmpLays P g cb enc k cf blk off d0.size w0) := hcmp0
  clear hcmp0
  have S0 : Aside (SWK enc k w0 blk off d w) := S
  clear S
  have rma : IntKind.i64.wrap ((m : Int) - (a : Int)) = (m : Int) - (a : Int) := by rw [IntKind.wrap_i64]; omega
  have rbm : IntKind.i64.wrap ((b : Int) - (m : Int)) = (b : Int) - (m : Int) := by rw [IntKind.wrap_i64]; omega
  go_enter FG, Tryd.ntmps64
  have h1z : (m : Int) - (a : Int) = 1 := by omega
  have H1 : Aside (m = a + 1) := h1
  clear h1
  go_wp2
  clear h1z
  go_loopg [10, 11] (b - a) (fun kx s10 s11 wr => ∃ i j : Nat, s10 = .int .i64 i ∧ s11 = .int .i64 j ∧ m ≤ i ∧ i ≤ j ∧ j ≤ b ∧ j - i ≤ kx ∧ Aside (SWK enc k w0 blk off d wr) ∧ Aside (i = m ∨ ltOf cf d[i - 1]! d[a]! = true) ∧ Aside (j = b ∨ ltOf cf d[j]! d[a]! = false))
  case atStart => exact ⟨m, b, rfl, rfl, by omega, by omega, by omega, by omega, S0, .inl rfl, .inl rfl⟩
  case round =>
    clear S0
    obtain ⟨i, j, rfl, rfl, hmi, hij, hjb, hkx, S1, HL, HH⟩ := hrel
    by_cases hlt : i < j
    · have hltz : (i : Int) < (j : Int) := by omega
      obtain ⟨h, hhh⟩ : ∃ h : Nat, h = (i + j) / 2 := ⟨_, rfl⟩
      have hr1 : i ≤ h := by omega
      have hr2 : h < j := by omega
      have hr3 : a < i := by omega
      go_wp2_with fail
      have ea50 : (((i : Int) + (j : Int)) / 2).toNat = (i + j) / 2 := by omega
      have pa50 : (0 : Int) ≤ ((i : Int) + (j : Int)) / 2 := by omega
      have ba50 : ((i : Int) + (j : Int)) / 2 < (d.size : Int) := by omega
      have ra50 : IntKind.i64.wrap (((i : Int) + (j : Int)) / 2) = ((i : Int) + (j : Int)) / 2 := by rw [IntKind.wrap_i64]; omega
      have ec50 : ((a : Int)).toNat = a := by omega
      have pc50 : (0 : Int) ≤ (a : Int) := by omega
      have bc50 : (a : Int) < (d.size : Int) := by omega
      have rc50 : IntKind.i64.wrap ((a : Int)) = (a : Int) := by rw [IntKind.wrap_i64]; omega
      obtain ⟨xi50, hxi50⟩ : ∃ x, d[(i + j) / 2]! = x := ⟨_, rfl⟩
      obtain ⟨xj50, hxj50⟩ : ∃ x, d[a]! = x := ⟨_, rfl⟩
      have l50a := fun n_ os_ => S1.out.ld R (by omega) P ((i + j) / 2) (by omega) n_ os_
      have l50b := fun n_ os_ => S1.out.ld R (by omega) P (a) (by omega) n_ os_
      have hcg50 := fun n_ os_ => S1.out.cmp hcmp.out (by omega) xi50 xj50 n_ os_
      rw [hxi50] at l50a
      rw [hxj50] at l50b
      by_cases hlv : cf xi50 xj50 < 0
      · 
        have hdv : decide (cf xi50 xj50 < 0) = true := decide_eq_true hlv
        go_wp2_with fail
        go_quiet_grown (first | (go_at_fn g; refine Calls.grown_of (hcg50 _ _)))
        have S2 : Aside (SWK enc k w0 blk off d (grow (wr.drewN nq) osq)) := S1.out.grown nq osq
        clear l50a l50b hcg50 S1
        generalize grow (wr.drewN nq) osq = w2 at S2 ⊢
        go_wp2
        go_roundg (j - (h + 1))
        case measure => omega
        case rel => exact ⟨h + 1, j, by first | rfl | (subst hhh; rfl) | (congr 1; omega), rfl, by omega, by omega, by omega, Nat.le_refl _, S2, (.inr (by rw [Nat.add_sub_cancel, hhh, hxi50, hxj50]; exact decide_eq_true hlv)), HH⟩
      · 
        have hdv : decide (cf xi50 xj50 < 0) = false := decide_eq_false (by omega)
        go_wp2_with fail
        go_quiet_grown (first | (go_at_fn g; refine Calls.grown_of (hcg50 _ _)))
        have S2 : Aside (SWK enc k w0 blk off d (grow (wr.drewN nq) osq)) := S1.out.grown nq osq
        clear l50a l50b hcg50 S1
        generalize grow (wr.drewN nq) osq = w2 at S2 ⊢
        go_wp2
        go_roundg (h - i)
        case measure => omega
        case rel => exact ⟨i, h, rfl, by first | rfl | (subst hhh; rfl) | (congr 1; omega), by omega, by omega, by omega, Nat.le_refl _, S2, HL, (.inr (by rw [hhh, hxi50, hxj50]; exact decide_eq_false (by omega)))⟩
    · have hltz : ¬ (i : Int) < (j : Int) := by omega
      have hHi : Aside (i = b ∨ ltOf cf d[i]! d[a]! = false) := by rw [show i = j by omega]; exact HH
      clear HH
      have hai : a < i := by omega
      go_wp2
      go_loopg [13] (i - a) (fun kx s13 wr => ∃ (q : Nat) (dk : Array α), s13 = .int .i64 q ∧ a ≤ q ∧ q + 1 ≤ i ∧ i - 1 - q ≤ kx ∧ dk.size = d.size ∧ Aside (SWK enc k w0 blk off dk wr) ∧ Aside (RotIn d dk a (a + 1) (q + 1) ∧ PermIn a b d dk))
      case atStart => exact ⟨a, d, rfl, by omega, by omega, by omega, rfl, S1, ⟨RotIn.refl1 d a, permIn_refl _ _ _⟩⟩
      case round =>
        clear S1
        obtain ⟨q, dk, rfl, haq, hqi, hkx2, hds, S1, HI⟩ := hrel
        by_cases hq : q + 1 < i
        · have hqz : (q : Int) < (i : Int) - 1 := by omega
          go_wp2_with fail
          have ea51 : ((q : Int)).toNat = q := by omega
          have pa51 : (0 : Int) ≤ (q : Int) := by omega
          have ba51 : (q : Int) < (d.size : Int) := by omega
          have ra51 : IntKind.i64.wrap ((q : Int)) = (q : Int) := by rw [IntKind.wrap_i64]; omega
          have ec51 : ((q : Int) + 1).toNat = q + 1 := by omega
          have pc51 : (0 : Int) ≤ (q : Int) + 1 := by omega
          have bc51 : (q : Int) + 1 < (d.size : Int) := by omega
          have rc51 : IntKind.i64.wrap ((q : Int) + 1) = (q : Int) + 1 := by rw [IntKind.wrap_i64]; omega
          have S2 : Aside (SWK enc k w0 blk off (swp dk (q) (q + 1)) ((wr.drew.setCells blk (off + (q) * k) (enc dk[q + 1]!)).setCells blk (off + (q + 1) * k) (enc dk[q]!))) := S1.out.swapped R (q) (q + 1) (by omega) (by omega)
          have l51a := S1.out.ld1 R (by omega) P (q) (by omega)
          have l51b := S1.out.ld1 R (by omega) P (q + 1) (by omega)
          have s51a := S1.out.st1 R (by omega) P (q) (by omega) dk[q + 1]!
          have s51b := S1.out.st2 R (by omega) P (q) (q + 1) (by omega) (by omega) dk[q + 1]! dk[q]!
          have n51a : (enc dk[q]!).length = k := R.hk _
          have n51b : (enc dk[q + 1]!).length = k := R.hk _
          generalize enc dk[q]! = cI51 at S2 l51a s51b n51a
          generalize enc dk[q + 1]! = cJ51 at S2 l51b s51a s51b n51b
          clear S1
          go_wp2_with fail
          go_big_region_o
          clear l51a l51b s51a s51b
          generalize (wr.drew.setCells blk (off + (q) * k) cJ51).setCells blk (off + (q + 1) * k) cI51 = w2 at S2 ⊢
          go_wp2
          go_roundg (i - 1 - (q + 1))
          case measure => omega
          case rel => exact ⟨q + 1, swp dk q (q + 1), by first | rfl | simp, by omega, by omega, Nat.le_refl _, by rw [size_swp]; exact hds, S2, ⟨RotIn.up haq (by omega) HI.out.1, permIn_trans _ _ _ _ _ HI.out.2 (swp_permIn dk a b q (q + 1) haq (by omega) (by omega) (by omega) (by omega))⟩⟩
        · have hqz : ¬ ((q : Int) < (i : Int) - 1) := by omega
          go_wp2
          (try simp only [Exit.inBlock, Exit.then]); refine bodyPost_ret (results_none rfl _ _ _) rfl ?_
          refine ⟨rfl, dk, ?_, S1.out⟩
          have hm := merged_first (i := i) hO HI.out.2 (by omega) (by omega) (by rw [← H1.out]; exact HL.out) hHi.out (by rw [← show q + 1 = i by omega]; exact HI.out.1)
          rw [H1.out]
          exact hm

set_option maxHeartbeats 8000000 in
set_option maxRecDepth 1000000 in
theorem symLast (L : Laid P) (k : Nat) (aE : ∀ w, (isAgg 31).run P w = .ok true w) (zE : ∀ w, (Go.sizeOf 31).run P w = .ok k w) (enc : α → List Value) (cf : α → α → Int) (hO : SWO (ltOf cf)) (g : Nat) (cb : Array Value) (blk off cap : Nat) (d0 : Array α) (w0 : World)
    (eg : ∀ args w, (callFunc g args).run P w = .ok (.enter g args) w) (hcmp0 : CmpLays P g cb enc k cf blk off d0.size w0) (R : RowK enc k w0 blk off d0) (a m b : Nat) (d : Array α) (w : World)
    (hs : d0.size = d.size) (S : SWK enc k w0 blk off d w) (ham : a < m) (hmb : m < b) (hb : b ≤ d.size) (hsz : d.size < 4611686018427387904) (h1 : ¬ m = a + 1) (h2 : b = m + 1) :
    Calls P 64 #[.slice (some ⟨blk, off, none⟩) d.size cap, .int .i64 a, .int .i64 m, .int .i64 b, .func (.func g) #[] cb] w fun e w' => e = .returned (.tuple #[]) ∧ ∃ d', Merged (ltOf cf) d d' a m b ∧ SWK enc k w0 blk off d' w' := by
  have mixed := L.mixed; have t0 := L.t0; have a0 := L.a0; have z0 := L.z0; have v0 := L.v0; have t3 := L.t3; have a3 := L.a3; have z3 := L.z3; have v3 := L.v3; have t4 := L.t4; have a4 := L.a4; have z4 := L.z4; have v4 := L.v4; have t22 := L.t22; have a22 := L.a22; have z22 := L.z22; have v22 := L.v22; have t25 := L.t25; have a25 := L.a25; have z25 := L.z25; have v25 := L.v25; have t39 := L.t39; have a39 := L.a39; have z39 := L.z39; have v39 := L.v39; have e24 := L.e24; have e22 := L.e22
  have FG := L.f22
  have hcmp : Aside (CmpLays P g cb enc k cf blk off d0.size w0) := hcmp0
  clear hcmp0
  have S0 : Aside (SWK enc k w0 blk off d w) := S
  clear S
  have rma : IntKind.i64.wrap ((m : Int) - (a : Int)) = (m : Int) - (a : Int) := by rw [IntKind.wrap_i64]; omega
  have rbm : IntKind.i64.wrap ((b : Int) - (m : Int)) = (b : Int) - (m : Int) := by rw [IntKind.wrap_i64]; omega
  go_enter FG, Tryd.ntmps64
  have h1z : ¬ ((m : Int) - (a : Int) = 1) := by omega
  have h2z : (b : Int) - (m : Int) = 1 := by omega
  have h1b : ((m : Int) - (a : Int) == 1) = false := beq_eq_false_iff_ne.mpr h1z
  have h2b : ((b : Int) - (m : Int) == 1) = true := beq_iff_eq.mpr h2z
  clear h1z h2z
  have H2 : Aside (b = m + 1) := h2
  clear h1 h2
  go_wp2
  go_loopg [14, 15] (b - a) (fun kx s10 s11 wr => ∃ i j : Nat, s10 = .int .i64 i ∧ s11 = .int .i64 j ∧ a ≤ i ∧ i ≤ j ∧ j ≤ m ∧ j - i ≤ kx ∧ Aside (SWK enc k w0 blk off d wr) ∧ Aside (i = a ∨ ltOf cf d[m]! d[i - 1]! = false) ∧ Aside (j = m ∨ ltOf cf d[m]! d[j]! = true))
  case atStart => exact ⟨a, m, rfl, rfl, by omega, by omega, by omega, by omega, S0, .inl rfl, .inl rfl⟩
  case round =>
    clear S0
    obtain ⟨i, j, rfl, rfl, hmi, hij, hjb, hkx, S1, HL, HH⟩ := hrel
    by_cases hlt : i < j
    · have hltz : (i : Int) < (j : Int) := by omega
      obtain ⟨h, hhh⟩ : ∃ h : Nat, h = (i + j) / 2 := ⟨_, rfl⟩
      have hr1 : i ≤ h := by omega
      have hr2 : h < j := by omega
      go_wp2_with fail
      have ea52 : ((m : Int)).toNat = m := by omega
      have pa52 : (0 : Int) ≤ (m : Int) := by omega
      have ba52 : (m : Int) < (d.size : Int) := by omega
      have ra52 : IntKind.i64.wrap ((m : Int)) = (m : Int) := by rw [IntKind.wrap_i64]; omega
      have ec52 : (((i : Int) + (j : Int)) / 2).toNat = (i + j) / 2 := by omega
      have pc52 : (0 : Int) ≤ ((i : Int) + (j : Int)) / 2 := by omega
      have bc52 : ((i : Int) + (j : Int)) / 2 < (d.size : Int) := by omega
      have rc52 : IntKind.i64.wrap (((i : Int) + (j : Int)) / 2) = ((i : Int) + (j : Int)) / 2 := by rw [IntKind.wrap_i64]; omega
      obtain ⟨xi52, hxi52⟩ : ∃ x, d[m]! = x := ⟨_, rfl⟩
      obtain ⟨xj52, hxj52⟩ : ∃ x, d[(i + j) / 2]! = x := ⟨_, rfl⟩
      have l52a := fun n_ os_ => S1.out.ld R (by omega) P (m) (by omega) n_ os_
      have l52b := fun n_ os_ => S1.out.ld R (by omega) P ((i + j) / 2) (by omega) n_ os_
      have hcg52 := fun n_ os_ => S1.out.cmp hcmp.out (by omega) xi52 xj52 n_ os_
      rw [hxi52] at l52a
      rw [hxj52] at l52b
      by_cases hlv : cf xi52 xj52 < 0
      · 
        have hdv : decide (cf xi52 xj52 < 0) = true := decide_eq_true hlv
        go_wp2_with fail
        go_quiet_grown (first | (go_at_fn g; refine Calls.grown_of (hcg52 _ _)))
        have S2 : Aside (SWK enc k w0 blk off d (grow (wr.drewN nq) osq)) := S1.out.grown nq osq
        clear l52a l52b hcg52 S1
        generalize grow (wr.drewN nq) osq = w2 at S2 ⊢
        go_wp2
        go_roundg (h - i)
        case measure => omega
        case rel => exact ⟨i, h, rfl, by first | rfl | (subst hhh; rfl) | (congr 1; omega), by omega, by omega, by omega, Nat.le_refl _, S2, HL, (.inr (by rw [hhh, hxi52, hxj52]; exact decide_eq_true hlv))⟩
      · 
        have hdv : decide (cf xi52 xj52 < 0) = false := decide_eq_false (by omega)
        go_wp2_with fail
        go_quiet_grown (first | (go_at_fn g; refine Calls.grown_of (hcg52 _ _)))
        have S2 : Aside (SWK enc k w0 blk off d (grow (wr.drewN nq) osq)) := S1.out.grown nq osq
        clear l52a l52b hcg52 S1
        generalize grow (wr.drewN nq) osq = w2 at S2 ⊢
        go_wp2
        go_roundg (j - (h + 1))
        case measure => omega
        case rel => exact ⟨h + 1, j, by first | rfl | (subst hhh; rfl) | (congr 1; omega), rfl, by omega, by omega, by omega, Nat.le_refl _, S2, (.inr (by rw [Nat.add_sub_cancel, hhh, hxi52, hxj52]; exact decide_eq_false (by omega))), HH⟩
    · have hltz : ¬ (i : Int) < (j : Int) := by omega
      have hHi : Aside (i = m ∨ ltOf cf d[m]! d[i]! = true) := by rw [show i = j by omega]; exact HH
      clear HH
      go_wp2
      go_loopg [17] (m - i) (fun kx s13 wr => ∃ (q : Nat) (dk : Array α), s13 = .int .i64 q ∧ i ≤ q ∧ q ≤ m ∧ q - i ≤ kx ∧ dk.size = d.size ∧ Aside (SWK enc k w0 blk off dk wr) ∧ Aside (RotIn d dk q m (m + 1) ∧ PermIn a b d dk))
      case atStart => exact ⟨m, d, rfl, by omega, by omega, by omega, rfl, S1, ⟨RotIn.refl2 d m, permIn_refl _ _ _⟩⟩
      case round =>
        clear S1
        obtain ⟨q, dk, rfl, haq, hqi, hkx2, hds, S1, HI⟩ := hrel
        by_cases hq : i < q
        · have hqz : (q : Int) > (i : Int) := by omega
          obtain ⟨p, rfl⟩ : ∃ p, q = p + 1 := ⟨q - 1, by omega⟩
          go_wp2_with fail
          have ea53 : ((p : Int) + 1).toNat = p + 1 := by omega
          have pa53 : (0 : Int) ≤ (p : Int) + 1 := by omega
          have ba53 : (p : Int) + 1 < (d.size : Int) := by omega
          have ra53 : IntKind.i64.wrap ((p : Int) + 1) = (p : Int) + 1 := by rw [IntKind.wrap_i64]; omega
          have ec53 : ((p : Int)).toNat = p := by omega
          have pc53 : (0 : Int) ≤ (p : Int) := by omega
          have bc53 : (p : Int) < (d.size : Int) := by omega
          have rc53 : IntKind.i64.wrap ((p : Int)) = (p : Int) := by rw [IntKind.wrap_i64]; omega
          have S2 : Aside (SWK enc k w0 blk off (swp dk (p + 1) (p)) ((wr.drew.setCells blk (off + (p + 1) * k) (enc dk[p]!)).setCells blk (off + (p) * k) (enc dk[p + 1]!))) := S1.out.swapped R (p + 1) (p) (by omega) (by omega)
          have l53a := S1.out.ld1 R (by omega) P (p + 1) (by omega)
          have l53b := S1.out.ld1 R (by omega) P (p) (by omega)
          have s53a := S1.out.st1 R (by omega) P (p + 1) (by omega) dk[p]!
          have s53b := S1.out.st2 R (by omega) P (p + 1) (p) (by omega) (by omega) dk[p]! dk[p + 1]!
          have n53a : (enc dk[p + 1]!).length = k := R.hk _
          have n53b : (enc dk[p]!).length = k := R.hk _
          generalize enc dk[p + 1]! = cI53 at S2 l53a s53b n53a
          generalize enc dk[p]! = cJ53 at S2 l53b s53a s53b n53b
          clear S1
          go_wp2_with fail
          go_big_region_o
          clear l53a l53b s53a s53b
          generalize (wr.drew.setCells blk (off + (p + 1) * k) cJ53).setCells blk (off + (p) * k) cI53 = w2 at S2 ⊢
          go_wp2
          go_roundg (p - i)
          case measure => omega
          case rel => exact ⟨p, swp dk (p + 1) p, by first | rfl | simp, by omega, by omega, Nat.le_refl _, by rw [size_swp]; exact hds, S2, ⟨RotIn.down (by omega) (by omega) HI.out.1, permIn_trans _ _ _ _ _ HI.out.2 (swp_permIn dk a b (p + 1) p (by omega) (by omega) (by omega) (by omega) (by omega))⟩⟩
        · have hqz : ¬ ((q : Int) > (i : Int)) := by omega
          go_wp2
          (try simp only [Exit.inBlock, Exit.then]); refine bodyPost_ret (results_none rfl _ _ _) rfl ?_
          refine ⟨rfl, dk, ?_, S1.out⟩
          have hm := merged_last (i := i) hO (by rw [← H2.out]; exact HI.out.2) (by omega) (by omega) HL.out hHi.out (by rw [show i = q by omega]; exact HI.out.1)
          rw [H2.out]
          exact hm

set_option maxHeartbeats 8000000 in
set_option maxRecDepth 1000000 in
theorem symMid (L : Laid P) (k : Nat) (aE : ∀ w, (isAgg 31).run P w = .ok true w) (zE : ∀ w, (Go.sizeOf 31).run P w = .ok k w) (enc : α → List Value) (cf : α → α → Int) (hO : SWO (ltOf cf)) (g : Nat) (cb : Array Value) (blk off cap : Nat) (d0 : Array α) (w0 : World)
    (eg : ∀ args w, (callFunc g args).run P w = .ok (.enter g args) w) (hcmp0 : CmpLays P g cb enc k cf blk off d0.size w0) (R : RowK enc k w0 blk off d0) (N : Nat)
    (ih0 : (∀ (a m b : Nat) (d : Array α) (w : World), b - a < N → d0.size = d.size → SWK enc k w0 blk off d w → a < m → m < b → b ≤ d.size → d.size < 4611686018427387904 →
    Calls P 64 #[.slice (some ⟨blk, off, none⟩) d.size cap, .int .i64 a, .int .i64 m, .int .i64 b, .func (.func g) #[] cb] w fun e w' => e = .returned (.tuple #[]) ∧ ∃ d', Merged (ltOf cf) d d' a m b ∧ SWK enc k w0 blk off d' w')) (a m b : Nat) (d : Array α) (w : World) (hN : b - a < N + 1)
    (hs : d0.size = d.size) (S : SWK enc k w0 blk off d w) (ham : a < m) (hmb : m < b) (hb : b ≤ d.size) (hsz : d.size < 4611686018427387904) (h1 : ¬ m = a + 1) (h2 : ¬ b = m + 1) :
    Calls P 64 #[.slice (some ⟨blk, off, none⟩) d.size cap, .int .i64 a, .int .i64 m, .int .i64 b, .func (.func g) #[] cb] w fun e w' => e = .returned (.tuple #[]) ∧ ∃ d', Merged (ltOf cf) d d' a m b ∧ SWK enc k w0 blk off d' w' := by
  have ih : Aside _ := ih0
  clear ih0
  have mixed := L.mixed; have t0 := L.t0; have a0 := L.a0; have z0 := L.z0; have v0 := L.v0; have t3 := L.t3; have a3 := L.a3; have z3 := L.z3; have v3 := L.v3; have t4 := L.t4; have a4 := L.a4; have z4 := L.z4; have v4 := L.v4; have t22 := L.t22; have a22 := L.a22; have z22 := L.z22; have v22 := L.v22; have t25 := L.t25; have a25 := L.a25; have z25 := L.z25; have v25 := L.v25; have t39 := L.t39; have a39 := L.a39; have z39 := L.z39; have v39 := L.v39; have e24 := L.e24; have e22 := L.e22
  have FG := L.f22
  have hcmp : Aside (CmpLays P g cb enc k cf blk off d0.size w0) := hcmp0
  clear hcmp0
  have S0 : Aside (SWK enc k w0 blk off d w) := S
  clear S
  have rma : IntKind.i64.wrap ((m : Int) - (a : Int)) = (m : Int) - (a : Int) := by rw [IntKind.wrap_i64]; omega
  have rbm : IntKind.i64.wrap ((b : Int) - (m : Int)) = (b : Int) - (m : Int) := by rw [IntKind.wrap_i64]; omega
  go_enter FG, Tryd.ntmps64
  have h1b : ((m : Int) - (a : Int) == 1) = false := beq_eq_false_iff_ne.mpr (by omega)
  have h2b : ((b : Int) - (m : Int) == 1) = false := beq_eq_false_iff_ne.mpr (by omega)
  obtain ⟨mid, hmid⟩ : ∃ x : Nat, x = (a + b) / 2 := ⟨_, rfl⟩
  obtain ⟨n, hn⟩ : ∃ x : Nat, x = mid + m := ⟨_, rfl⟩
  have hmab : a ≤ mid := by omega
  have hmab2 : a < mid := by omega
  have hmb2 : mid < b := by omega
  have H12 : Aside (m ≠ a + 1 ∧ b ≠ m + 1) := ⟨h1, h2⟩
  clear h1 h2
  have HM : Aside (mid = (a + b) / 2) := hmid
  have HN : Aside (n = mid + m) := hn
  clear hmid hn
  go_upto_if 140 with fail
  go_cut [18, 19, 20, 21] from 135 to 146 (fun s18 s19 s20 s21 wc => ∃ st0 r0 : Nat, s18 = .int .i64 mid ∧ s19 = .int .i64 n ∧ s20 = .int .i64 st0 ∧ s21 = .int .i64 r0 ∧ Aside (SWK enc k w0 blk off d wc) ∧ Aside ((mid < m ∧ st0 + b = n ∧ r0 = mid) ∨ (m ≤ mid ∧ st0 = a ∧ r0 = m)))
  case first =>
    by_cases hm : mid < m
    · have hmz : (m : Int) > ((a : Int) + (b : Int)) / 2 := by have := HM.out; omega
      go_wp2_with fail
      go_meet
      case rel => exact ⟨n - b, mid, by congr 1; have := HM.out; omega, by congr 1; have := HM.out; have := HN.out; omega, by congr 1; have := HM.out; have := HN.out; omega, by congr 1; have := HM.out; omega, S0, .inl ⟨hm, by have := HN.out; have := HM.out; omega, rfl⟩⟩
    · have hmz : ¬ ((m : Int) > ((a : Int) + (b : Int)) / 2) := by have := HM.out; omega
      go_wp2_with fail
      go_meet
      case rel => exact ⟨a, m, by congr 1; have := HM.out; omega, by congr 1; have := HM.out; have := HN.out; omega, rfl, rfl, S0, .inr ⟨by omega, rfl, rfl⟩⟩
  case rest =>
    clear S0
    obtain ⟨st0, r0, rfl, rfl, rfl, rfl, S1, HC⟩ := hcut
    have hs0 : st0 ≤ r0 := by rcases HC.out with h | h <;> have := HN.out <;> have := HM.out <;> omega
    have hrm : r0 ≤ m := by rcases HC.out with h | h <;> omega
    have hrmid : r0 ≤ mid := by rcases HC.out with h | h <;> omega
    have hnb : n ≤ b + st0 := by rcases HC.out with h | h <;> have := HN.out <;> have := HM.out <;> omega
    have has : a ≤ st0 := by rcases HC.out with h | h <;> have := HN.out <;> have := HM.out <;> omega
    have hrn : r0 < n := by have := HN.out; omega
    go_wp2
    go_loopg [20, 21] (b - a) (fun kx s20 s21 wr => ∃ st r : Nat, s20 = .int .i64 st ∧ s21 = .int .i64 r ∧ st0 ≤ st ∧ st ≤ r ∧ r ≤ r0 ∧ r - st ≤ kx ∧ Aside (SWK enc k w0 blk off d wr) ∧ Aside (st = st0 ∨ ltOf cf d[n - st]! d[st - 1]! = false) ∧ Aside (r = r0 ∨ ltOf cf d[n - 1 - r]! d[r]! = true))
    case atStart => exact ⟨st0, r0, rfl, rfl, by omega, by omega, by omega, by omega, S1, .inl rfl, .inl rfl⟩
    case round =>
      clear S1
      obtain ⟨st, r, rfl, rfl, hq1, hq2, hq3, hkx, S1, HL, HH⟩ := hrel
      by_cases hlt : st < r
      · have hltz : (st : Int) < (r : Int) := by omega
        obtain ⟨h, hhh⟩ : ∃ h : Nat, h = (st + r) / 2 := ⟨_, rfl⟩
        have hr1 : st ≤ h := by omega
        have hr2 : h < r := by omega
        go_wp2_with fail
        have ea54 : ((n : Int) - 1 - ((st : Int) + (r : Int)) / 2).toNat = n - 1 - (st + r) / 2 := by omega
        have pa54 : (0 : Int) ≤ (n : Int) - 1 - ((st : Int) + (r : Int)) / 2 := by omega
        have ba54 : (n : Int) - 1 - ((st : Int) + (r : Int)) / 2 < (d.size : Int) := by omega
        have ra54 : IntKind.i64.wrap ((n : Int) - 1 - ((st : Int) + (r : Int)) / 2) = (n : Int) - 1 - ((st : Int) + (r : Int)) / 2 := by rw [IntKind.wrap_i64]; omega
        have ec54 : (((st : Int) + (r : Int)) / 2).toNat = (st + r) / 2 := by omega
        have pc54 : (0 : Int) ≤ ((st : Int) + (r : Int)) / 2 := by omega
        have bc54 : ((st : Int) + (r : Int)) / 2 < (d.size : Int) := by omega
        have rc54 : IntKind.i64.wrap (((st : Int) + (r : Int)) / 2) = ((st : Int) + (r : Int)) / 2 := by rw [IntKind.wrap_i64]; omega
        obtain ⟨xi54, hxi54⟩ : ∃ x, d[n - 1 - (st + r) / 2]! = x := ⟨_, rfl⟩
        obtain ⟨xj54, hxj54⟩ : ∃ x, d[(st + r) / 2]! = x := ⟨_, rfl⟩
        have l54a := fun n_ os_ => S1.out.ld R (by omega) P (n - 1 - (st + r) / 2) (by omega) n_ os_
        have l54b := fun n_ os_ => S1.out.ld R (by omega) P ((st + r) / 2) (by omega) n_ os_
        have hcg54 := fun n_ os_ => S1.out.cmp hcmp.out (by omega) xi54 xj54 n_ os_
        rw [hxi54] at l54a
        rw [hxj54] at l54b
        have pz54 : ((st : Int) + (r : Int)) / 2 ≤ (n : Int) - 1 := by omega
        by_cases hlv : cf xi54 xj54 < 0
        · have hdv : decide (cf xi54 xj54 < 0) = true := decide_eq_true hlv
          go_wp2_with fail
          go_quiet_grown (first | (go_at_fn g; refine Calls.grown_of (hcg54 _ _)))
          have S2 : Aside (SWK enc k w0 blk off d (grow (wr.drewN nq) osq)) := S1.out.grown nq osq
          clear l54a l54b hcg54 S1
          generalize grow (wr.drewN nq) osq = w2 at S2 ⊢
          go_wp2
          go_roundg (h - st)
          case measure => omega
          case rel => exact ⟨st, h, rfl, by first | rfl | (subst hhh; rfl) | (congr 1; omega), by omega, by omega, by omega, Nat.le_refl _, S2, HL, (.inr (by rw [hhh, hxi54, hxj54]; exact decide_eq_true hlv))⟩
        · have hdv : decide (cf xi54 xj54 < 0) = false := decide_eq_false (by omega)
          go_wp2_with fail
          go_quiet_grown (first | (go_at_fn g; refine Calls.grown_of (hcg54 _ _)))
          have S2 : Aside (SWK enc k w0 blk off d (grow (wr.drewN nq) osq)) := S1.out.grown nq osq
          clear l54a l54b hcg54 S1
          generalize grow (wr.drewN nq) osq = w2 at S2 ⊢
          go_wp2
          go_roundg (r - (h + 1))
          case measure => omega
          case rel => exact ⟨h + 1, r, by first | rfl | (subst hhh; rfl) | (congr 1; omega), rfl, by omega, by omega, by omega, Nat.le_refl _, S2, (.inr (by rw [Nat.add_sub_cancel, show n - (h + 1) = n - 1 - h by omega, hhh, hxi54, hxj54]; exact decide_eq_false (by omega))), HH⟩
      · have hltz : ¬ (st : Int) < (r : Int) := by omega
        obtain rfl : st = r := by omega
        obtain ⟨en, hen⟩ : ∃ x : Nat, x = n - st := ⟨_, rfl⟩
        have hlo : Aside (st = a ∨ en = b ∨ ltOf cf d[en]! d[st - 1]! = false) := by
          have := HN.out
          rcases HL.out with h | h
          · rcases HC.out with h2 | h2
            · exact .inr (.inl (by omega))
            · exact .inl (by omega)
          · exact .inr (.inr (by rw [hen]; exact h))
        have hhi : Aside (st = m ∨ en = m ∨ ltOf cf d[en - 1]! d[st]! = true) := by
          have := HN.out
          rcases HH.out with h | h
          · rcases HC.out with h2 | h2
            · exact .inr (.inl (by omega))
            · exact .inl (by omega)
          · exact .inr (.inr (by rw [show en - 1 = n - 1 - st by omega]; exact h))
        have hme : m ≤ en := by have := HN.out; rcases HC.out with h | h <;> omega
        have heb : en ≤ b := by have := HN.out; omega
        have hmide : mid ≤ en := by have := HN.out; omega
        have hsm : st ≤ m := by omega
        have hsmid : st ≤ mid := by omega
        have hsum : st + en = mid + m := by have := HN.out; omega
        have hase : a ≤ st := by omega
        have een : (n : Int) - (st : Int) = (en : Int) := by have := HN.out; omega
        clear HL HH HC hq1 hq2 hq3 hs0 hrm hrmid hnb has
        have HEN : Aside (en = n - st) := hen
        clear hen
        go_upto_region 39 with fail
        go_cut [24, 185] from 175 to 184 (fun s24 s185 wx => s24 = .int .i64 en ∧ s185 = .bool (decide (st < m) && decide (m < en)) ∧ Aside (SWK enc k w0 blk off d wx))
        case first =>
          by_cases c1 : st < m
          · have c1z : decide ((st : Int) < (m : Int)) = true := decide_eq_true (by omega)
            by_cases c2 : m < en
            · have c2z : decide ((m : Int) < (en : Int)) = true := decide_eq_true (by omega)
              go_wp2_with fail
              go_meet
              case rel => exact ⟨by first | rfl | simp [een], by simp [c1, c2], S1⟩
            · have c2z : decide ((m : Int) < (en : Int)) = false := decide_eq_false (by omega)
              go_wp2_with fail
              go_meet
              case rel => exact ⟨by first | rfl | simp [een], by simp [c1, c2], S1⟩
          · have c1z : decide ((st : Int) < (m : Int)) = false := decide_eq_false (by omega)
            go_wp2_with fail
            go_meet
            case rel => exact ⟨by first | rfl | simp [een], by simp [c1], S1⟩
        case rest =>
          clear S1
          obtain ⟨rfl, rfl, S1⟩ := hcut
          go_upto_if 185 with fail
          go_cut [] from 185 to 191 (fun wx => ∃ d1, Aside (RotIn d d1 st m en ∧ PermIn a b d d1) ∧ d1.size = d.size ∧ Aside (SWK enc k w0 blk off d1 wx))
          case first =>
            by_cases c1 : st < m ∧ m < en
            · have hb1 : (decide (st < m) && decide (m < en)) = true := by simp [c1.1, c1.2]
              have hcall := rotate L k aE zE enc g cb blk off cap st m en d0 d w0 wc R (by omega) S1.out c1.1 c1.2 (by omega) (by omega)
              clear S1
              go_wp2_with (go_at_fn 71; refine hcall.mono ?_; rintro e w1 ⟨rfl, d1, hI1, hP1, S2⟩)
              go_meet
              case rel => exact ⟨d1, ⟨hI1, permIn_mono _ _ _ _ _ _ (by omega) (by omega) (by omega) hP1⟩, hI1.size, S2⟩
            · have hb1 : (decide (st < m) && decide (m < en)) = false := by
                by_cases c2 : st < m
                · have : ¬ m < en := fun h => c1 ⟨c2, h⟩
                  simp [this]
                · simp [c2]
              go_wp2_with fail
              go_meet
              case rel => exact ⟨d, ⟨RotIn.deg d hsm hme (by omega), permIn_refl _ _ _⟩, rfl, S1⟩
          case rest =>
            clear S1
            obtain ⟨d1, HR, hds1, S1⟩ := hcut
            go_upto_region 41 with fail
            go_cut [199] from 192 to 198 (fun s wx => s = .bool (decide (a < st) && decide (st < mid)) ∧ Aside (SWK enc k w0 blk off d1 wx))
            case first =>
              by_cases c1 : a < st
              · have c1z : decide ((a : Int) < (st : Int)) = true := decide_eq_true (by omega)
                by_cases c2 : st < mid
                · have c2z : decide ((st : Int) < (mid : Int)) = true := decide_eq_true (by omega)
                  go_wp2_with fail
                  go_meet
                  case rel => exact ⟨by simp [c1, c2], S1⟩
                · have c2z : decide ((st : Int) < (mid : Int)) = false := decide_eq_false (by omega)
                  go_wp2_with fail
                  go_meet
                  case rel => exact ⟨by simp [c1, c2], S1⟩
              · have c1z : decide ((a : Int) < (st : Int)) = false := decide_eq_false (by omega)
                go_wp2_with fail
                go_meet
                case rel => exact ⟨by simp [c1], S1⟩
            case rest =>
              clear S1
              obtain ⟨rfl, S1⟩ := hcut
              go_upto_if 199 with fail
              go_cut [] from 199 to 205 (fun wx => ∃ d2, Aside (Merged (ltOf cf) d1 d2 a st mid) ∧ d2.size = d.size ∧ Aside (SWK enc k w0 blk off d2 wx))
              case first =>
                by_cases c1 : a < st ∧ st < mid
                · have hb1 : (decide (a < st) && decide (st < mid)) = true := by simp [c1.1, c1.2]
                  have hcall := ih.out a st mid d1 wc (by omega) (by omega) S1.out c1.1 c1.2 (by omega) (by omega)
                  rw [hds1] at hcall
                  clear S1
                  go_wp2_with (go_at_fn 64; refine hcall.mono ?_; rintro e w1 ⟨rfl, d2, hM2, S2⟩)
                  go_meet
                  case rel => exact ⟨d2, hM2, hM2.1.1.trans hds1, S2⟩
                · have hb1 : (decide (a < st) && decide (st < mid)) = false := by
                    by_cases c2 : a < st
                    · have : ¬ st < mid := fun h => c1 ⟨c2, h⟩
                      simp [this]
                    · simp [c2]
                  go_wp2_with fail
                  go_meet
                  case rel => exact ⟨d1, merged_none d1 (by omega), hds1, S1⟩
              case rest =>
                clear S1
                obtain ⟨d2, HM2, hds2, S1⟩ := hcut
                go_upto_region 43 with fail
                go_cut [213] from 206 to 212 (fun s wx => s = .bool (decide (mid < en) && decide (en < b)) ∧ Aside (SWK enc k w0 blk off d2 wx))
                case first =>
                  by_cases c1 : mid < en
                  · have c1z : decide ((mid : Int) < (en : Int)) = true := decide_eq_true (by omega)
                    by_cases c2 : en < b
                    · have c2z : decide ((en : Int) < (b : Int)) = true := decide_eq_true (by omega)
                      go_wp2_with fail
                      go_meet
                      case rel => exact ⟨by simp [c1, c2], S1⟩
                    · have c2z : decide ((en : Int) < (b : Int)) = false := decide_eq_false (by omega)
                      go_wp2_with fail
                      go_meet
                      case rel => exact ⟨by simp [c1, c2], S1⟩
                  · have c1z : decide ((mid : Int) < (en : Int)) = false := decide_eq_false (by omega)
                    go_wp2_with fail
                    go_meet
                    case rel => exact ⟨by simp [c1], S1⟩
                case rest =>
                  clear S1
                  obtain ⟨rfl, S1⟩ := hcut
                  go_upto_if 213 with fail
                  by_cases c1 : mid < en ∧ en < b
                  · have hb1 : (decide (mid < en) && decide (en < b)) = true := by simp [c1.1, c1.2]
                    have hcall := ih.out mid en b d2 wc (by omega) (by omega) S1.out c1.1 c1.2 (by omega) (by omega)
                    rw [hds2] at hcall
                    clear S1
                    go_wp2_with (go_at_fn 64; refine hcall.mono ?_; rintro e w1 ⟨rfl, d3, hM3, S2⟩)
                    go_end0
                    exact ⟨rfl, d3, merged_mid hO hb hase hsm hme heb hsum hlo.out hhi.out HR.out.2 HR.out.1 HM2.out hM3 hmab (by omega), S2⟩
                  · have hb1 : (decide (mid < en) && decide (en < b)) = false := by
                      by_cases c2 : mid < en
                      · have : ¬ en < b := fun h => c1 ⟨c2, h⟩
                        simp [this]
                      · simp [c2]
                    go_wp2_with fail
                    go_end0
                    exact ⟨rfl, d2, merged_mid hO hb hase hsm hme heb hsum hlo.out hhi.out HR.out.2 HR.out.1 HM2.out (merged_none d2 (by omega)) hmab (by omega), S1.out⟩

/-- slices.symMergeCmpFunc: the sorted blocks [a, m) and [m, b) are merged. -/
theorem symMerge (L : Laid P) (k : Nat) (aE : ∀ w, (isAgg 31).run P w = .ok true w) (zE : ∀ w, (Go.sizeOf 31).run P w = .ok k w) (enc : α → List Value) (cf : α → α → Int) (hO : SWO (ltOf cf)) (g : Nat) (cb : Array Value) (blk off cap : Nat) (d0 : Array α) (w0 : World)
    (eg : ∀ args w, (callFunc g args).run P w = .ok (.enter g args) w) (hcmp0 : CmpLays P g cb enc k cf blk off d0.size w0) (R : RowK enc k w0 blk off d0) :
    ∀ (N : Nat), (∀ (a m b : Nat) (d : Array α) (w : World), b - a < N → d0.size = d.size → SWK enc k w0 blk off d w → a < m → m < b → b ≤ d.size → d.size < 4611686018427387904 →
    Calls P 64 #[.slice (some ⟨blk, off, none⟩) d.size cap, .int .i64 a, .int .i64 m, .int .i64 b, .func (.func g) #[] cb] w fun e w' => e = .returned (.tuple #[]) ∧ ∃ d', Merged (ltOf cf) d d' a m b ∧ SWK enc k w0 blk off d' w') := by
  intro N
  induction N with
  | zero => intro _ _ _ _ _ h; exact absurd h (Nat.not_lt_zero _)
  | succ N ih =>
    intro a m b d w hN hs S ham hmb hb hsz
    by_cases h1 : m = a + 1
    · exact symOne L k aE zE enc cf hO g cb blk off cap d0 w0 eg hcmp0 R a m b d w hs S ham hmb hb hsz h1
    · by_cases h2 : b = m + 1
      · exact symLast L k aE zE enc cf hO g cb blk off cap d0 w0 eg hcmp0 R a m b d w hs S ham hmb hb hsz h1 h2
      · exact symMid L k aE zE enc cf hO g cb blk off cap d0 w0 eg hcmp0 R N ih a m b d w hN hs S ham hmb hb hsz h1 h2

/-- slices.insertionSortCmpFunc, from a world of the sort's to a world of the sort's. -/
theorem insertion (L : Laid P) (k : Nat) (aE : ∀ w, (isAgg 31).run P w = .ok true w) (zE : ∀ w, (Go.sizeOf 31).run P w = .ok k w) (enc : α → List Value) (cf : α → α → Int) (hO : SWO (ltOf cf)) (g : Nat) (cb : Array Value) (blk off cap a b : Nat) (d0 d : Array α) (w0 w : World)
    (eg : ∀ args w, (callFunc g args).run P w = .ok (.enter g args) w) (hcmp : CmpLays P g cb enc k cf blk off d0.size w0) (R : RowK enc k w0 blk off d0) (hs : d0.size = d.size) (S : SWK enc k w0 blk off d w) (hab : a ≤ b) (hb : b ≤ d.size) (hsz : d.size < 4611686018427387904) :
    Calls P 63 #[.slice (some ⟨blk, off, none⟩) d.size cap, .int .i64 a, .int .i64 b, .func (.func g) #[] cb] w fun e w' => e = .returned (.tuple #[]) ∧ ∃ d', PermIn a b d d' ∧ SortedIn (ltOf cf) a b d' ∧ SWK enc k w0 blk off d' w' := by
  have hi := insertionSort_holds hO d a b hab hb
  have hC : CmpLays P g cb enc k cf blk off d.size w := fun m os dk hdk x y => by
    obtain ⟨n0, os0, rfl⟩ := S
    rw [sortWorldK_on enc k w0 blk off n0 m d dk os0 os R.hblk hdk]
    exact hcmp _ _ dk (by omega) x y
  have h := AnyQ.insertionSortCmpFunc L.ins k aE zE enc R.hk R.h1 cf g cb blk off cap a b d w eg hC (S.holds R.hblk R.hH hs.symm) (S.lt R.hblk) hab hb hsz
  refine Calls.mono (show Calls P 63 _ _ _ from h) ?_
  rintro e w' ⟨rfl, n, os, rfl⟩
  exact ⟨rfl, _, hi.1, hi.2, S.on R.hblk n _ os hi.1.1⟩

set_option maxHeartbeats 8000000 in
set_option maxRecDepth 1000000 in
/-- slices.stableCmpFunc: the row is a permutation of what it was, in order. -/
theorem stable (L : Laid P) (k : Nat) (aE : ∀ w, (isAgg 31).run P w = .ok true w) (zE : ∀ w, (Go.sizeOf 31).run P w = .ok k w) (enc : α → List Value) (cf : α → α → Int) (hO : SWO (ltOf cf)) (g : Nat) (cb : Array Value) (blk off cap : Nat) (d : Array α) (w : World)
    (eg : ∀ args w, (callFunc g args).run P w = .ok (.enter g args) w) (hcmp0 : CmpLays P g cb enc k cf blk off d.size w) (R : RowK enc k w blk off d) (hsz : d.size < 1152921504606846976) :
    Calls P 54 #[.slice (some ⟨blk, off, none⟩) d.size cap, .int .i64 d.size, .func (.func g) #[] cb] w fun e w' => e = .returned (.tuple #[]) ∧ ∃ d', PermIn 0 d.size d d' ∧ SortedIn (ltOf cf) 0 d.size d' ∧ SWK enc k w blk off d' w' := by
  have mixed := L.mixed; have t0 := L.t0; have a0 := L.a0; have z0 := L.z0; have v0 := L.v0; have t3 := L.t3; have a3 := L.a3; have z3 := L.z3; have v3 := L.v3; have t4 := L.t4; have a4 := L.a4; have z4 := L.z4; have v4 := L.v4; have t22 := L.t22; have a22 := L.a22; have z22 := L.z22; have v22 := L.v22; have t25 := L.t25; have a25 := L.a25; have z25 := L.z25; have v25 := L.v25; have t39 := L.t39; have a39 := L.a39; have z39 := L.z39; have v39 := L.v39; have e21 := L.e21; have e22 := L.e22
  have FG := L.f17
  have hcmp : Aside (CmpLays P g cb enc k cf blk off d.size w) := hcmp0
  clear hcmp0
  have S0 : Aside (SWK enc k w blk off d w) := SWK.start R.hH
  obtain ⟨nn, hnn⟩ : ∃ x : Nat, x = d.size := ⟨_, rfl⟩
  have hN : Aside (nn = d.size) := hnn
  have hsz2 : nn < 1152921504606846976 := by omega
  rw [← hnn]
  clear hsz
  clear hnn
  go_enter FG, Tryd.ntmps54
  go_wp2
  go_loopg [7, 8] nn (fun kx s7 s8 wr => ∃ (c a b : Nat) (dk : Array α), s7 = .int .i64 a ∧ s8 = .int .i64 b ∧ Aside (b = a + 20) ∧ a ≤ nn ∧ nn - a ≤ kx ∧ Aside (dk.size = nn) ∧ Aside (SWK enc k w blk off dk wr) ∧ Aside (a = c * 20 ∧ PermIn 0 nn d dk ∧ Bl (ltOf cf) 20 0 (c * 20) dk))
  case atStart => exact ⟨0, 0, 20, d, rfl, rfl, (rfl : (20 : Nat) = 0 + 20), by omega, by omega, hN.out.symm, S0, ⟨rfl, permIn_refl _ _ _, by rw [Nat.zero_mul]; exact Bl.zero _ _ _ _⟩⟩
  case round =>
    clear S0
    obtain ⟨c, a, b, dk, rfl, rfl, hb, han, hkx, hds, S1, HI⟩ := hrel
    have hc1 := fun (e : Nat) (h1 : a ≤ e) (h2 : e ≤ nn) => insertion L k aE zE enc cf hO g cb blk off cap a e d dk w wr eg hcmp.out R (by have := hds.out; have := hN.out; omega) S1.out h1 (by have := hds.out; omega) (by have := hds.out; omega)
    rw [hds.out] at hc1
    by_cases hlt : b ≤ nn
    · have hltz : (b : Int) ≤ (nn : Int) := by omega
      have hcall := hc1 b (by have := hb.out; omega) hlt
      clear hc1 S1
      go_wp2_with (go_at_fn 63; refine hcall.mono ?_; rintro e w1 ⟨rfl, d1, hP, hS, S2⟩)
      have HI2 : Aside (PermIn a b dk d1 ∧ SortedIn (ltOf cf) a b d1) := ⟨hP, hS⟩
      have S2' : Aside (SWK enc k w blk off d1 w1) := S2
      clear hP hS S2
      go_wp2
      go_roundg (nn - b)
      case measure => have := hb.out; omega
      case rel =>
        obtain ⟨hA, hP0, hB⟩ := HI.out
        obtain ⟨hP1, hS1⟩ := HI2.out
        have hbc : b = (c + 1) * 20 := by have := hb.out; omega
        have hn0 := hds.out
        refine ⟨c + 1, b, b + 20, d1, rfl, by first | rfl | (simp; done) | (congr 1; omega), (rfl : b + 20 = b + 20), hlt, Nat.le_refl _, hP1.1.trans hds.out, S2', ⟨hbc, permIn_trans _ _ _ _ _ hP0 (permIn_mono _ _ _ _ _ _ (Nat.zero_le _) hlt (by omega) hP1), ?_⟩⟩
        rw [← hbc]
        exact Bl.snoc (by omega) hB (fun q hq => hP1.2.1 q (.inl (by omega))) (by rw [← hA]; exact hS1)
    · have hltz : ¬ (b : Int) ≤ (nn : Int) := by omega
      have hcall := hc1 nn (by have := hb.out; omega) (Nat.le_refl _)
      clear hc1 S1
      go_wp2_with (go_at_fn 63; refine hcall.mono ?_; rintro e w1 ⟨rfl, d1, hP, hS, S2⟩)
      have HB1 : Aside (d1.size = nn ∧ PermIn 0 nn d d1 ∧ Bl (ltOf cf) 20 0 nn d1) := by
        obtain ⟨hA, hP0, hB⟩ := HI.out
        have hn0 := hds.out
        exact ⟨hP.1.trans hds.out, permIn_trans _ _ _ _ _ hP0 (permIn_mono _ _ _ _ _ _ (Nat.zero_le _) (Nat.le_refl _) (by omega) hP), Bl.snoc (c := c) (by omega) hB (fun q hq => hP.2.1 q (.inl (by omega))) (by rw [← hA]; exact hS)⟩
      have S2' : Aside (SWK enc k w blk off d1 w1) := S2
      clear hP hS S2 HI hds hkx han hb hlt hltz
      go_loopg [6] nn (fun kx s6 wr => ∃ (bs : Nat) (dk : Array α), s6 = .int .i64 bs ∧ 20 ≤ bs ∧ bs < 2305843009213693952 ∧ nn - bs ≤ kx ∧ Aside (SWK enc k w blk off dk wr) ∧ Aside (dk.size = nn ∧ PermIn 0 nn d dk ∧ Bl (ltOf cf) bs 0 nn dk))
      case atStart => exact ⟨20, d1, rfl, by omega, by omega, by omega, S2', HB1⟩
      case round =>
        clear S2' HB1
        obtain ⟨bs, dk, rfl, hbs, hbs2, hkx, S1, HB⟩ := hrel
        by_cases hlt2 : bs < nn
        · have hltz2 : (bs : Int) < (nn : Int) := by omega
          go_wp2
          go_loopg [7, 8] nn (fun kx s7 s8 wr => ∃ (c a b : Nat) (dk : Array α), s7 = .int .i64 a ∧ s8 = .int .i64 b ∧ Aside (b = a + 2 * bs) ∧ a ≤ nn ∧ nn - a ≤ kx ∧ Aside (dk.size = nn) ∧ Aside (SWK enc k w blk off dk wr) ∧ Aside (a = c * (2 * bs) ∧ PermIn 0 nn d dk ∧ Bl (ltOf cf) (2 * bs) 0 (c * (2 * bs)) dk ∧ Bl (ltOf cf) bs a nn dk))
          case atStart => exact ⟨0, 0, 2 * bs, dk, rfl, by first | rfl | (simp; done), (show 2 * bs = 0 + 2 * bs by omega), by omega, by omega, HB.out.1, S1, ⟨by rw [Nat.zero_mul], HB.out.2.1, by rw [Nat.zero_mul]; exact Bl.zero _ _ _ _, HB.out.2.2⟩⟩
          case round =>
            clear S1 HB
            obtain ⟨c, a, b, dk, rfl, rfl, hb, han, hkx2, hds, S1, HI⟩ := hrel
            have hc1 := fun (m e : Nat) (h1 : a < m) (h2 : m < e) (h3 : e ≤ nn) => symMerge L k aE zE enc cf hO g cb blk off cap d w eg hcmp.out R (e - a + 1) a m e dk wr (by omega) (by have := hds.out; have := hN.out; omega) S1.out h1 h2 (by have := hds.out; omega) (by have := hds.out; omega)
            rw [hds.out] at hc1
            have hA2 : Aside (a = (2 * c) * bs) := by
              show a = (2 * c) * bs
              rw [HI.out.1, ← Nat.mul_assoc, Nat.mul_comm c 2]
            by_cases hlt3 : b ≤ nn
            · have hltz3 : (b : Int) ≤ (nn : Int) := by omega
              have hcall := hc1 (a + bs) b (by omega) (by have := hb.out; omega) hlt3
              rw [show ((a + bs : Nat) : Int) = (a : Int) + (bs : Int) by omega] at hcall
              clear hc1 S1
              go_wp2_with (go_at_fn 64; refine hcall.mono ?_; rintro e w1 ⟨rfl, d1, hM, S2⟩)
              have HM : Aside (Merged (ltOf cf) dk d1 a (a + bs) b) := hM
              have S2' : Aside (SWK enc k w blk off d1 w1) := S2
              clear hM S2
              go_wp2
              go_roundg (nn - b)
              case measure => have := hb.out; omega
              case rel =>
                obtain ⟨hA, hP0, hB, hR⟩ := HI.out
                have hb := hb.out
                have hM := HM.out
                have hA2' := hA2.out
                have hn0 := hds.out
                have hs1 : SortedIn (ltOf cf) a (a + bs) dk := by
                  have := Bl.sorted (c := 2 * c) (s := a + bs) hR (by omega) (by omega) (by omega)
                  rwa [← hA2'] at this
                have hs2 : SortedIn (ltOf cf) (a + bs) b dk := by
                  have e1 : (2 * c + 1) * bs = a + bs := by rw [Nat.add_mul, Nat.one_mul, ← hA2']
                  have := Bl.sorted (c := 2 * c + 1) (s := b) hR (by omega) (by omega) (by omega)
                  rwa [e1] at this
                have hbc : b = (c + 1) * (2 * bs) := by rw [Nat.add_mul, Nat.one_mul, ← hA]; exact hb
                refine ⟨c + 1, b, b + 2 * bs, d1, rfl, by first | rfl | (simp; done) | (congr 1; omega), (rfl : b + 2 * bs = b + 2 * bs), hlt3, Nat.le_refl _, hM.1.1.trans hds.out, S2', ⟨hbc, permIn_trans _ _ _ _ _ hP0 (permIn_mono _ _ _ _ _ _ (Nat.zero_le _) hlt3 (by omega) hM.1), ?_, hR.rest (by omega) (fun q hq => hM.1.2.1 q (.inr hq))⟩⟩
                rw [← hbc]
                exact Bl.snoc (by omega) hB (fun q hq => hM.1.2.1 q (.inl (by omega))) (by rw [← hA]; exact hM.2 hs1 hs2)
            · have hltz3 : ¬ (b : Int) ≤ (nn : Int) := by omega
              by_cases hm : a + bs < nn
              · have hmz : (a : Int) + (bs : Int) < (nn : Int) := by omega
                have hcall := hc1 (a + bs) nn (by omega) hm (Nat.le_refl _)
                rw [show ((a + bs : Nat) : Int) = (a : Int) + (bs : Int) by omega] at hcall
                clear hc1 S1
                go_wp2_with (go_at_fn 64; refine hcall.mono ?_; rintro e w1 ⟨rfl, d1, hM, S2⟩)
                have HM : Aside (Merged (ltOf cf) dk d1 a (a + bs) nn) := hM
                have S2' : Aside (SWK enc k w blk off d1 w1) := S2
                clear hM S2
                go_wp2
                go_roundg (nn - 2 * bs)
                case measure => omega
                case rel =>
                  obtain ⟨hA, hP0, hB, hR⟩ := HI.out
                  have hb := hb.out
                  have hM := HM.out
                  have hA2' := hA2.out
                  have hn0 := hds.out
                  have hs1 : SortedIn (ltOf cf) a (a + bs) dk := by
                    have := Bl.sorted (c := 2 * c) (s := a + bs) hR (by omega) (by omega) (by omega)
                    rwa [← hA2'] at this
                  have hs2 : SortedIn (ltOf cf) (a + bs) nn dk := by
                    have e1 : (2 * c + 1) * bs = a + bs := by rw [Nat.add_mul, Nat.one_mul, ← hA2']
                    have := Bl.sorted (c := 2 * c + 1) (s := nn) hR (by omega) (by omega) (by omega)
                    rwa [e1] at this
                  exact ⟨2 * bs, d1, by first | rfl | (simp; done) | (congr 1; omega), by omega, by omega, Nat.le_refl _, S2', ⟨hM.1.1.trans hds.out, permIn_trans _ _ _ _ _ hP0 (permIn_mono _ _ _ _ _ _ (Nat.zero_le _) (Nat.le_refl _) (by omega) hM.1), Bl.snoc (c := c) (by omega) hB (fun q hq => hM.1.2.1 q (.inl (by omega))) (by rw [← hA]; exact hM.2 hs1 hs2)⟩⟩
              · have hmz : ¬ ((a : Int) + (bs : Int) < (nn : Int)) := by omega
                clear hc1
                go_wp2
                go_roundg (nn - 2 * bs)
                case measure => omega
                case rel =>
                  obtain ⟨hA, hP0, hB, hR⟩ := HI.out
                  have hb := hb.out
                  have hA2' := hA2.out
                  have hs1 : SortedIn (ltOf cf) a nn dk := by
                    have := Bl.sorted (c := 2 * c) (s := nn) hR (by omega) (by omega) (by omega)
                    rwa [← hA2'] at this
                  exact ⟨2 * bs, dk, by first | rfl | (simp; done) | (congr 1; omega), by omega, by omega, Nat.le_refl _, S1, ⟨hds.out, hP0, Bl.snoc (c := c) (by omega) hB (fun q _ => rfl) (by rw [← hA]; exact hs1)⟩⟩
        · have hltz2 : ¬ (bs : Int) < (nn : Int) := by omega
          go_wp2
          go_end0
          exact ⟨rfl, dk, HB.out.2.1, Bl.all HB.out.2.2 (by omega), S1.out⟩

end Go.Proofs.YthgmicingbjemaaDoor.Sort
