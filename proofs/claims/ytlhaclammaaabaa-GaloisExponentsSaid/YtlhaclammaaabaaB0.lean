-- Written by a program of this session over the print of the kit.
import Derived.Test.YtlhaclammaaabaaY
namespace Go.Proofs.Ytlhaclammaaabaa.Pg
open Go.RowKit Go.Proofs.YtlhaclammaaabaaW.PrintWords Go.Proofs.YtlhaclammaaabaaW.PrintLast Go.Proofs.YtlhaclammaaabaaW.PrintMore
attribute [local go_sem] max2_int min2_int max_two min_two max_three min_three max_four min_four
set_option linter.unusedVariables false
set_option maxHeartbeats 8000000
set_option maxRecDepth 100000
set_option linter.unusedSimpArgs false
/-! ### galois_length: function 88 -/
def galois_length.l0 : Nat → Int → Int → Option (Int)
 | 0, _, _ => none
 | k + 1, x0, x3 => if x0 > 0 then (galois_length.l0 k (x0 / 2) (wrap64 (x3 + 1))) else (some x3)
def galois_length.f (k : Nat) (a0 : Int) : Option (Int) := galois_length.l0 k a0 0
theorem galois_length.mono_l : ∀ k, (∀ y0 y1, LeO (galois_length.l0 k y0 y1) (galois_length.l0 (k + 1) y0 y1))
 | 0 => fun _ _ r h => by simp [galois_length.l0] at h
 | k + 1 => by
  have ih0 := galois_length.mono_l k
  ·intro y0 y1
   unfold galois_length.l0
   exact zMo
theorem galois_length.mono : ∀ a0 k, LeO (galois_length.f k a0) (galois_length.f (k + 1) a0) := by
 intro a0 k
 have ih0 := galois_length.mono_l k
 unfold galois_length.f
 exact zMo
theorem galois_length.calls (k : Nat) (a0 : Int) (r : Int) (w : World) (h : galois_length.f k a0 = some r) :
  Calls Try.prog 88 #[.int .i64 a0] w fun e w' => e = .returned (.int .i64 r) ∧ Drawn0 w w' := by
 have H := h
 unfold galois_length.f at H
 clear h
 have H' := zA H
 clear H
 go_enter Try.func88, Try.ntmps88
 go_wp2
 go_loopg [0, 3] k (fun kq v0 v3 w' => ∃ (x0_1 : Int) (x3_1 : Int), v0 = .int .i64 x0_1 ∧ v3 = .int .i64 x3_1 ∧ Aside0 (galois_length.l0 kq x0_1 x3_1 = some r) ∧ Aside0 (kq ≤ k) ∧ Drawn0 w w')
 case atStart => exact ⟨(a0), (0), zR, zR, H', ⟨Nat.le_refl _⟩, by repeat (first | exact Drawn0.refl _ | apply Drawn0.step)⟩
 case round =>
  clear H'
  obtain ⟨x0_1, x3_1, rfl, rfl, HA, HK1, ⟨m1, rfl⟩⟩ := hrel
  cases gk with
  | zero => exact absurd HA.out (by simp [galois_length.l0])
  | succ k1 =>
   have H := HA.out
   clear HA
   simp only [galois_length.l0] at H
   by_cases c2 : x0_1 > 0
   ·rw [if_pos c2] at H
    have c2b0 : decide (0 < x0_1) = true := decide_eq_true c2
    clear c2
    have H' := zA H
    clear H
    go_wp2
    go_roundg k1
    case measure => have := HK1.out; omega
    case rel => exact ⟨(x0_1 / 2), (wrap64 (x3_1 + 1)), zR, zR, H', zH, by repeat (first | exact Drawn0.refl _ | apply Drawn0.step)⟩
   ·rw [if_neg c2] at H
    have c2b0 : decide (0 < x0_1) = false := decide_eq_false c2
    clear c2
    obtain rfl := Option.some.inj H
    go_wp2
    go_ret
    exact ⟨by first | rfl | (simp; done) | (simp [*]; done), by repeat (first | exact Drawn0.refl _ | apply Drawn0.step)⟩
/-! ### galois_reduce: function 127 -/
def galois_reduce.l0 : Nat → Int → Int → Int → Int → Option (Int)
 | 0, _, _, _, _ => none
 | k + 1, x0, x1, x5, x6 => if x6 ≥ x5 then (if 0 ≤ (wrap64 (x6 - x5)) then ((galois_length.f k (Go.bits .xor .i64 x0 (shl .i64 x1 (wrap64 (x6 - x5))))).bind fun t103 => (galois_reduce.l0 k (Go.bits .xor .i64 x0 (shl .i64 x1 (wrap64 (x6 - x5)))) x1 x5 t103)) else (none)) else (some x0)
def galois_reduce.f (k : Nat) (a0 : Int) (a1 : Int) : Option (Int) := (galois_length.f k a1).bind fun t101 => ((galois_length.f k a0).bind fun t102 => (galois_reduce.l0 k a0 a1 t101 t102))
theorem galois_reduce.mono_l : ∀ k, (∀ y0 y1 y2 y3, LeO (galois_reduce.l0 k y0 y1 y2 y3) (galois_reduce.l0 (k + 1) y0 y1 y2 y3))
 | 0 => fun _ _ _ _ r h => by simp [galois_reduce.l0] at h
 | k + 1 => by
  have ih0 := galois_reduce.mono_l k
  ·intro y0 y1 y2 y3
   unfold galois_reduce.l0
   have m0_ := @galois_length.mono
   exact zMo
theorem galois_reduce.mono : ∀ a0 a1 k, LeO (galois_reduce.f k a0 a1) (galois_reduce.f (k + 1) a0 a1) := by
 intro a0 a1 k
 have ih0 := galois_reduce.mono_l k
 unfold galois_reduce.f
 have m0_ := @galois_length.mono
 exact zMo
theorem galois_reduce.calls (k : Nat) (a0 : Int) (a1 : Int) (r : Int) (w : World) (h : galois_reduce.f k a0 a1 = some r) :
  Calls Try.prog 127 #[.int .i64 a0, .int .i64 a1] w fun e w' => e = .returned (.int .i64 r) ∧ Drawn0 w w' := by
 have H := h
 unfold galois_reduce.f at H
 clear h
 obtain ⟨t101, A3, H⟩ := zD H
 obtain ⟨t102, A4, H⟩ := zD H
 have H' := zA H
 clear H
 go_enter Try.func127, Try.ntmps127
 go_wp2_with (first | ((with_reducible refine gate_callee (f := 88) rfl ?_); refine gL (some 8) Try.func88 #[.int .i64 a1] ?_; (with_reducible refine (galois_length.calls k a1 t101 _ A3.out).mono ?_); rintro e w' ⟨rfl, ⟨nd, rfl⟩⟩; refine ⟨_, rfl, ?_⟩) | ((with_reducible refine gate_callee (f := 88) rfl ?_); refine gL (some 10) Try.func88 #[.int .i64 a0] ?_; (with_reducible refine (galois_length.calls k a0 t102 _ A4.out).mono ?_); rintro e w' ⟨rfl, ⟨nd, rfl⟩⟩; refine ⟨_, rfl, ?_⟩))
 go_loopg [0, 6] k (fun kq v0 v6 w' => ∃ (x0_1 : Int) (x6_1 : Int), v0 = .int .i64 x0_1 ∧ v6 = .int .i64 x6_1 ∧ Aside0 (galois_reduce.l0 kq x0_1 a1 t101 x6_1 = some r) ∧ Aside0 (kq ≤ k) ∧ Drawn0 w w')
 case atStart => exact ⟨(a0), (t102), zR, zR, H', ⟨Nat.le_refl _⟩, by repeat (first | exact Drawn0.refl _ | apply Drawn0.step)⟩
 case round =>
  clear H'
  try clear c1
  try clear p2
  obtain ⟨x0_1, x6_1, rfl, rfl, HA, HK1, ⟨m1, rfl⟩⟩ := hrel
  cases gk with
  | zero => exact absurd HA.out (by simp [galois_reduce.l0])
  | succ k1 =>
   have H := HA.out
   clear HA
   simp only [galois_reduce.l0] at H
   by_cases c5 : x6_1 ≥ t101
   ·rw [if_pos c5] at H
    have c5b0 : decide (t101 ≤ x6_1) = true := decide_eq_true c5
    clear c5
    obtain ⟨ji6, hji6⟩ : ∃ j_ : Int, (wrap64 (x6_1 - t101)) = j_ := ⟨_, rfl⟩
    first | rw [hji6] at H | simp only [hji6] at H
    have hji6w : (IntKind.i64.wrap (x6_1 - t101)) = ji6 := (i64_w _).trans hji6
    by_cases c7 : 0 ≤ (ji6)
    ·rw [if_pos c7] at H
     have c7b0 := eq_true c7
     have c7b1 : decide (0 ≤ (ji6)) = true := decide_eq_true c7
     clear c7
     obtain ⟨ji8, hji8⟩ : ∃ j_ : Int, (shl .i64 a1 (ji6)) = j_ := ⟨_, rfl⟩
     first | rw [hji8] at H | simp only [hji8] at H
     have hji8_ : (IntKind.i64.wrap (a1 * 2 ^ min (ji6).toNat 64)) = ji8 := hji8
     have hji8z : (ji6) ≤ 64 → (IntKind.i64.wrap (a1 * 2 ^ (ji6).toNat)) = ji8 := shl_small hji8
     have hji8y : (wrap64 (a1 * 2 ^ min (ji6).toNat 64)) = ji8 := (i64_w _).symm.trans hji8_
     have hji8x : (ji6) ≤ 64 → (wrap64 (a1 * 2 ^ (ji6).toNat)) = ji8 := fun h_ => (i64_w _).symm.trans (hji8z h_)
     obtain ⟨t103, A9, H⟩ := zD H
     have H' := zA H
     clear H
     go_wp2_with (first | ((with_reducible refine gate_callee (f := 88) rfl ?_); refine goesL_ (some 15) rfl rfl Try.func88 (by kernel_rfl) rfl #[.int .i64 (Go.bits .xor .i64 x0_1 (ji8))] rfl (by (try simp only [List.map_toArray, List.map_cons, List.map_nil]); first | done | (simp only [hji8]; rfl) | rfl | (simp only [List.length_drop, List.length_take]; rfl)) ?_; (with_reducible refine (galois_length.calls k1 (Go.bits .xor .i64 x0_1 (ji8)) t103 _ A9.out).mono ?_); rintro e w' ⟨rfl, ⟨nd, rfl⟩⟩; refine ⟨_, rfl, ?_⟩))
     go_roundg k1
     case measure => have := HK1.out; omega
     case rel => exact ⟨(Go.bits .xor .i64 x0_1 (ji8)), (t103), (by first | rfl | (simp; done) | (simp only [← hji8] <;> (first | rfl | simp)) | (simp [*]; done)), zR, H', zH, by repeat (first | exact Drawn0.refl _ | apply Drawn0.step)⟩
    ·rw [if_neg c7] at H
     exact absurd H (by simp)
   ·rw [if_neg c5] at H
    have c5b0 : decide (t101 ≤ x6_1) = false := decide_eq_false c5
    clear c5
    obtain rfl := Option.some.inj H
    go_wp2
    go_ret
    exact ⟨by first | rfl | (simp; done) | (simp [*]; done), by repeat (first | exact Drawn0.refl _ | apply Drawn0.step)⟩
/-! ### galois_irreducible: function 84 -/
def galois_irreducible.l0 : Nat → Int → Int → Int → Option (Bool)
 | 0, _, _, _ => none
 | k + 1, x0, x3, x4 => (galois_length.f k x4).bind fun t105 => (if (wrap64 (2 * (wrap64 (t105 - 1)))) ≤ x3 then ((galois_reduce.f k x0 x4).bind fun t106 => (if t106 = 0 then (some false) else (galois_irreducible.l0 k x0 x3 (wrap64 (x4 + 1))))) else (some true))
def galois_irreducible.f (k : Nat) (a0 : Int) : Option (Bool) := (galois_length.f k a0).bind fun t104 => (if (wrap64 (t104 - 1)) < 1 then (some false) else (galois_irreducible.l0 k a0 (wrap64 (t104 - 1)) 2))
theorem galois_irreducible.mono_l : ∀ k, (∀ y0 y1 y2, LeO (galois_irreducible.l0 k y0 y1 y2) (galois_irreducible.l0 (k + 1) y0 y1 y2))
 | 0 => fun _ _ _ r h => by simp [galois_irreducible.l0] at h
 | k + 1 => by
  have ih0 := galois_irreducible.mono_l k
  ·intro y0 y1 y2
   unfold galois_irreducible.l0
   have m0_ := @galois_length.mono
   have m1_ := @galois_reduce.mono
   exact zMo
theorem galois_irreducible.mono : ∀ a0 k, LeO (galois_irreducible.f k a0) (galois_irreducible.f (k + 1) a0) := by
 intro a0 k
 have ih0 := galois_irreducible.mono_l k
 unfold galois_irreducible.f
 have m0_ := @galois_length.mono
 have m1_ := @galois_reduce.mono
 exact zMo
theorem galois_irreducible.calls (k : Nat) (a0 : Int) (r : Bool) (w : World) (h : galois_irreducible.f k a0 = some r) :
  Calls Try.prog 84 #[.int .i64 a0] w fun e w' => e = .returned (.bool r) ∧ Drawn0 w w' := by
 have H := h
 unfold galois_irreducible.f at H
 clear h
 obtain ⟨t104, A2, H⟩ := zD H
 by_cases c3 : (wrap64 (t104 - 1)) < 1
 ·rw [if_pos c3] at H
  have c3b0 : decide ((wrap64 (t104 - 1)) < 1) = true := decide_eq_true c3
  clear c3
  obtain rfl := Option.some.inj H
  go_enter Try.func84, Try.ntmps84
  go_wp2_with (first | ((with_reducible refine gate_callee (f := 88) rfl ?_); refine gL (some 6) Try.func88 #[.int .i64 a0] ?_; (with_reducible refine (galois_length.calls k a0 t104 _ A2.out).mono ?_); rintro e w' ⟨rfl, ⟨nd, rfl⟩⟩; refine ⟨_, rfl, ?_⟩))
  go_ret
  exact ⟨by first | rfl | (simp; done) | (simp [*]; done), by repeat (first | exact Drawn0.refl _ | apply Drawn0.step)⟩
 ·rw [if_neg c3] at H
  have c3b0 : decide ((wrap64 (t104 - 1)) < 1) = false := decide_eq_false c3
  clear c3
  have H' := zA H
  clear H
  go_enter Try.func84, Try.ntmps84
  go_wp2_with (first | ((with_reducible refine gate_callee (f := 88) rfl ?_); refine gL (some 6) Try.func88 #[.int .i64 a0] ?_; (with_reducible refine (galois_length.calls k a0 t104 _ A2.out).mono ?_); rintro e w' ⟨rfl, ⟨nd, rfl⟩⟩; refine ⟨_, rfl, ?_⟩))
  go_loopg [4] k (fun kq v4 w' => ∃ (x4_1 : Int), v4 = .int .i64 x4_1 ∧ Aside0 (galois_irreducible.l0 kq a0 (wrap64 (t104 - 1)) x4_1 = some r) ∧ Aside0 (kq ≤ k) ∧ Drawn0 w w')
  case atStart => exact ⟨(2), zR, H', ⟨Nat.le_refl _⟩, by repeat (first | exact Drawn0.refl _ | apply Drawn0.step)⟩
  case round =>
   clear H'
   try clear p2
   try clear c3
   try clear c3b0
   obtain ⟨x4_1, rfl, HA, HK1, ⟨m1, rfl⟩⟩ := hrel
   cases gk with
   | zero => exact absurd HA.out (by simp [galois_irreducible.l0])
   | succ k1 =>
    have H := HA.out
    clear HA
    simp only [galois_irreducible.l0] at H
    obtain ⟨t105, A4, H⟩ := zD H
    by_cases c5 : (wrap64 (2 * (wrap64 (t105 - 1)))) ≤ (wrap64 (t104 - 1))
    ·rw [if_pos c5] at H
     have c5b0 : decide ((wrap64 (2 * (wrap64 (t105 - 1)))) ≤ (wrap64 (t104 - 1))) = true := decide_eq_true c5
     clear c5
     obtain ⟨t106, A6, H⟩ := zD H
     by_cases c7 : t106 = 0
     ·rw [if_pos c7] at H
      have c7b0 := beq_iff_eq.mpr c7
      have c7b1 := bne_eq_false_iff_eq.mpr c7
      clear c7
      obtain rfl := Option.some.inj H
      go_wp2_with (first | ((with_reducible refine gate_callee (f := 88) rfl ?_); refine gL (some 11) Try.func88 #[.int .i64 x4_1] ?_; (with_reducible refine (galois_length.calls k1 x4_1 t105 _ A4.out).mono ?_); rintro e w' ⟨rfl, ⟨nd, rfl⟩⟩; refine ⟨_, rfl, ?_⟩) | ((with_reducible refine gate_callee (f := 127) rfl ?_); refine gL (some 20) Try.func127 #[.int .i64 a0, .int .i64 x4_1] ?_; (with_reducible refine (galois_reduce.calls k1 a0 x4_1 t106 _ A6.out).mono ?_); rintro e w' ⟨rfl, ⟨nd, rfl⟩⟩; refine ⟨_, rfl, ?_⟩))
      go_ret
      exact ⟨by first | rfl | (simp; done) | (simp [*]; done), by repeat (first | exact Drawn0.refl _ | apply Drawn0.step)⟩
     ·rw [if_neg c7] at H
      have c7b0 := beq_eq_false_iff_ne.mpr c7
      have c7b1 := bne_iff_ne.mpr c7
      have H' := zA H
      clear H
      go_wp2_with (first | ((with_reducible refine gate_callee (f := 88) rfl ?_); refine gL (some 11) Try.func88 #[.int .i64 x4_1] ?_; (with_reducible refine (galois_length.calls k1 x4_1 t105 _ A4.out).mono ?_); rintro e w' ⟨rfl, ⟨nd, rfl⟩⟩; refine ⟨_, rfl, ?_⟩) | ((with_reducible refine gate_callee (f := 127) rfl ?_); refine gL (some 20) Try.func127 #[.int .i64 a0, .int .i64 x4_1] ?_; (with_reducible refine (galois_reduce.calls k1 a0 x4_1 t106 _ A6.out).mono ?_); rintro e w' ⟨rfl, ⟨nd, rfl⟩⟩; refine ⟨_, rfl, ?_⟩))
      go_roundg k1
      case measure => have := HK1.out; omega
      case rel => exact ⟨(wrap64 (x4_1 + 1)), zR, H', zH, by repeat (first | exact Drawn0.refl _ | apply Drawn0.step)⟩
    ·rw [if_neg c5] at H
     have c5b0 : decide ((wrap64 (2 * (wrap64 (t105 - 1)))) ≤ (wrap64 (t104 - 1))) = false := decide_eq_false c5
     clear c5
     obtain rfl := Option.some.inj H
     go_wp2_with (first | ((with_reducible refine gate_callee (f := 88) rfl ?_); refine gL (some 11) Try.func88 #[.int .i64 x4_1] ?_; (with_reducible refine (galois_length.calls k1 x4_1 t105 _ A4.out).mono ?_); rintro e w' ⟨rfl, ⟨nd, rfl⟩⟩; refine ⟨_, rfl, ?_⟩))
     go_ret
     exact ⟨by first | rfl | (simp; done) | (simp [*]; done), by repeat (first | exact Drawn0.refl _ | apply Drawn0.step)⟩
/-! ### galois_Binary: function 21 -/
def galois_Binary.j0 : Nat → Int → Int → Bool → Option (Int × Int × Int × Int)
 | 0, _, _, _ => none
 | k + 1, x0, x1, x11 => if x11 = true then (some (0, 0, 0, 3)) else (if 0 ≤ x0 then (if x1 < (shl .i64 1 x0) then (some (0, 0, 0, 38)) else (if x1 ≥ (shl .i64 2 x0) then (some (0, 0, 0, 38)) else ((galois_irreducible.f k x1).bind fun t108 => (if t108 = true then (some (2, shl .i64 1 x0, x1, 0)) else (some (0, 0, 0, 38)))))) else (none))
def galois_Binary.f (k : Nat) (a0 : Int) (a1 : Int) : Option (Int × Int × Int × Int) := if a0 < 1 then (galois_Binary.j0 k a0 a1 true) else (galois_Binary.j0 k a0 a1 (decide (a0 > 12)))
theorem galois_Binary.mono_l : ∀ k, (∀ y0 y1 y2, LeO (galois_Binary.j0 k y0 y1 y2) (galois_Binary.j0 (k + 1) y0 y1 y2))
 | 0 => fun _ _ _ r h => by simp [galois_Binary.j0] at h
 | k + 1 => by
  have ih0 := galois_Binary.mono_l k
  ·intro y0 y1 y2
   unfold galois_Binary.j0
   have m0_ := @galois_irreducible.mono
   exact zMo
theorem galois_Binary.mono : ∀ a0 a1 k, LeO (galois_Binary.f k a0 a1) (galois_Binary.f (k + 1) a0 a1) := by
 intro a0 a1 k
 have ih0 := galois_Binary.mono_l k
 unfold galois_Binary.f
 have m0_ := @galois_irreducible.mono
 exact zMo
theorem galois_Binary.calls (k : Nat) (a0 : Int) (a1 : Int) (r1 : Int) (r2 : Int) (r3 : Int) (r4 : Int) (w : World) (h : galois_Binary.f k a0 a1 = some (r1, r2, r3, r4)) :
  Calls Try.prog 21 #[.int .i64 a0, .int .i64 a1] w fun e w' => e = .returned (.tuple #[.agg #[.int .i64 r1, .int .i64 r2, .int .i64 r3], .int .i64 r4]) ∧ Below w.heap.size w w' := by
 have hu23 := Try.underlying23
 have HB := Aside0.mk (Below.refl w.heap.size w)
 have H := h
 unfold galois_Binary.f at H
 clear h
 have HC3 := Aside0.mk H
 clear H
 go_enter Try.func21, Try.ntmps21
 go_upto_region 1 with (first | ((with_reducible refine gate_dst (N := 4) rfl ?_); refine zBox 4 #[.int .i64 0, .int .i64 0, .int .i64 0] 23 ?_; clear HB; intro gb107 w4 BK107 GE107 HB))
 (try simp only [Act.put, List.setIfInBounds_toArray, List.set_cons_zero, List.set_cons_succ])
 go_cut [11] (fun v11 wc => ∃ (kq : Nat) (x11_2 : Bool), v11 = .bool x11_2 ∧ Aside0 (galois_Binary.j0 kq a0 a1 x11_2 = some (r1, r2, r3, r4)) ∧ Aside0 (kq ≤ k) ∧ Aside0 (wc.heap[gb107]? = some (.cells #[.int .i64 0, .int .i64 0, .int .i64 0] 23 (0, 0))) ∧ Aside0 (Below w.heap.size w wc))
 case first =>
  have H := HC3.out
  clear HC3
  by_cases c5 : a0 < 1
  ·rw [if_pos c5] at H
   have c5b0 : decide (a0 < 1) = true := decide_eq_true c5
   clear c5
   (first | rw [c5b0] | (simp only [i64_w, i32_w]; rw [c5b0]) | skip)
   have H' := zA H
   clear H
   go_wp2
   go_meet
   case rel => exact ⟨_, (true), zR, H', zL, ⟨zK BK107⟩, ⟨zB⟩⟩
  ·rw [if_neg c5] at H
   have c5b0 : decide (a0 < 1) = false := decide_eq_false c5
   clear c5
   (first | rw [c5b0] | (simp only [i64_w, i32_w]; rw [c5b0]) | skip)
   have H' := zA H
   clear H
   go_wp2
   go_meet
   case rel => exact ⟨_, (decide (a0 > 12)), zR, H', zL, ⟨zK BK107⟩, ⟨zB⟩⟩
 case rest =>
  clear HC3
  try clear c2
  try clear p2
  try clear c5
  try clear c5b0
  obtain ⟨kq, x11_2, rfl, HA, HJ2, BK107, HB⟩ := hcut
  cases kq with
  | zero => exact absurd HA.out (by simp [galois_Binary.j0])
  | succ kj2 =>
   have H := HA.out
   clear HA
   simp only [galois_Binary.j0] at H
   by_cases c6 : x11_2 = true
   ·subst c6
    rw [if_pos rfl] at H
    simp only [Option.some.injEq, Prod.mk.injEq] at H
    obtain ⟨rfl, rfl, rfl, rfl⟩ := H
    (try clear z107_0 z107_1 z107_2 f107_0 f107_1 f107_2)
    obtain ⟨z107_0, z107_1, z107_2, f107_0, f107_1, f107_2⟩ := cz3 BK107
    go_wp2
    refine bodyPost_ret (results_ct rfl _ _ gb107 23 #[.int .i64 0, .int .i64 0, .int .i64 0] (0, 0) _ rfl (zK BK107) Try.underlying23 rfl (by kernel_rfl)) rfl ?_
    exact ⟨zE, zB⟩
   ·replace c6 := Bool.eq_false_iff.mpr c6
    subst c6
    rw [if_neg (show ¬ (false = true) by decide)] at H
    by_cases c8 : 0 ≤ a0
    ·rw [if_pos c8] at H
     have c8b0 := eq_true c8
     have c8b1 : decide (0 ≤ a0) = true := decide_eq_true c8
     clear c8
     obtain ⟨ji9, hji9⟩ : ∃ j_ : Int, (shl .i64 1 a0) = j_ := ⟨_, rfl⟩
     first | rw [hji9] at H | simp only [hji9] at H
     have hji9_ : (IntKind.i64.wrap (1 * 2 ^ min a0.toNat 64)) = ji9 := hji9
     have hji9z : a0 ≤ 64 → (IntKind.i64.wrap (1 * 2 ^ a0.toNat)) = ji9 := shl_small hji9
     have hji9u : (IntKind.i64.wrap (2 ^ min a0.toNat 64)) = ji9 := by have h_ := hji9_; rw [Int.one_mul] at h_; exact h_
     have hji9v : a0 ≤ 64 → (IntKind.i64.wrap (2 ^ a0.toNat)) = ji9 := fun hle_ => by have h_ := hji9z hle_; rw [Int.one_mul] at h_; exact h_
     have hji9y : (wrap64 (1 * 2 ^ min a0.toNat 64)) = ji9 := (i64_w _).symm.trans hji9_
     have hji9x : a0 ≤ 64 → (wrap64 (1 * 2 ^ a0.toNat)) = ji9 := fun h_ => (i64_w _).symm.trans (hji9z h_)
     by_cases c10 : a1 < (ji9)
     ·rw [if_pos c10] at H
      have c10b0 : decide (a1 < (ji9)) = true := decide_eq_true c10
      clear c10
      simp only [Option.some.injEq, Prod.mk.injEq] at H
      obtain ⟨rfl, rfl, rfl, rfl⟩ := H
      (try clear z107_0 z107_1 z107_2 f107_0 f107_1 f107_2)
      obtain ⟨z107_0, z107_1, z107_2, f107_0, f107_1, f107_2⟩ := cz3 BK107
      go_wp2
      refine bodyPost_ret (results_ct rfl _ _ gb107 23 #[.int .i64 0, .int .i64 0, .int .i64 0] (0, 0) _ rfl (zK BK107) Try.underlying23 rfl (by kernel_rfl)) rfl ?_
      exact ⟨by first | rfl | (simp [errW_none, errW_some] <;> rfl) | (simp only [← hji9]; first | rfl | (simp [errW_none, errW_some] <;> rfl)) | (simp [*, errW_none, errW_some] <;> rfl), zB⟩
     ·rw [if_neg c10] at H
      have c10b0 : decide (a1 < (ji9)) = false := decide_eq_false c10
      clear c10
      have c12b0 := eq_true (of_decide_eq_true (by first | (with_reducible assumption) | assumption) : 0 ≤ a0)
      obtain ⟨ji13, hji13⟩ : ∃ j_ : Int, (shl .i64 2 a0) = j_ := ⟨_, rfl⟩
      first | rw [hji13] at H | simp only [hji13] at H
      have hji13_ : (IntKind.i64.wrap (2 * 2 ^ min a0.toNat 64)) = ji13 := hji13
      have hji13z : a0 ≤ 64 → (IntKind.i64.wrap (2 * 2 ^ a0.toNat)) = ji13 := shl_small hji13
      have hji13y : (wrap64 (2 * 2 ^ min a0.toNat 64)) = ji13 := (i64_w _).symm.trans hji13_
      have hji13x : a0 ≤ 64 → (wrap64 (2 * 2 ^ a0.toNat)) = ji13 := fun h_ => (i64_w _).symm.trans (hji13z h_)
      by_cases c14 : a1 ≥ (ji13)
      ·rw [if_pos c14] at H
       have c14b0 : decide ((ji13) ≤ a1) = true := decide_eq_true c14
       clear c14
       simp only [Option.some.injEq, Prod.mk.injEq] at H
       obtain ⟨rfl, rfl, rfl, rfl⟩ := H
       (try clear z107_0 z107_1 z107_2 f107_0 f107_1 f107_2)
       obtain ⟨z107_0, z107_1, z107_2, f107_0, f107_1, f107_2⟩ := cz3 BK107
       go_wp2
       refine bodyPost_ret (results_ct rfl _ _ gb107 23 #[.int .i64 0, .int .i64 0, .int .i64 0] (0, 0) _ rfl (zK BK107) Try.underlying23 rfl (by kernel_rfl)) rfl ?_
       exact ⟨by first | rfl | (simp [errW_none, errW_some] <;> rfl) | (simp only [← hji9, ← hji13]; first | rfl | (simp [errW_none, errW_some] <;> rfl)) | (simp [*, errW_none, errW_some] <;> rfl), zB⟩
      ·rw [if_neg c14] at H
       have c14b0 : decide ((ji13) ≤ a1) = false := decide_eq_false c14
       clear c14
       obtain ⟨t108, A16, H⟩ := zD H
       by_cases c17 : t108 = true
       ·subst c17
        rw [if_pos rfl] at H
        have c18b0 := eq_true (of_decide_eq_true (by first | (with_reducible assumption) | assumption) : 0 ≤ a0)
        simp only [Option.some.injEq, Prod.mk.injEq] at H
        obtain ⟨rfl, rfl, rfl, rfl⟩ := H
        go_wp2_with (first | (go_at_call 84; (with_reducible refine (galois_irreducible.calls kj2 a1 true _ A16.out).mono ?_); rintro e w' ⟨rfl, ⟨nd, rfl⟩⟩; (try (rw [drewN_self wc]; generalize hq_ : World.drewN wc _ = wc; have n0_ : Aside0 (wc.heap[gb107]? = some (.cells #[.int .i64 0, .int .i64 0, .int .i64 0] 23 (0, 0))) := ⟨by rw [← hq_]; exact (zK BK107)⟩; have n1_ : Aside0 (Below w.heap.size w wc) := ⟨by rw [← hq_]; exact zB⟩; clear BK107 HB hq_; have BK107 := n0_; have HB := n1_; clear n0_ n1_)); (try clear z107_0 z107_1 z107_2 f107_0 f107_1 f107_2); obtain ⟨z107_0, z107_1, z107_2, f107_0, f107_1, f107_2⟩ := cz3 BK107))
        refine bodyPost_ret (results_ct rfl _ _ gb107 23 #[.int .i64 2, .int .i64 ji9, .int .i64 a1] (0, 0) _ rfl (zK BK107) Try.underlying23 rfl (by kernel_rfl)) rfl ?_
        exact ⟨by first | rfl | (simp [errW_none, errW_some] <;> rfl) | (simp only [← hji9, ← hji13]; first | rfl | (simp [errW_none, errW_some] <;> rfl)) | (simp [*, errW_none, errW_some] <;> rfl), zB⟩
       ·replace c17 := Bool.eq_false_iff.mpr c17
        subst c17
        rw [if_neg (show ¬ (false = true) by decide)] at H
        simp only [Option.some.injEq, Prod.mk.injEq] at H
        obtain ⟨rfl, rfl, rfl, rfl⟩ := H
        go_wp2_with (first | (go_at_call 84; (with_reducible refine (galois_irreducible.calls kj2 a1 false _ A16.out).mono ?_); rintro e w' ⟨rfl, ⟨nd, rfl⟩⟩; (try (rw [drewN_self wc]; generalize hq_ : World.drewN wc _ = wc; have n0_ : Aside0 (wc.heap[gb107]? = some (.cells #[.int .i64 0, .int .i64 0, .int .i64 0] 23 (0, 0))) := ⟨by rw [← hq_]; exact (zK BK107)⟩; have n1_ : Aside0 (Below w.heap.size w wc) := ⟨by rw [← hq_]; exact zB⟩; clear BK107 HB hq_; have BK107 := n0_; have HB := n1_; clear n0_ n1_)); (try clear z107_0 z107_1 z107_2 f107_0 f107_1 f107_2); obtain ⟨z107_0, z107_1, z107_2, f107_0, f107_1, f107_2⟩ := cz3 BK107))
        refine bodyPost_ret (results_ct rfl _ _ gb107 23 #[.int .i64 0, .int .i64 0, .int .i64 0] (0, 0) _ rfl (zK BK107) Try.underlying23 rfl (by kernel_rfl)) rfl ?_
        exact ⟨by first | rfl | (simp [errW_none, errW_some] <;> rfl) | (simp only [← hji9, ← hji13]; first | rfl | (simp [errW_none, errW_some] <;> rfl)) | (simp [*, errW_none, errW_some] <;> rfl), zB⟩
    ·rw [if_neg c8] at H
     exact absurd H (by simp)
/-! ### barscanref04_degree: function 89 -/
def barscanref04_degree.l0 : Nat → Int → Int → Option (Int)
 | 0, _, _ => none
 | k + 1, x0, x3 => if x0 > 0 then (barscanref04_degree.l0 k (wrap64 (Int.tdiv x0 2)) (wrap64 (x3 + 1))) else (some x3)
def barscanref04_degree.f (k : Nat) (a0 : Int) : Option (Int) := barscanref04_degree.l0 k a0 (-1)
theorem barscanref04_degree.mono_l : ∀ k, (∀ y0 y1, LeO (barscanref04_degree.l0 k y0 y1) (barscanref04_degree.l0 (k + 1) y0 y1))
 | 0 => fun _ _ r h => by simp [barscanref04_degree.l0] at h
 | k + 1 => by
  have ih0 := barscanref04_degree.mono_l k
  ·intro y0 y1
   unfold barscanref04_degree.l0
   exact zMo
theorem barscanref04_degree.mono : ∀ a0 k, LeO (barscanref04_degree.f k a0) (barscanref04_degree.f (k + 1) a0) := by
 intro a0 k
 have ih0 := barscanref04_degree.mono_l k
 unfold barscanref04_degree.f
 exact zMo
theorem barscanref04_degree.calls (k : Nat) (a0 : Int) (r : Int) (w : World) (h : barscanref04_degree.f k a0 = some r) :
  Calls Try.prog 89 #[.int .i64 a0] w fun e w' => e = .returned (.int .i64 r) ∧ Drawn0 w w' := by
 have H := h
 unfold barscanref04_degree.f at H
 clear h
 have H' := zA H
 clear H
 go_enter Try.func89, Try.ntmps89
 go_wp2
 go_loopg [0, 3] k (fun kq v0 v3 w' => ∃ (x0_1 : Int) (x3_1 : Int), v0 = .int .i64 x0_1 ∧ v3 = .int .i64 x3_1 ∧ Aside0 (barscanref04_degree.l0 kq x0_1 x3_1 = some r) ∧ Aside0 (kq ≤ k) ∧ Drawn0 w w')
 case atStart => exact ⟨(a0), ((-1)), zR, zR, H', ⟨Nat.le_refl _⟩, by repeat (first | exact Drawn0.refl _ | apply Drawn0.step)⟩
 case round =>
  clear H'
  obtain ⟨x0_1, x3_1, rfl, rfl, HA, HK1, ⟨m1, rfl⟩⟩ := hrel
  cases gk with
  | zero => exact absurd HA.out (by simp [barscanref04_degree.l0])
  | succ k1 =>
   have H := HA.out
   clear HA
   simp only [barscanref04_degree.l0] at H
   by_cases c2 : x0_1 > 0
   ·rw [if_pos c2] at H
    have c2b0 : decide (0 < x0_1) = true := decide_eq_true c2
    clear c2
    have H' := zA H
    clear H
    go_wp2
    go_roundg k1
    case measure => have := HK1.out; omega
    case rel => exact ⟨(wrap64 (Int.tdiv x0_1 2)), (wrap64 (x3_1 + 1)), zR, zR, H', zH, by repeat (first | exact Drawn0.refl _ | apply Drawn0.step)⟩
   ·rw [if_neg c2] at H
    have c2b0 : decide (0 < x0_1) = false := decide_eq_false c2
    clear c2
    obtain rfl := Option.some.inj H
    go_wp2
    go_ret
    exact ⟨by first | rfl | (simp; done) | (simp [*]; done), by repeat (first | exact Drawn0.refl _ | apply Drawn0.step)⟩
/-! ### barscanref04_rest: function 128 -/
def barscanref04_rest.l0 : Nat → Int → Int → Int → Int → Option (Int)
 | 0, _, _, _, _ => none
 | k + 1, x0, x1, x5, x6 => if x6 ≥ x5 then (if 0 ≤ (IntKind.u64.wrap (x6)) then (if (Go.bits .and .i64 (shr .i64 x0 (IntKind.u64.wrap (x6))) 1) = 1 then (if 0 ≤ (IntKind.u64.wrap (wrap64 (x6 - x5))) then (barscanref04_rest.l0 k (Go.bits .xor .i64 x0 (shl .i64 x1 (IntKind.u64.wrap (wrap64 (x6 - x5))))) x1 x5 (wrap64 (x6 - 1))) else (none)) else (barscanref04_rest.l0 k x0 x1 x5 (wrap64 (x6 - 1)))) else (none)) else (some x0)
def barscanref04_rest.f (k : Nat) (a0 : Int) (a1 : Int) : Option (Int) := (barscanref04_degree.f k a1).bind fun t109 => ((barscanref04_degree.f k a0).bind fun t110 => (barscanref04_rest.l0 k a0 a1 t109 t110))
theorem barscanref04_rest.mono_l : ∀ k, (∀ y0 y1 y2 y3, LeO (barscanref04_rest.l0 k y0 y1 y2 y3) (barscanref04_rest.l0 (k + 1) y0 y1 y2 y3))
 | 0 => fun _ _ _ _ r h => by simp [barscanref04_rest.l0] at h
 | k + 1 => by
  have ih0 := barscanref04_rest.mono_l k
  ·intro y0 y1 y2 y3
   unfold barscanref04_rest.l0
   have m0_ := @barscanref04_degree.mono
   exact zMo
theorem barscanref04_rest.mono : ∀ a0 a1 k, LeO (barscanref04_rest.f k a0 a1) (barscanref04_rest.f (k + 1) a0 a1) := by
 intro a0 a1 k
 have ih0 := barscanref04_rest.mono_l k
 unfold barscanref04_rest.f
 have m0_ := @barscanref04_degree.mono
 exact zMo
theorem barscanref04_rest.calls (k : Nat) (a0 : Int) (a1 : Int) (r : Int) (w : World) (h : barscanref04_rest.f k a0 a1 = some r) :
  Calls Try.prog 128 #[.int .i64 a0, .int .i64 a1] w fun e w' => e = .returned (.int .i64 r) ∧ Drawn0 w w' := by
 have H := h
 unfold barscanref04_rest.f at H
 clear h
 obtain ⟨t109, A3, H⟩ := zD H
 obtain ⟨t110, A4, H⟩ := zD H
 have H' := zA H
 clear H
 go_enter Try.func128, Try.ntmps128
 go_wp2_with (first | ((with_reducible refine gate_callee (f := 89) rfl ?_); refine gL (some 8) Try.func89 #[.int .i64 a1] ?_; (with_reducible refine (barscanref04_degree.calls k a1 t109 _ A3.out).mono ?_); rintro e w' ⟨rfl, ⟨nd, rfl⟩⟩; refine ⟨_, rfl, ?_⟩) | ((with_reducible refine gate_callee (f := 89) rfl ?_); refine gL (some 10) Try.func89 #[.int .i64 a0] ?_; (with_reducible refine (barscanref04_degree.calls k a0 t110 _ A4.out).mono ?_); rintro e w' ⟨rfl, ⟨nd, rfl⟩⟩; refine ⟨_, rfl, ?_⟩))
 go_loopg [0, 6] k (fun kq v0 v6 w' => ∃ (x0_1 : Int) (x6_1 : Int), v0 = .int .i64 x0_1 ∧ v6 = .int .i64 x6_1 ∧ Aside0 (barscanref04_rest.l0 kq x0_1 a1 t109 x6_1 = some r) ∧ Aside0 (kq ≤ k) ∧ Drawn0 w w')
 case atStart => exact ⟨(a0), (t110), zR, zR, H', ⟨Nat.le_refl _⟩, by repeat (first | exact Drawn0.refl _ | apply Drawn0.step)⟩
 case round =>
  clear H'
  try clear c1
  try clear p2
  obtain ⟨x0_1, x6_1, rfl, rfl, HA, HK1, ⟨m1, rfl⟩⟩ := hrel
  cases gk with
  | zero => exact absurd HA.out (by simp [barscanref04_rest.l0])
  | succ k1 =>
   have H := HA.out
   clear HA
   simp only [barscanref04_rest.l0] at H
   by_cases c5 : x6_1 ≥ t109
   ·rw [if_pos c5] at H
    have c5b0 : decide (t109 ≤ x6_1) = true := decide_eq_true c5
    clear c5
    obtain ⟨ji6, hji6⟩ : ∃ j_ : Int, (IntKind.u64.wrap (x6_1)) = j_ := ⟨_, rfl⟩
    first | rw [hji6] at H | simp only [hji6] at H
    by_cases c7 : 0 ≤ (ji6)
    ·rw [if_pos c7] at H
     have c7b0 := eq_true c7
     have c7b1 : decide (0 ≤ (ji6)) = true := decide_eq_true c7
     clear c7
     obtain ⟨ji8, hji8⟩ : ∃ j_ : Int, (shr .i64 x0_1 (ji6)) = j_ := ⟨_, rfl⟩
     first | rw [hji8] at H | simp only [hji8] at H
     have hji8_ : (x0_1 / 2 ^ min (ji6).toNat 64) = ji8 := hji8
     have hji8z : (ji6) ≤ 64 → (x0_1 / 2 ^ (ji6).toNat) = ji8 := shr_small hji8
     by_cases c9 : (Go.bits .and .i64 (ji8) 1) = 1
     ·rw [if_pos c9] at H
      have c9b0 := beq_iff_eq.mpr c9
      have c9b1 := bne_eq_false_iff_eq.mpr c9
      clear c9
      obtain ⟨ji10, hji10⟩ : ∃ j_ : Int, (IntKind.u64.wrap (wrap64 (x6_1 - t109))) = j_ := ⟨_, rfl⟩
      first | rw [hji10] at H | simp only [hji10] at H
      by_cases c11 : 0 ≤ (ji10)
      ·rw [if_pos c11] at H
       have c11b0 := eq_true c11
       have c11b1 : decide (0 ≤ (ji10)) = true := decide_eq_true c11
       clear c11
       obtain ⟨ji12, hji12⟩ : ∃ j_ : Int, (shl .i64 a1 (ji10)) = j_ := ⟨_, rfl⟩
       first | rw [hji12] at H | simp only [hji12] at H
       have hji12_ : (IntKind.i64.wrap (a1 * 2 ^ min (ji10).toNat 64)) = ji12 := hji12
       have hji12z : (ji10) ≤ 64 → (IntKind.i64.wrap (a1 * 2 ^ (ji10).toNat)) = ji12 := shl_small hji12
       have hji12y : (wrap64 (a1 * 2 ^ min (ji10).toNat 64)) = ji12 := (i64_w _).symm.trans hji12_
       have hji12x : (ji10) ≤ 64 → (wrap64 (a1 * 2 ^ (ji10).toNat)) = ji12 := fun h_ => (i64_w _).symm.trans (hji12z h_)
       have H' := zA H
       clear H
       go_wp2
       go_roundg k1
       case measure => have := HK1.out; omega
       case rel => exact ⟨(Go.bits .xor .i64 x0_1 (ji12)), (wrap64 (x6_1 - 1)), (by first | rfl | (simp; done) | (simp only [← hji12] <;> (first | rfl | simp)) | (simp [*]; done)), zR, H', zH, by repeat (first | exact Drawn0.refl _ | apply Drawn0.step)⟩
      ·rw [if_neg c11] at H
       exact absurd H (by simp)
     ·rw [if_neg c9] at H
      have c9b0 := beq_eq_false_iff_ne.mpr c9
      have c9b1 := bne_iff_ne.mpr c9
      have H' := zA H
      clear H
      go_wp2
      go_roundg k1
      case measure => have := HK1.out; omega
      case rel => exact ⟨(x0_1), (wrap64 (x6_1 - 1)), zR, zR, H', zH, by repeat (first | exact Drawn0.refl _ | apply Drawn0.step)⟩
    ·rw [if_neg c7] at H
     exact absurd H (by simp)
   ·rw [if_neg c5] at H
    have c5b0 : decide (t109 ≤ x6_1) = false := decide_eq_false c5
    clear c5
    obtain rfl := Option.some.inj H
    go_wp2
    go_ret
    exact ⟨by first | rfl | (simp; done) | (simp [*]; done), by repeat (first | exact Drawn0.refl _ | apply Drawn0.step)⟩
/-! ### barscanref04_irreducible: function 85 -/
mutual
def barscanref04_irreducible.j0 : Nat → Int → Int → Bool → Option (Bool)
 | 0, _, _, _ => none
 | k + 1, x0, x1, x13 => if x13 = true then (some false) else (barscanref04_irreducible.l0 k x0 x1 2)
def barscanref04_irreducible.l0 : Nat → Int → Int → Int → Option (Bool)
 | 0, _, _, _ => none
 | k + 1, x0, x1, x5 => (barscanref04_degree.f k x5).bind fun t112 => (if (wrap64 (2 * t112)) ≤ x1 then ((barscanref04_rest.f k x0 x5).bind fun t113 => (if t113 = 0 then (some false) else (barscanref04_irreducible.l0 k x0 x1 (wrap64 (x5 + 1))))) else (some true))
end
def barscanref04_irreducible.f (k : Nat) (a0 : Int) (a1 : Int) : Option (Bool) := if a0 < 0 then (barscanref04_irreducible.j0 k a0 a1 true) else ((barscanref04_degree.f k a0).bind fun t111 => (barscanref04_irreducible.j0 k a0 a1 (t111 != a1)))
theorem barscanref04_irreducible.mono_l : ∀ k, (∀ y0 y1 y2, LeO (barscanref04_irreducible.j0 k y0 y1 y2) (barscanref04_irreducible.j0 (k + 1) y0 y1 y2)) ∧ (∀ y0 y1 y2, LeO (barscanref04_irreducible.l0 k y0 y1 y2) (barscanref04_irreducible.l0 (k + 1) y0 y1 y2))
 | 0 => ⟨fun _ _ _ r h => by simp [barscanref04_irreducible.j0] at h, fun _ _ _ r h => by simp [barscanref04_irreducible.l0] at h⟩
 | k + 1 => by
  obtain ⟨ih0, ih1⟩ := barscanref04_irreducible.mono_l k
  refine ⟨?_, ?_⟩
  ·intro y0 y1 y2
   unfold barscanref04_irreducible.j0
   have m0_ := @barscanref04_degree.mono
   have m1_ := @barscanref04_rest.mono
   exact zMo
  ·intro y0 y1 y2
   unfold barscanref04_irreducible.l0
   have m0_ := @barscanref04_degree.mono
   have m1_ := @barscanref04_rest.mono
   exact zMo
theorem barscanref04_irreducible.mono : ∀ a0 a1 k, LeO (barscanref04_irreducible.f k a0 a1) (barscanref04_irreducible.f (k + 1) a0 a1) := by
 intro a0 a1 k
 obtain ⟨ih0, ih1⟩ := barscanref04_irreducible.mono_l k
 unfold barscanref04_irreducible.f
 have m0_ := @barscanref04_degree.mono
 have m1_ := @barscanref04_rest.mono
 exact zMo
theorem barscanref04_irreducible.calls (k : Nat) (a0 : Int) (a1 : Int) (r : Bool) (w : World) (h : barscanref04_irreducible.f k a0 a1 = some r) :
  Calls Try.prog 85 #[.int .i64 a0, .int .i64 a1] w fun e w' => e = .returned (.bool r) ∧ Drawn0 w w' := by
 have H := h
 unfold barscanref04_irreducible.f at H
 clear h
 have HC3 := Aside0.mk H
 clear H
 go_enter Try.func85, Try.ntmps85
 go_upto_region 1 with (fail)
 go_cut [13] (fun v13 wc => ∃ (kq : Nat) (x13_2 : Bool), v13 = .bool x13_2 ∧ Aside0 (barscanref04_irreducible.j0 kq a0 a1 x13_2 = some r) ∧ Aside0 (kq ≤ k) ∧ Drawn0 w wc)
 case first =>
  have H := HC3.out
  clear HC3
  by_cases c4 : a0 < 0
  ·rw [if_pos c4] at H
   have c4b0 : decide (a0 < 0) = true := decide_eq_true c4
   clear c4
   (first | rw [c4b0] | (simp only [i64_w, i32_w]; rw [c4b0]) | skip)
   have H' := zA H
   clear H
   go_wp2
   go_meet
   case rel => exact ⟨_, (true), zR, H', zL, by repeat (first | exact Drawn0.refl _ | apply Drawn0.step)⟩
  ·rw [if_neg c4] at H
   have c4b0 : decide (a0 < 0) = false := decide_eq_false c4
   clear c4
   (first | rw [c4b0] | (simp only [i64_w, i32_w]; rw [c4b0]) | skip)
   obtain ⟨t111, A5, H⟩ := zD H
   have H' := zA H
   clear H
   go_wp2_with (first | (go_at_call 89; (with_reducible refine (barscanref04_degree.calls k a0 t111 _ A5.out).mono ?_); rintro e w' ⟨rfl, ⟨nd, rfl⟩⟩))
   go_meet
   case rel => exact ⟨_, ((t111 != a1)), zR, H', zL, by repeat (first | exact Drawn0.refl _ | apply Drawn0.step)⟩
 case rest =>
  clear HC3
  try clear p2
  try clear c4
  try clear c4b0
  obtain ⟨kq, x13_2, rfl, HA, HJ2, ⟨mc2, rfl⟩⟩ := hcut
  cases kq with
  | zero => exact absurd HA.out (by simp [barscanref04_irreducible.j0])
  | succ kj2 =>
   have H := HA.out
   clear HA
   simp only [barscanref04_irreducible.j0] at H
   by_cases c6 : x13_2 = true
   ·subst c6
    rw [if_pos rfl] at H
    obtain rfl := Option.some.inj H
    go_wp2
    go_ret
    exact ⟨by first | rfl | (simp; done) | (simp [*]; done), by repeat (first | exact Drawn0.refl _ | apply Drawn0.step)⟩
   ·replace c6 := Bool.eq_false_iff.mpr c6
    subst c6
    rw [if_neg (show ¬ (false = true) by decide)] at H
    have H' := zA H
    clear H
    go_wp2
    go_loopg [5] kj2 (fun kq v5 w' => ∃ (x5_2 : Int), v5 = .int .i64 x5_2 ∧ Aside0 (barscanref04_irreducible.l0 kq a0 a1 x5_2 = some r) ∧ Aside0 (kq ≤ kj2) ∧ Drawn0 w w')
    case atStart => exact ⟨(2), zR, H', ⟨Nat.le_refl _⟩, by repeat (first | exact Drawn0.refl _ | apply Drawn0.step)⟩
    case round =>
     clear H'
     try clear c2
     try clear p2
     try clear c4
     try clear c4b0
     try clear c6
     try clear p2
     obtain ⟨x5_2, rfl, HA, HK2, ⟨m2, rfl⟩⟩ := hrel
     cases gk with
     | zero => exact absurd HA.out (by simp [barscanref04_irreducible.l0])
     | succ k2 =>
      have H := HA.out
      clear HA
      simp only [barscanref04_irreducible.l0] at H
      obtain ⟨t112, A7, H⟩ := zD H
      by_cases c8 : (wrap64 (2 * t112)) ≤ a1
      ·rw [if_pos c8] at H
       have c8b0 : decide ((wrap64 (2 * t112)) ≤ a1) = true := decide_eq_true c8
       clear c8
       obtain ⟨t113, A9, H⟩ := zD H
       by_cases c10 : t113 = 0
       ·rw [if_pos c10] at H
        have c10b0 := beq_iff_eq.mpr c10
        have c10b1 := bne_eq_false_iff_eq.mpr c10
        clear c10
        obtain rfl := Option.some.inj H
        go_wp2_with (first | ((with_reducible refine gate_callee (f := 89) rfl ?_); refine gL (some 15) Try.func89 #[.int .i64 x5_2] ?_; (with_reducible refine (barscanref04_degree.calls k2 x5_2 t112 _ A7.out).mono ?_); rintro e w' ⟨rfl, ⟨nd, rfl⟩⟩; refine ⟨_, rfl, ?_⟩) | ((with_reducible refine gate_callee (f := 128) rfl ?_); refine gL (some 23) Try.func128 #[.int .i64 a0, .int .i64 x5_2] ?_; (with_reducible refine (barscanref04_rest.calls k2 a0 x5_2 t113 _ A9.out).mono ?_); rintro e w' ⟨rfl, ⟨nd, rfl⟩⟩; refine ⟨_, rfl, ?_⟩))
        go_ret
        exact ⟨by first | rfl | (simp; done) | (simp [*]; done), by repeat (first | exact Drawn0.refl _ | apply Drawn0.step)⟩
       ·rw [if_neg c10] at H
        have c10b0 := beq_eq_false_iff_ne.mpr c10
        have c10b1 := bne_iff_ne.mpr c10
        have H' := zA H
        clear H
        go_wp2_with (first | ((with_reducible refine gate_callee (f := 89) rfl ?_); refine gL (some 15) Try.func89 #[.int .i64 x5_2] ?_; (with_reducible refine (barscanref04_degree.calls k2 x5_2 t112 _ A7.out).mono ?_); rintro e w' ⟨rfl, ⟨nd, rfl⟩⟩; refine ⟨_, rfl, ?_⟩) | ((with_reducible refine gate_callee (f := 128) rfl ?_); refine gL (some 23) Try.func128 #[.int .i64 a0, .int .i64 x5_2] ?_; (with_reducible refine (barscanref04_rest.calls k2 a0 x5_2 t113 _ A9.out).mono ?_); rintro e w' ⟨rfl, ⟨nd, rfl⟩⟩; refine ⟨_, rfl, ?_⟩))
        go_roundg k2
        case measure => have := HJ2.out; have := HK2.out; omega
        case rel => exact ⟨(wrap64 (x5_2 + 1)), zR, H', ⟨by have := HJ2.out; have := HK2.out; omega⟩, by repeat (first | exact Drawn0.refl _ | apply Drawn0.step)⟩
      ·rw [if_neg c8] at H
       have c8b0 : decide ((wrap64 (2 * t112)) ≤ a1) = false := decide_eq_false c8
       clear c8
       obtain rfl := Option.some.inj H
       go_wp2_with (first | ((with_reducible refine gate_callee (f := 89) rfl ?_); refine gL (some 15) Try.func89 #[.int .i64 x5_2] ?_; (with_reducible refine (barscanref04_degree.calls k2 x5_2 t112 _ A7.out).mono ?_); rintro e w' ⟨rfl, ⟨nd, rfl⟩⟩; refine ⟨_, rfl, ?_⟩))
       go_ret
       exact ⟨by first | rfl | (simp; done) | (simp [*]; done), by repeat (first | exact Drawn0.refl _ | apply Drawn0.step)⟩
/-! ### barscanref04_Binary: function 22 -/
def barscanref04_Binary.j0 : Nat → Int → Int → Bool → Option (Int × Int × Int × Int)
 | 0, _, _, _ => none
 | k + 1, x0, x1, x11 => if x11 = true then (some (0, 0, 0, 3)) else (if 0 ≤ (IntKind.u64.wrap (wrap64 (x0 + 1))) then (if x1 ≥ (shl .i64 1 (IntKind.u64.wrap (wrap64 (x0 + 1)))) then (some (0, 0, 0, 38)) else ((barscanref04_irreducible.f k x1 x0).bind fun t115 => (if t115 = true then (if 0 ≤ (IntKind.u64.wrap (x0)) then (some (2, shl .i64 1 (IntKind.u64.wrap (x0)), x1, 0)) else (none)) else (some (0, 0, 0, 38))))) else (none))
def barscanref04_Binary.f (k : Nat) (a0 : Int) (a1 : Int) : Option (Int × Int × Int × Int) := if a0 < 1 then (barscanref04_Binary.j0 k a0 a1 true) else (barscanref04_Binary.j0 k a0 a1 (decide (a0 > 12)))
theorem barscanref04_Binary.mono_l : ∀ k, (∀ y0 y1 y2, LeO (barscanref04_Binary.j0 k y0 y1 y2) (barscanref04_Binary.j0 (k + 1) y0 y1 y2))
 | 0 => fun _ _ _ r h => by simp [barscanref04_Binary.j0] at h
 | k + 1 => by
  have ih0 := barscanref04_Binary.mono_l k
  ·intro y0 y1 y2
   unfold barscanref04_Binary.j0
   have m0_ := @barscanref04_irreducible.mono
   exact zMo
theorem barscanref04_Binary.mono : ∀ a0 a1 k, LeO (barscanref04_Binary.f k a0 a1) (barscanref04_Binary.f (k + 1) a0 a1) := by
 intro a0 a1 k
 have ih0 := barscanref04_Binary.mono_l k
 unfold barscanref04_Binary.f
 have m0_ := @barscanref04_irreducible.mono
 exact zMo
theorem barscanref04_Binary.calls (k : Nat) (a0 : Int) (a1 : Int) (r1 : Int) (r2 : Int) (r3 : Int) (r4 : Int) (w : World) (h : barscanref04_Binary.f k a0 a1 = some (r1, r2, r3, r4)) :
  Calls Try.prog 22 #[.int .i64 a0, .int .i64 a1] w fun e w' => e = .returned (.tuple #[.agg #[.int .i64 r1, .int .i64 r2, .int .i64 r3], .int .i64 r4]) ∧ Below w.heap.size w w' := by
 have hu23 := Try.underlying23
 have HB := Aside0.mk (Below.refl w.heap.size w)
 have H := h
 unfold barscanref04_Binary.f at H
 clear h
 have HC3 := Aside0.mk H
 clear H
 go_enter Try.func22, Try.ntmps22
 go_upto_region 1 with (first | ((with_reducible refine gate_dst (N := 4) rfl ?_); refine zBox 4 #[.int .i64 0, .int .i64 0, .int .i64 0] 23 ?_; clear HB; intro gb114 w4 BK114 GE114 HB))
 (try simp only [Act.put, List.setIfInBounds_toArray, List.set_cons_zero, List.set_cons_succ])
 go_cut [11] (fun v11 wc => ∃ (kq : Nat) (x11_2 : Bool), v11 = .bool x11_2 ∧ Aside0 (barscanref04_Binary.j0 kq a0 a1 x11_2 = some (r1, r2, r3, r4)) ∧ Aside0 (kq ≤ k) ∧ Aside0 (wc.heap[gb114]? = some (.cells #[.int .i64 0, .int .i64 0, .int .i64 0] 23 (0, 0))) ∧ Aside0 (Below w.heap.size w wc))
 case first =>
  have H := HC3.out
  clear HC3
  by_cases c5 : a0 < 1
  ·rw [if_pos c5] at H
   have c5b0 : decide (a0 < 1) = true := decide_eq_true c5
   clear c5
   (first | rw [c5b0] | (simp only [i64_w, i32_w]; rw [c5b0]) | skip)
   have H' := zA H
   clear H
   go_wp2
   go_meet
   case rel => exact ⟨_, (true), zR, H', zL, ⟨zK BK114⟩, ⟨zB⟩⟩
  ·rw [if_neg c5] at H
   have c5b0 : decide (a0 < 1) = false := decide_eq_false c5
   clear c5
   (first | rw [c5b0] | (simp only [i64_w, i32_w]; rw [c5b0]) | skip)
   have H' := zA H
   clear H
   go_wp2
   go_meet
   case rel => exact ⟨_, (decide (a0 > 12)), zR, H', zL, ⟨zK BK114⟩, ⟨zB⟩⟩
 case rest =>
  clear HC3
  try clear c2
  try clear p2
  try clear c5
  try clear c5b0
  obtain ⟨kq, x11_2, rfl, HA, HJ2, BK114, HB⟩ := hcut
  cases kq with
  | zero => exact absurd HA.out (by simp [barscanref04_Binary.j0])
  | succ kj2 =>
   have H := HA.out
   clear HA
   simp only [barscanref04_Binary.j0] at H
   by_cases c6 : x11_2 = true
   ·subst c6
    rw [if_pos rfl] at H
    simp only [Option.some.injEq, Prod.mk.injEq] at H
    obtain ⟨rfl, rfl, rfl, rfl⟩ := H
    (try clear z114_0 z114_1 z114_2 f114_0 f114_1 f114_2)
    obtain ⟨z114_0, z114_1, z114_2, f114_0, f114_1, f114_2⟩ := cz3 BK114
    go_wp2
    refine bodyPost_ret (results_ct rfl _ _ gb114 23 #[.int .i64 0, .int .i64 0, .int .i64 0] (0, 0) _ rfl (zK BK114) Try.underlying23 rfl (by kernel_rfl)) rfl ?_
    exact ⟨zE, zB⟩
   ·replace c6 := Bool.eq_false_iff.mpr c6
    subst c6
    rw [if_neg (show ¬ (false = true) by decide)] at H
    obtain ⟨ji8, hji8⟩ : ∃ j_ : Int, (IntKind.u64.wrap (wrap64 (a0 + 1))) = j_ := ⟨_, rfl⟩
    first | rw [hji8] at H | simp only [hji8] at H
    by_cases c9 : 0 ≤ (ji8)
    ·rw [if_pos c9] at H
     have c9b0 := eq_true c9
     have c9b1 : decide (0 ≤ (ji8)) = true := decide_eq_true c9
     clear c9
     obtain ⟨ji10, hji10⟩ : ∃ j_ : Int, (shl .i64 1 (ji8)) = j_ := ⟨_, rfl⟩
     first | rw [hji10] at H | simp only [hji10] at H
     have hji10_ : (IntKind.i64.wrap (1 * 2 ^ min (ji8).toNat 64)) = ji10 := hji10
     have hji10z : (ji8) ≤ 64 → (IntKind.i64.wrap (1 * 2 ^ (ji8).toNat)) = ji10 := shl_small hji10
     have hji10u : (IntKind.i64.wrap (2 ^ min (ji8).toNat 64)) = ji10 := by have h_ := hji10_; rw [Int.one_mul] at h_; exact h_
     have hji10v : (ji8) ≤ 64 → (IntKind.i64.wrap (2 ^ (ji8).toNat)) = ji10 := fun hle_ => by have h_ := hji10z hle_; rw [Int.one_mul] at h_; exact h_
     have hji10y : (wrap64 (1 * 2 ^ min (ji8).toNat 64)) = ji10 := (i64_w _).symm.trans hji10_
     have hji10x : (ji8) ≤ 64 → (wrap64 (1 * 2 ^ (ji8).toNat)) = ji10 := fun h_ => (i64_w _).symm.trans (hji10z h_)
     by_cases c11 : a1 ≥ (ji10)
     ·rw [if_pos c11] at H
      have c11b0 : decide ((ji10) ≤ a1) = true := decide_eq_true c11
      clear c11
      simp only [Option.some.injEq, Prod.mk.injEq] at H
      obtain ⟨rfl, rfl, rfl, rfl⟩ := H
      (try clear z114_0 z114_1 z114_2 f114_0 f114_1 f114_2)
      obtain ⟨z114_0, z114_1, z114_2, f114_0, f114_1, f114_2⟩ := cz3 BK114
      go_wp2
      refine bodyPost_ret (results_ct rfl _ _ gb114 23 #[.int .i64 0, .int .i64 0, .int .i64 0] (0, 0) _ rfl (zK BK114) Try.underlying23 rfl (by kernel_rfl)) rfl ?_
      exact ⟨by first | rfl | (simp [errW_none, errW_some] <;> rfl) | (simp only [← hji8, ← hji10]; first | rfl | (simp [errW_none, errW_some] <;> rfl)) | (simp [*, errW_none, errW_some] <;> rfl), zB⟩
     ·rw [if_neg c11] at H
      have c11b0 : decide ((ji10) ≤ a1) = false := decide_eq_false c11
      clear c11
      obtain ⟨t115, A13, H⟩ := zD H
      by_cases c14 : t115 = true
      ·subst c14
       rw [if_pos rfl] at H
       obtain ⟨ji15, hji15⟩ : ∃ j_ : Int, (IntKind.u64.wrap (a0)) = j_ := ⟨_, rfl⟩
       first | rw [hji15] at H | simp only [hji15] at H
       (try rw [hji15] at A13)
       by_cases c16 : 0 ≤ (ji15)
       ·rw [if_pos c16] at H
        have c16b0 := eq_true c16
        have c16b1 : decide (0 ≤ (ji15)) = true := decide_eq_true c16
        clear c16
        obtain ⟨ji17, hji17⟩ : ∃ j_ : Int, (shl .i64 1 (ji15)) = j_ := ⟨_, rfl⟩
        first | rw [hji17] at H | simp only [hji17] at H
        (try rw [hji17] at A13)
        have hji17_ : (IntKind.i64.wrap (1 * 2 ^ min (ji15).toNat 64)) = ji17 := hji17
        have hji17z : (ji15) ≤ 64 → (IntKind.i64.wrap (1 * 2 ^ (ji15).toNat)) = ji17 := shl_small hji17
        have hji17u : (IntKind.i64.wrap (2 ^ min (ji15).toNat 64)) = ji17 := by have h_ := hji17_; rw [Int.one_mul] at h_; exact h_
        have hji17v : (ji15) ≤ 64 → (IntKind.i64.wrap (2 ^ (ji15).toNat)) = ji17 := fun hle_ => by have h_ := hji17z hle_; rw [Int.one_mul] at h_; exact h_
        have hji17y : (wrap64 (1 * 2 ^ min (ji15).toNat 64)) = ji17 := (i64_w _).symm.trans hji17_
        have hji17x : (ji15) ≤ 64 → (wrap64 (1 * 2 ^ (ji15).toNat)) = ji17 := fun h_ => (i64_w _).symm.trans (hji17z h_)
        simp only [Option.some.injEq, Prod.mk.injEq] at H
        obtain ⟨rfl, rfl, rfl, rfl⟩ := H
        go_wp2_with (first | (go_at_call 85; (with_reducible refine (barscanref04_irreducible.calls kj2 a1 a0 true _ A13.out).mono ?_); rintro e w' ⟨rfl, ⟨nd, rfl⟩⟩; (try (rw [drewN_self wc]; generalize hq_ : World.drewN wc _ = wc; have n0_ : Aside0 (wc.heap[gb114]? = some (.cells #[.int .i64 0, .int .i64 0, .int .i64 0] 23 (0, 0))) := ⟨by rw [← hq_]; exact (zK BK114)⟩; have n1_ : Aside0 (Below w.heap.size w wc) := ⟨by rw [← hq_]; exact zB⟩; clear BK114 HB hq_; have BK114 := n0_; have HB := n1_; clear n0_ n1_)); (try clear z114_0 z114_1 z114_2 f114_0 f114_1 f114_2); obtain ⟨z114_0, z114_1, z114_2, f114_0, f114_1, f114_2⟩ := cz3 BK114))
        refine bodyPost_ret (results_ct rfl _ _ gb114 23 #[.int .i64 2, .int .i64 ji17, .int .i64 a1] (0, 0) _ rfl (zK BK114) Try.underlying23 rfl (by kernel_rfl)) rfl ?_
        exact ⟨by first | rfl | (simp [errW_none, errW_some] <;> rfl) | (simp only [← hji8, ← hji10, ← hji15, ← hji17]; first | rfl | (simp [errW_none, errW_some] <;> rfl)) | (simp [*, errW_none, errW_some] <;> rfl), zB⟩
       ·rw [if_neg c16] at H
        exact absurd H (by simp)
      ·replace c14 := Bool.eq_false_iff.mpr c14
       subst c14
       rw [if_neg (show ¬ (false = true) by decide)] at H
       simp only [Option.some.injEq, Prod.mk.injEq] at H
       obtain ⟨rfl, rfl, rfl, rfl⟩ := H
       go_wp2_with (first | (go_at_call 85; (with_reducible refine (barscanref04_irreducible.calls kj2 a1 a0 false _ A13.out).mono ?_); rintro e w' ⟨rfl, ⟨nd, rfl⟩⟩; (try (rw [drewN_self wc]; generalize hq_ : World.drewN wc _ = wc; have n0_ : Aside0 (wc.heap[gb114]? = some (.cells #[.int .i64 0, .int .i64 0, .int .i64 0] 23 (0, 0))) := ⟨by rw [← hq_]; exact (zK BK114)⟩; have n1_ : Aside0 (Below w.heap.size w wc) := ⟨by rw [← hq_]; exact zB⟩; clear BK114 HB hq_; have BK114 := n0_; have HB := n1_; clear n0_ n1_)); (try clear z114_0 z114_1 z114_2 f114_0 f114_1 f114_2); obtain ⟨z114_0, z114_1, z114_2, f114_0, f114_1, f114_2⟩ := cz3 BK114))
       refine bodyPost_ret (results_ct rfl _ _ gb114 23 #[.int .i64 0, .int .i64 0, .int .i64 0] (0, 0) _ rfl (zK BK114) Try.underlying23 rfl (by kernel_rfl)) rfl ?_
       exact ⟨by first | rfl | (simp [errW_none, errW_some] <;> rfl) | (simp only [← hji8, ← hji10]; first | rfl | (simp [errW_none, errW_some] <;> rfl)) | (simp [*, errW_none, errW_some] <;> rfl), zB⟩
    ·rw [if_neg c9] at H
     exact absurd H (by simp)
/-! ### galois_prime: function 86 -/
def galois_prime.l0 : Nat → Int → Int → Option (Bool)
 | 0, _, _ => none
 | k + 1, x0, x3 => if (wrap64 (x3 * x3)) ≤ x0 then (if x3 = 0 then (none) else (if (Int.tmod x0 x3) = 0 then (some false) else (galois_prime.l0 k x0 (wrap64 (x3 + 1))))) else (some (decide (x0 ≥ 2)))
def galois_prime.f (k : Nat) (a0 : Int) : Option (Bool) := galois_prime.l0 k a0 2
theorem galois_prime.mono_l : ∀ k, (∀ y0 y1, LeO (galois_prime.l0 k y0 y1) (galois_prime.l0 (k + 1) y0 y1))
 | 0 => fun _ _ r h => by simp [galois_prime.l0] at h
 | k + 1 => by
  have ih0 := galois_prime.mono_l k
  ·intro y0 y1
   unfold galois_prime.l0
   exact zMo
theorem galois_prime.mono : ∀ a0 k, LeO (galois_prime.f k a0) (galois_prime.f (k + 1) a0) := by
 intro a0 k
 have ih0 := galois_prime.mono_l k
 unfold galois_prime.f
 exact zMo
theorem galois_prime.calls (k : Nat) (a0 : Int) (r : Bool) (w : World) (h : galois_prime.f k a0 = some r) :
  Calls Try.prog 86 #[.int .i64 a0] w fun e w' => e = .returned (.bool r) ∧ Drawn0 w w' := by
 have H := h
 unfold galois_prime.f at H
 clear h
 have H' := zA H
 clear H
 go_enter Try.func86, Try.ntmps86
 go_wp2
 go_loopg [3] k (fun kq v3 w' => ∃ (x3_1 : Int), v3 = .int .i64 x3_1 ∧ Aside0 (galois_prime.l0 kq a0 x3_1 = some r) ∧ Aside0 (kq ≤ k) ∧ Drawn0 w w')
 case atStart => exact ⟨(2), zR, H', ⟨Nat.le_refl _⟩, by repeat (first | exact Drawn0.refl _ | apply Drawn0.step)⟩
 case round =>
  clear H'
  obtain ⟨x3_1, rfl, HA, HK1, ⟨m1, rfl⟩⟩ := hrel
  cases gk with
  | zero => exact absurd HA.out (by simp [galois_prime.l0])
  | succ k1 =>
   have H := HA.out
   clear HA
   simp only [galois_prime.l0] at H
   by_cases c2 : (wrap64 (x3_1 * x3_1)) ≤ a0
   ·rw [if_pos c2] at H
    have c2b0 : decide ((wrap64 (x3_1 * x3_1)) ≤ a0) = true := decide_eq_true c2
    clear c2
    by_cases c3 : x3_1 = 0
    ·rw [if_pos c3] at H
     exact absurd H (by simp)
    ·rw [if_neg c3] at H
     have c3b0 := beq_eq_false_iff_ne.mpr c3
     have c3b1 := bne_iff_ne.mpr c3
     by_cases c4 : (Int.tmod a0 x3_1) = 0
     ·rw [if_pos c4] at H
      have c4b0 := beq_iff_eq.mpr c4
      have c4b1 := bne_eq_false_iff_eq.mpr c4
      clear c4
      obtain rfl := Option.some.inj H
      go_wp2
      go_ret
      exact ⟨by first | rfl | (simp; done) | (simp [*]; done), by repeat (first | exact Drawn0.refl _ | apply Drawn0.step)⟩
     ·rw [if_neg c4] at H
      have c4b0 := beq_eq_false_iff_ne.mpr c4
      have c4b1 := bne_iff_ne.mpr c4
      have H' := zA H
      clear H
      go_wp2
      go_roundg k1
      case measure => have := HK1.out; omega
      case rel => exact ⟨(wrap64 (x3_1 + 1)), zR, H', zH, by repeat (first | exact Drawn0.refl _ | apply Drawn0.step)⟩
   ·rw [if_neg c2] at H
    have c2b0 : decide ((wrap64 (x3_1 * x3_1)) ≤ a0) = false := decide_eq_false c2
    clear c2
    obtain rfl := Option.some.inj H
    go_wp2
    go_ret
    exact ⟨by first | rfl | (simp; done) | (simp [*]; done), by repeat (first | exact Drawn0.refl _ | apply Drawn0.step)⟩
/-! ### galois_Prime: function 23 -/
def galois_Prime.j0 : Nat → Int → Bool → Option (Int × Int × Int × Int)
 | 0, _, _ => none
 | k + 1, x0, x4 => if x4 = true then (some (0, 0, 0, 3)) else ((galois_prime.f k x0).bind fun t117 => (if t117 = true then (if x0 = 2 then ((galois_Binary.f k 1 2).bind fun bt118 => (some (bt118.1, bt118.2.1, bt118.2.2.1, bt118.2.2.2))) else (some (x0, x0, 0, 0))) else (some (0, 0, 0, 1))))
def galois_Prime.f (k : Nat) (a0 : Int) : Option (Int × Int × Int × Int) := if a0 < 2 then (galois_Prime.j0 k a0 true) else (galois_Prime.j0 k a0 (decide (a0 > 4096)))
theorem galois_Prime.mono_l : ∀ k, (∀ y0 y1, LeO (galois_Prime.j0 k y0 y1) (galois_Prime.j0 (k + 1) y0 y1))
 | 0 => fun _ _ r h => by simp [galois_Prime.j0] at h
 | k + 1 => by
  have ih0 := galois_Prime.mono_l k
  ·intro y0 y1
   unfold galois_Prime.j0
   have m0_ := @galois_Binary.mono
   have m1_ := @galois_prime.mono
   exact zMo
theorem galois_Prime.mono : ∀ a0 k, LeO (galois_Prime.f k a0) (galois_Prime.f (k + 1) a0) := by
 intro a0 k
 have ih0 := galois_Prime.mono_l k
 unfold galois_Prime.f
 have m0_ := @galois_Binary.mono
 have m1_ := @galois_prime.mono
 exact zMo
theorem galois_Prime.calls (k : Nat) (a0 : Int) (r1 : Int) (r2 : Int) (r3 : Int) (r4 : Int) (w : World) (h : galois_Prime.f k a0 = some (r1, r2, r3, r4)) :
  Calls Try.prog 23 #[.int .i64 a0] w fun e w' => e = .returned (.tuple #[.agg #[.int .i64 r1, .int .i64 r2, .int .i64 r3], .int .i64 r4]) ∧ Below w.heap.size w w' := by
 have hu23 := Try.underlying23
 have HB := Aside0.mk (Below.refl w.heap.size w)
 have H := h
 unfold galois_Prime.f at H
 clear h
 have HC2 := Aside0.mk H
 clear H
 go_enter Try.func23, Try.ntmps23
 go_upto_region 1 with (first | ((with_reducible refine gate_dst (N := 2) rfl ?_); refine zBox 2 #[.int .i64 0, .int .i64 0, .int .i64 0] 23 ?_; clear HB; intro gb116 w3 BK116 GE116 HB))
 (try simp only [Act.put, List.setIfInBounds_toArray, List.set_cons_zero, List.set_cons_succ])
 go_cut [4] (fun v4 wc => ∃ (kq : Nat) (x4_1 : Bool), v4 = .bool x4_1 ∧ Aside0 (galois_Prime.j0 kq a0 x4_1 = some (r1, r2, r3, r4)) ∧ Aside0 (kq ≤ k) ∧ Aside0 (wc.heap[gb116]? = some (.cells #[.int .i64 0, .int .i64 0, .int .i64 0] 23 (0, 0))) ∧ Aside0 (Below w.heap.size w wc))
 case first =>
  have H := HC2.out
  clear HC2
  by_cases c4 : a0 < 2
  ·rw [if_pos c4] at H
   have c4b0 : decide (a0 < 2) = true := decide_eq_true c4
   clear c4
   (first | rw [c4b0] | (simp only [i64_w, i32_w]; rw [c4b0]) | skip)
   have H' := zA H
   clear H
   go_wp2
   go_meet
   case rel => exact ⟨_, (true), zR, H', zL, ⟨zK BK116⟩, ⟨zB⟩⟩
  ·rw [if_neg c4] at H
   have c4b0 : decide (a0 < 2) = false := decide_eq_false c4
   clear c4
   (first | rw [c4b0] | (simp only [i64_w, i32_w]; rw [c4b0]) | skip)
   have H' := zA H
   clear H
   go_wp2
   go_meet
   case rel => exact ⟨_, (decide (a0 > 4096)), zR, H', zL, ⟨zK BK116⟩, ⟨zB⟩⟩
 case rest =>
  clear HC2
  try clear c2
  try clear p2
  try clear c4
  try clear c4b0
  obtain ⟨kq, x4_1, rfl, HA, HJ1, BK116, HB⟩ := hcut
  cases kq with
  | zero => exact absurd HA.out (by simp [galois_Prime.j0])
  | succ kj1 =>
   have H := HA.out
   clear HA
   simp only [galois_Prime.j0] at H
   by_cases c5 : x4_1 = true
   ·subst c5
    rw [if_pos rfl] at H
    simp only [Option.some.injEq, Prod.mk.injEq] at H
    obtain ⟨rfl, rfl, rfl, rfl⟩ := H
    (try clear z116_0 z116_1 z116_2 f116_0 f116_1 f116_2)
    obtain ⟨z116_0, z116_1, z116_2, f116_0, f116_1, f116_2⟩ := cz3 BK116
    go_wp2
    refine bodyPost_ret (results_ct rfl _ _ gb116 23 #[.int .i64 0, .int .i64 0, .int .i64 0] (0, 0) _ rfl (zK BK116) Try.underlying23 rfl (by kernel_rfl)) rfl ?_
    exact ⟨zE, zB⟩
   ·replace c5 := Bool.eq_false_iff.mpr c5
    subst c5
    rw [if_neg (show ¬ (false = true) by decide)] at H
    obtain ⟨t117, A7, H⟩ := zD H
    by_cases c8 : t117 = true
    ·subst c8
     rw [if_pos rfl] at H
     by_cases c9 : a0 = 2
     ·rw [if_pos c9] at H
      have c9b0 := beq_iff_eq.mpr c9
      have c9b1 := bne_eq_false_iff_eq.mpr c9
      clear c9
      obtain ⟨⟨t118, t119, t120, t121⟩, A10, H⟩ := zD H
      dsimp only at H
      simp only [Option.some.injEq, Prod.mk.injEq] at H
      obtain ⟨rfl, rfl, rfl, rfl⟩ := H
      go_wp2_with (first | ((with_reducible refine gate_callee (f := 86) rfl ?_); refine gL (some 14) Try.func86 #[.int .i64 a0] ?_; (with_reducible refine (galois_prime.calls kj1 a0 true _ A7.out).mono ?_); rintro e w' ⟨rfl, ⟨nd, rfl⟩⟩; refine ⟨_, rfl, ?_⟩; (try (rw [drewN_self wc]; generalize hq_ : World.drewN wc _ = wc; have n0_ : Aside0 (wc.heap[gb116]? = some (.cells #[.int .i64 0, .int .i64 0, .int .i64 0] 23 (0, 0))) := ⟨by rw [← hq_]; exact (zK BK116)⟩; have n1_ : Aside0 (Below w.heap.size w wc) := ⟨by rw [← hq_]; exact zB⟩; clear BK116 HB hq_; have BK116 := n0_; have HB := n1_; clear n0_ n1_))) | ((with_reducible refine gate_callee (f := 21) rfl ?_); refine gL (some 20) Try.func21 #[.int .i64 1, .int .i64 2] ?_; (with_reducible refine zCall (galois_Binary.calls kj1 1 2 t118 t119 t120 t121 _ A10.out) ?_); intro w11 hb; replace BK116 := bB BK116 hb; replace HB := bS hb; (try clear hb); (try clear z116_0 z116_1 z116_2 f116_0 f116_1 f116_2); obtain ⟨z116_0, z116_1, z116_2, f116_0, f116_1, f116_2⟩ := cz3 BK116))
      refine bodyPost_ret (results_ct rfl _ _ gb116 23 #[.int .i64 t118, .int .i64 t119, .int .i64 t120] (0, 0) _ rfl (zK BK116) Try.underlying23 rfl (by kernel_rfl)) rfl ?_
      exact ⟨zE, zB⟩
     ·rw [if_neg c9] at H
      have c9b0 := beq_eq_false_iff_ne.mpr c9
      have c9b1 := bne_iff_ne.mpr c9
      simp only [Option.some.injEq, Prod.mk.injEq] at H
      obtain ⟨rfl, rfl, rfl, rfl⟩ := H
      go_wp2_with (first | ((with_reducible refine gate_callee (f := 86) rfl ?_); refine gL (some 14) Try.func86 #[.int .i64 a0] ?_; (with_reducible refine (galois_prime.calls kj1 a0 true _ A7.out).mono ?_); rintro e w' ⟨rfl, ⟨nd, rfl⟩⟩; refine ⟨_, rfl, ?_⟩; (try (rw [drewN_self wc]; generalize hq_ : World.drewN wc _ = wc; have n0_ : Aside0 (wc.heap[gb116]? = some (.cells #[.int .i64 0, .int .i64 0, .int .i64 0] 23 (0, 0))) := ⟨by rw [← hq_]; exact (zK BK116)⟩; have n1_ : Aside0 (Below w.heap.size w wc) := ⟨by rw [← hq_]; exact zB⟩; clear BK116 HB hq_; have BK116 := n0_; have HB := n1_; clear n0_ n1_)); (try clear z116_0 z116_1 z116_2 f116_0 f116_1 f116_2); obtain ⟨z116_0, z116_1, z116_2, f116_0, f116_1, f116_2⟩ := cz3 BK116))
      refine bodyPost_ret (results_ct rfl _ _ gb116 23 #[.int .i64 a0, .int .i64 a0, .int .i64 0] (0, 0) _ rfl (zK BK116) Try.underlying23 rfl (by kernel_rfl)) rfl ?_
      exact ⟨zE, zB⟩
    ·replace c8 := Bool.eq_false_iff.mpr c8
     subst c8
     rw [if_neg (show ¬ (false = true) by decide)] at H
     simp only [Option.some.injEq, Prod.mk.injEq] at H
     obtain ⟨rfl, rfl, rfl, rfl⟩ := H
     go_wp2_with (first | ((with_reducible refine gate_callee (f := 86) rfl ?_); refine gL (some 14) Try.func86 #[.int .i64 a0] ?_; (with_reducible refine (galois_prime.calls kj1 a0 false _ A7.out).mono ?_); rintro e w' ⟨rfl, ⟨nd, rfl⟩⟩; refine ⟨_, rfl, ?_⟩; (try (rw [drewN_self wc]; generalize hq_ : World.drewN wc _ = wc; have n0_ : Aside0 (wc.heap[gb116]? = some (.cells #[.int .i64 0, .int .i64 0, .int .i64 0] 23 (0, 0))) := ⟨by rw [← hq_]; exact (zK BK116)⟩; have n1_ : Aside0 (Below w.heap.size w wc) := ⟨by rw [← hq_]; exact zB⟩; clear BK116 HB hq_; have BK116 := n0_; have HB := n1_; clear n0_ n1_)); (try clear z116_0 z116_1 z116_2 f116_0 f116_1 f116_2); obtain ⟨z116_0, z116_1, z116_2, f116_0, f116_1, f116_2⟩ := cz3 BK116))
     refine bodyPost_ret (results_ct rfl _ _ gb116 23 #[.int .i64 0, .int .i64 0, .int .i64 0] (0, 0) _ rfl (zK BK116) Try.underlying23 rfl (by kernel_rfl)) rfl ?_
     exact ⟨zE, zB⟩
/-! ### barscanref04_prime: function 87 -/
def barscanref04_prime.l0 : Nat → Int → Int → Option (Bool)
 | 0, _, _ => none
 | k + 1, x0, x3 => if (wrap64 (x3 * x3)) ≤ x0 then (if x3 = 0 then (none) else (if (Int.tmod x0 x3) = 0 then (some false) else (barscanref04_prime.l0 k x0 (wrap64 (x3 + 1))))) else (some (decide (x0 ≥ 2)))
def barscanref04_prime.f (k : Nat) (a0 : Int) : Option (Bool) := barscanref04_prime.l0 k a0 2
theorem barscanref04_prime.mono_l : ∀ k, (∀ y0 y1, LeO (barscanref04_prime.l0 k y0 y1) (barscanref04_prime.l0 (k + 1) y0 y1))
 | 0 => fun _ _ r h => by simp [barscanref04_prime.l0] at h
 | k + 1 => by
  have ih0 := barscanref04_prime.mono_l k
  ·intro y0 y1
   unfold barscanref04_prime.l0
   exact zMo
theorem barscanref04_prime.mono : ∀ a0 k, LeO (barscanref04_prime.f k a0) (barscanref04_prime.f (k + 1) a0) := by
 intro a0 k
 have ih0 := barscanref04_prime.mono_l k
 unfold barscanref04_prime.f
 exact zMo
theorem barscanref04_prime.calls (k : Nat) (a0 : Int) (r : Bool) (w : World) (h : barscanref04_prime.f k a0 = some r) :
  Calls Try.prog 87 #[.int .i64 a0] w fun e w' => e = .returned (.bool r) ∧ Drawn0 w w' := by
 have H := h
 unfold barscanref04_prime.f at H
 clear h
 have H' := zA H
 clear H
 go_enter Try.func87, Try.ntmps87
 go_wp2
 go_loopg [3] k (fun kq v3 w' => ∃ (x3_1 : Int), v3 = .int .i64 x3_1 ∧ Aside0 (barscanref04_prime.l0 kq a0 x3_1 = some r) ∧ Aside0 (kq ≤ k) ∧ Drawn0 w w')
 case atStart => exact ⟨(2), zR, H', ⟨Nat.le_refl _⟩, by repeat (first | exact Drawn0.refl _ | apply Drawn0.step)⟩
 case round =>
  clear H'
  obtain ⟨x3_1, rfl, HA, HK1, ⟨m1, rfl⟩⟩ := hrel
  cases gk with
  | zero => exact absurd HA.out (by simp [barscanref04_prime.l0])
  | succ k1 =>
   have H := HA.out
   clear HA
   simp only [barscanref04_prime.l0] at H
   by_cases c2 : (wrap64 (x3_1 * x3_1)) ≤ a0
   ·rw [if_pos c2] at H
    have c2b0 : decide ((wrap64 (x3_1 * x3_1)) ≤ a0) = true := decide_eq_true c2
    clear c2
    by_cases c3 : x3_1 = 0
    ·rw [if_pos c3] at H
     exact absurd H (by simp)
    ·rw [if_neg c3] at H
     have c3b0 := beq_eq_false_iff_ne.mpr c3
     have c3b1 := bne_iff_ne.mpr c3
     by_cases c4 : (Int.tmod a0 x3_1) = 0
     ·rw [if_pos c4] at H
      have c4b0 := beq_iff_eq.mpr c4
      have c4b1 := bne_eq_false_iff_eq.mpr c4
      clear c4
      obtain rfl := Option.some.inj H
      go_wp2
      go_ret
      exact ⟨by first | rfl | (simp; done) | (simp [*]; done), by repeat (first | exact Drawn0.refl _ | apply Drawn0.step)⟩
     ·rw [if_neg c4] at H
      have c4b0 := beq_eq_false_iff_ne.mpr c4
      have c4b1 := bne_iff_ne.mpr c4
      have H' := zA H
      clear H
      go_wp2
      go_roundg k1
      case measure => have := HK1.out; omega
      case rel => exact ⟨(wrap64 (x3_1 + 1)), zR, H', zH, by repeat (first | exact Drawn0.refl _ | apply Drawn0.step)⟩
   ·rw [if_neg c2] at H
    have c2b0 : decide ((wrap64 (x3_1 * x3_1)) ≤ a0) = false := decide_eq_false c2
    clear c2
    obtain rfl := Option.some.inj H
    go_wp2
    go_ret
    exact ⟨by first | rfl | (simp; done) | (simp [*]; done), by repeat (first | exact Drawn0.refl _ | apply Drawn0.step)⟩
/-! ### barscanref04_Prime: function 24 -/
def barscanref04_Prime.j0 : Nat → Int → Bool → Option (Int × Int × Int × Int)
 | 0, _, _ => none
 | k + 1, x0, x9 => if x9 = true then (some (0, 0, 0, 3)) else ((barscanref04_prime.f k x0).bind fun t123 => (if t123 = true then (if x0 = 2 then (some (2, 2, 2, 0)) else (some (x0, x0, 0, 0))) else (some (0, 0, 0, 1))))
def barscanref04_Prime.f (k : Nat) (a0 : Int) : Option (Int × Int × Int × Int) := if a0 < 2 then (barscanref04_Prime.j0 k a0 true) else (barscanref04_Prime.j0 k a0 (decide (a0 > 4096)))
theorem barscanref04_Prime.mono_l : ∀ k, (∀ y0 y1, LeO (barscanref04_Prime.j0 k y0 y1) (barscanref04_Prime.j0 (k + 1) y0 y1))
 | 0 => fun _ _ r h => by simp [barscanref04_Prime.j0] at h
 | k + 1 => by
  have ih0 := barscanref04_Prime.mono_l k
  ·intro y0 y1
   unfold barscanref04_Prime.j0
   have m0_ := @barscanref04_prime.mono
   exact zMo
theorem barscanref04_Prime.mono : ∀ a0 k, LeO (barscanref04_Prime.f k a0) (barscanref04_Prime.f (k + 1) a0) := by
 intro a0 k
 have ih0 := barscanref04_Prime.mono_l k
 unfold barscanref04_Prime.f
 have m0_ := @barscanref04_prime.mono
 exact zMo
theorem barscanref04_Prime.calls (k : Nat) (a0 : Int) (r1 : Int) (r2 : Int) (r3 : Int) (r4 : Int) (w : World) (h : barscanref04_Prime.f k a0 = some (r1, r2, r3, r4)) :
  Calls Try.prog 24 #[.int .i64 a0] w fun e w' => e = .returned (.tuple #[.agg #[.int .i64 r1, .int .i64 r2, .int .i64 r3], .int .i64 r4]) ∧ Below w.heap.size w w' := by
 have hu23 := Try.underlying23
 have HB := Aside0.mk (Below.refl w.heap.size w)
 have H := h
 unfold barscanref04_Prime.f at H
 clear h
 have HC2 := Aside0.mk H
 clear H
 go_enter Try.func24, Try.ntmps24
 go_upto_region 1 with (first | ((with_reducible refine gate_dst (N := 2) rfl ?_); refine zBox 2 #[.int .i64 0, .int .i64 0, .int .i64 0] 23 ?_; clear HB; intro gb122 w3 BK122 GE122 HB))
 (try simp only [Act.put, List.setIfInBounds_toArray, List.set_cons_zero, List.set_cons_succ])
 go_cut [9] (fun v9 wc => ∃ (kq : Nat) (x9_1 : Bool), v9 = .bool x9_1 ∧ Aside0 (barscanref04_Prime.j0 kq a0 x9_1 = some (r1, r2, r3, r4)) ∧ Aside0 (kq ≤ k) ∧ Aside0 (wc.heap[gb122]? = some (.cells #[.int .i64 0, .int .i64 0, .int .i64 0] 23 (0, 0))) ∧ Aside0 (Below w.heap.size w wc))
 case first =>
  have H := HC2.out
  clear HC2
  by_cases c4 : a0 < 2
  ·rw [if_pos c4] at H
   have c4b0 : decide (a0 < 2) = true := decide_eq_true c4
   clear c4
   (first | rw [c4b0] | (simp only [i64_w, i32_w]; rw [c4b0]) | skip)
   have H' := zA H
   clear H
   go_wp2
   go_meet
   case rel => exact ⟨_, (true), zR, H', zL, ⟨zK BK122⟩, ⟨zB⟩⟩
  ·rw [if_neg c4] at H
   have c4b0 : decide (a0 < 2) = false := decide_eq_false c4
   clear c4
   (first | rw [c4b0] | (simp only [i64_w, i32_w]; rw [c4b0]) | skip)
   have H' := zA H
   clear H
   go_wp2
   go_meet
   case rel => exact ⟨_, (decide (a0 > 4096)), zR, H', zL, ⟨zK BK122⟩, ⟨zB⟩⟩
 case rest =>
  clear HC2
  try clear c2
  try clear p2
  try clear c4
  try clear c4b0
  obtain ⟨kq, x9_1, rfl, HA, HJ1, BK122, HB⟩ := hcut
  cases kq with
  | zero => exact absurd HA.out (by simp [barscanref04_Prime.j0])
  | succ kj1 =>
   have H := HA.out
   clear HA
   simp only [barscanref04_Prime.j0] at H
   by_cases c5 : x9_1 = true
   ·subst c5
    rw [if_pos rfl] at H
    simp only [Option.some.injEq, Prod.mk.injEq] at H
    obtain ⟨rfl, rfl, rfl, rfl⟩ := H
    (try clear z122_0 z122_1 z122_2 f122_0 f122_1 f122_2)
    obtain ⟨z122_0, z122_1, z122_2, f122_0, f122_1, f122_2⟩ := cz3 BK122
    go_wp2
    refine bodyPost_ret (results_ct rfl _ _ gb122 23 #[.int .i64 0, .int .i64 0, .int .i64 0] (0, 0) _ rfl (zK BK122) Try.underlying23 rfl (by kernel_rfl)) rfl ?_
    exact ⟨zE, zB⟩
   ·replace c5 := Bool.eq_false_iff.mpr c5
    subst c5
    rw [if_neg (show ¬ (false = true) by decide)] at H
    obtain ⟨t123, A7, H⟩ := zD H
    by_cases c8 : t123 = true
    ·subst c8
     rw [if_pos rfl] at H
     by_cases c9 : a0 = 2
     ·rw [if_pos c9] at H
      have c9b0 := beq_iff_eq.mpr c9
      have c9b1 := bne_eq_false_iff_eq.mpr c9
      clear c9
      simp only [Option.some.injEq, Prod.mk.injEq] at H
      obtain ⟨rfl, rfl, rfl, rfl⟩ := H
      go_wp2_with (first | ((with_reducible refine gate_callee (f := 87) rfl ?_); refine gL (some 12) Try.func87 #[.int .i64 a0] ?_; (with_reducible refine (barscanref04_prime.calls kj1 a0 true _ A7.out).mono ?_); rintro e w' ⟨rfl, ⟨nd, rfl⟩⟩; refine ⟨_, rfl, ?_⟩; (try (rw [drewN_self wc]; generalize hq_ : World.drewN wc _ = wc; have n0_ : Aside0 (wc.heap[gb122]? = some (.cells #[.int .i64 0, .int .i64 0, .int .i64 0] 23 (0, 0))) := ⟨by rw [← hq_]; exact (zK BK122)⟩; have n1_ : Aside0 (Below w.heap.size w wc) := ⟨by rw [← hq_]; exact zB⟩; clear BK122 HB hq_; have BK122 := n0_; have HB := n1_; clear n0_ n1_)); (try clear z122_0 z122_1 z122_2 f122_0 f122_1 f122_2); obtain ⟨z122_0, z122_1, z122_2, f122_0, f122_1, f122_2⟩ := cz3 BK122))
      refine bodyPost_ret (results_ct rfl _ _ gb122 23 #[.int .i64 2, .int .i64 2, .int .i64 2] (0, 0) _ rfl (zK BK122) Try.underlying23 rfl (by kernel_rfl)) rfl ?_
      exact ⟨zE, zB⟩
     ·rw [if_neg c9] at H
      have c9b0 := beq_eq_false_iff_ne.mpr c9
      have c9b1 := bne_iff_ne.mpr c9
      simp only [Option.some.injEq, Prod.mk.injEq] at H
      obtain ⟨rfl, rfl, rfl, rfl⟩ := H
      go_wp2_with (first | ((with_reducible refine gate_callee (f := 87) rfl ?_); refine gL (some 12) Try.func87 #[.int .i64 a0] ?_; (with_reducible refine (barscanref04_prime.calls kj1 a0 true _ A7.out).mono ?_); rintro e w' ⟨rfl, ⟨nd, rfl⟩⟩; refine ⟨_, rfl, ?_⟩; (try (rw [drewN_self wc]; generalize hq_ : World.drewN wc _ = wc; have n0_ : Aside0 (wc.heap[gb122]? = some (.cells #[.int .i64 0, .int .i64 0, .int .i64 0] 23 (0, 0))) := ⟨by rw [← hq_]; exact (zK BK122)⟩; have n1_ : Aside0 (Below w.heap.size w wc) := ⟨by rw [← hq_]; exact zB⟩; clear BK122 HB hq_; have BK122 := n0_; have HB := n1_; clear n0_ n1_)); (try clear z122_0 z122_1 z122_2 f122_0 f122_1 f122_2); obtain ⟨z122_0, z122_1, z122_2, f122_0, f122_1, f122_2⟩ := cz3 BK122))
      refine bodyPost_ret (results_ct rfl _ _ gb122 23 #[.int .i64 a0, .int .i64 a0, .int .i64 0] (0, 0) _ rfl (zK BK122) Try.underlying23 rfl (by kernel_rfl)) rfl ?_
      exact ⟨zE, zB⟩
    ·replace c8 := Bool.eq_false_iff.mpr c8
     subst c8
     rw [if_neg (show ¬ (false = true) by decide)] at H
     simp only [Option.some.injEq, Prod.mk.injEq] at H
     obtain ⟨rfl, rfl, rfl, rfl⟩ := H
     go_wp2_with (first | ((with_reducible refine gate_callee (f := 87) rfl ?_); refine gL (some 12) Try.func87 #[.int .i64 a0] ?_; (with_reducible refine (barscanref04_prime.calls kj1 a0 false _ A7.out).mono ?_); rintro e w' ⟨rfl, ⟨nd, rfl⟩⟩; refine ⟨_, rfl, ?_⟩; (try (rw [drewN_self wc]; generalize hq_ : World.drewN wc _ = wc; have n0_ : Aside0 (wc.heap[gb122]? = some (.cells #[.int .i64 0, .int .i64 0, .int .i64 0] 23 (0, 0))) := ⟨by rw [← hq_]; exact (zK BK122)⟩; have n1_ : Aside0 (Below w.heap.size w wc) := ⟨by rw [← hq_]; exact zB⟩; clear BK122 HB hq_; have BK122 := n0_; have HB := n1_; clear n0_ n1_)); (try clear z122_0 z122_1 z122_2 f122_0 f122_1 f122_2); obtain ⟨z122_0, z122_1, z122_2, f122_0, f122_1, f122_2⟩ := cz3 BK122))
     refine bodyPost_ret (results_ct rfl _ _ gb122 23 #[.int .i64 0, .int .i64 0, .int .i64 0] (0, 0) _ rfl (zK BK122) Try.underlying23 rfl (by kernel_rfl)) rfl ?_
     exact ⟨zE, zB⟩
section
attribute [local go_sem high] eqA23
/-! ### galois_Valid: function 25 -/
def galois_Valid.j0 : Nat → Bool → Int → Int → Int → Option (Bool)
 | 0, _, _, _, _ => none
 | k + 1, x16, x125000, x125001, x125002 => if x16 = true then (some false) else ((galois_length.f k x125001).bind fun t126 => ((galois_Binary.f k (wrap64 (t126 - 1)) x125002).bind fun bt127 => (if bt127.2.2.2 = 0 then (some (bt127.1 == x125000 && (bt127.2.1 == x125001 && (bt127.2.2.1 == x125002)))) else (some false))))
def galois_Valid.f (k : Nat) (a0_0 : Int) (a0_1 : Int) (a0_2 : Int) : Option (Bool) := if a0_0 = 2 then (if a0_1 < 2 then (galois_Valid.j0 k true a0_0 a0_1 a0_2) else (galois_Valid.j0 k (decide (a0_1 > 4096)) a0_0 a0_1 a0_2)) else ((galois_Prime.f k a0_1).bind fun bt131 => (if bt131.2.2.2 = 0 then (some (bt131.1 == a0_0 && (bt131.2.1 == a0_1 && (bt131.2.2.1 == a0_2)))) else (some false)))
theorem galois_Valid.mono_l : ∀ k, (∀ y0 y1 y2 y3, LeO (galois_Valid.j0 k y0 y1 y2 y3) (galois_Valid.j0 (k + 1) y0 y1 y2 y3))
 | 0 => fun _ _ _ _ r h => by simp [galois_Valid.j0] at h
 | k + 1 => by
  have ih0 := galois_Valid.mono_l k
  ·intro y0 y1 y2 y3
   unfold galois_Valid.j0
   have m0_ := @galois_Binary.mono
   have m1_ := @galois_Prime.mono
   have m2_ := @galois_length.mono
   exact zMo
theorem galois_Valid.mono : ∀ a0 a1 a2 k, LeO (galois_Valid.f k a0 a1 a2) (galois_Valid.f (k + 1) a0 a1 a2) := by
 intro a0 a1 a2 k
 have ih0 := galois_Valid.mono_l k
 unfold galois_Valid.f
 have m0_ := @galois_Binary.mono
 have m1_ := @galois_Prime.mono
 have m2_ := @galois_length.mono
 exact zMo
def galois_Valid.T5 : Bool × List (List Nat × List Nat) := (true, [([], []), ([0], [0]), ([1], [1]), ([2], [2]), ([], []), ([4], [4]), ([3, 5, 2], [3, 5]), ([6], [6]), ([7], [7]), ([7], [7]), ([8, 6, 0, 1, 2, 3, 4, 5, 6, 7, 8], [8]), ([9, 10, 0, 1, 2, 3, 4, 5, 6, 7, 8, 9, 10], [9])])
def galois_Valid.B5 : List Nat := [0, 1, 3, 7, 0, 16, 63, 127, 255, 255, 511, 2047]
theorem galois_Valid.tab5 : rtab .any (opsOf Try.f25 5) = galois_Valid.T5 := by kernel_rfl
theorem galois_Valid.bits5 : waitsOk galois_Valid.T5.2 galois_Valid.B5 = true := by kernel_rfl
theorem galois_Valid.calls (k : Nat) (a0_0 : Int) (a0_1 : Int) (a0_2 : Int) (r : Bool) (w : World) (h : galois_Valid.f k a0_0 a0_1 a0_2 = some r) :
  Calls Try.prog 25 #[.agg #[.int .i64 a0_0, .int .i64 a0_1, .int .i64 a0_2]] w fun e w' => e = .returned (.bool r) ∧ Below w.heap.size w w' := by
 have hu23 := Try.underlying23
 have HB := Aside0.mk (Below.refl w.heap.size w)
 have H := h
 unfold galois_Valid.f at H
 clear h
 by_cases c2 : a0_0 = 2
 ·rw [if_pos c2] at H
  have c2b0 := beq_iff_eq.mpr c2
  have c2b1 := bne_eq_false_iff_eq.mpr c2
  clear c2
  have HC3 := Aside0.mk H
  clear H
  go_enter Try.func25, Try.ntmps25
  go_upto_region 3 with (first | ((with_reducible refine gate_dst (N := 1) rfl ?_); refine zBox 1 #[.int .i64 a0_0, .int .i64 a0_1, .int .i64 a0_2] 23 ?_; clear HB; intro gb124 w4 BK124 GE124 HB) | ((with_reducible refine gate_dst (N := 3) rfl ?_); refine box_event ?hg (N := 3) ?hd (cs := #[.int .i64 0, .int .i64 0, .int .i64 0]) (t := 23) ?hr ?_; (case hd => rfl); (case hg => rfl); (case hr => first | (go_simp; done) | (go_simp; rfl)); intro gb125 hg w5 hbox hb; have BK125 := Aside0.mk (hbox); have GE125 := gE hg; replace HB := bS hb; have NB124_125 := Aside0.mk ((by rw [hg]; exact Nat.ne_of_lt (blk_lt (g := gb124) (o := .cells #[.int .i64 a0_0, .int .i64 a0_1, .int .i64 a0_2] 23 (0, 0)) (zK BK124)) : gb124 ≠ gb125)); have NB125_124 := Aside0.mk ((by rw [hg]; exact Nat.ne_of_gt (blk_lt (g := gb124) (o := .cells #[.int .i64 a0_0, .int .i64 a0_1, .int .i64 a0_2] 23 (0, 0)) (zK BK124)) : gb125 ≠ gb124)); replace BK124 := bB BK124 hb; clear hb hbox hg; have hnb6 := NB125_124.out; have hnc6 := NB124_125.out; (try clear z125_0 z125_1 z125_2 f125_0 f125_1 f125_2); obtain ⟨z125_0, z125_1, z125_2, f125_0, f125_1, f125_2⟩ := cz3 BK125; (try clear z124_0 z124_1 z124_2 f124_0 f124_1 f124_2); obtain ⟨z124_0, z124_1, z124_2, f124_0, f124_1, f124_2⟩ := cz3 BK124))
  (try simp only [Act.put, List.setIfInBounds_toArray, List.set_cons_zero, List.set_cons_succ])
  go_cut [16] (fun v16 wc => ∃ (kq : Nat) (x16_2 : Bool), v16 = .bool x16_2 ∧ Aside0 (galois_Valid.j0 kq x16_2 a0_0 a0_1 a0_2 = some r) ∧ Aside0 (kq ≤ k) ∧ Aside0 (wc.heap[gb124]? = some (.cells #[.int .i64 a0_0, .int .i64 a0_1, .int .i64 a0_2] 23 (0, 0))) ∧ Aside0 (wc.heap[gb125]? = some (.cells #[.int .i64 0, .int .i64 0, .int .i64 0] 23 (0, 0))) ∧ Aside0 (Below w.heap.size w wc))
  case first =>
   have H := HC3.out
   clear HC3
   by_cases c9 : a0_1 < 2
   ·rw [if_pos c9] at H
    have c9b0 : decide (a0_1 < 2) = true := decide_eq_true c9
    clear c9
    (first | rw [c9b0] | (simp only [i64_w, i32_w]; rw [c9b0]) | skip)
    have H' := zA H
    clear H
    have hnb10 := NB124_125.out
    have hnc10 := NB125_124.out
    (try clear z124_0 z124_1 z124_2 f124_0 f124_1 f124_2)
    obtain ⟨z124_0, z124_1, z124_2, f124_0, f124_1, f124_2⟩ := cz3 BK124
    go_wp2
    go_meet
    case rel => exact ⟨_, (true), zR, H', zL, ⟨zK BK124⟩, ⟨zK BK125⟩, ⟨zB⟩⟩
   ·rw [if_neg c9] at H
    have c9b0 : decide (a0_1 < 2) = false := decide_eq_false c9
    clear c9
    (first | rw [c9b0] | (simp only [i64_w, i32_w]; rw [c9b0]) | skip)
    have H' := zA H
    clear H
    have hnb12 := NB124_125.out
    have hnc12 := NB125_124.out
    (try clear z124_0 z124_1 z124_2 f124_0 f124_1 f124_2)
    obtain ⟨z124_0, z124_1, z124_2, f124_0, f124_1, f124_2⟩ := cz3 BK124
    go_wp2
    go_meet
    case rel => exact ⟨_, (decide (a0_1 > 4096)), zR, H', zL, ⟨zK BK124⟩, ⟨zK BK125⟩, ⟨zB⟩⟩
  case rest =>
   clear HC3
   try clear c1
   try clear c2
   try clear c2b0
   try clear c2b1
   try clear p2
   try clear c6
   try clear c9
   try clear c9b0
   try clear c10
   try clear c12
   try clear z124_0 z124_1 z124_2 f124_0 f124_1 f124_2
   try clear z125_0 z125_1 z125_2 f125_0 f125_1 f125_2
   try clear z124_0 z124_1 z124_2 f124_0 f124_1 f124_2
   obtain ⟨kq, x16_2, rfl, HA, HJ2, BK124, BK125, HB⟩ := hcut
   cases kq with
   | zero => exact absurd HA.out (by simp [galois_Valid.j0])
   | succ kj2 =>
    have H := HA.out
    clear HA
    simp only [galois_Valid.j0] at H
    by_cases c14 : x16_2 = true
    ·subst c14
     rw [if_pos rfl] at H
     obtain rfl := Option.some.inj H
     go_wp2
     go_ret
     exact ⟨zE, zB⟩
    ·replace c14 := Bool.eq_false_iff.mpr c14
     subst c14
     rw [if_neg (show ¬ (false = true) by decide)] at H
     obtain ⟨t126, A15, H⟩ := zD H
     obtain ⟨⟨t127, t128, t129, t130⟩, A16, H⟩ := zD H
     dsimp only at H
     by_cases c17 : t130 = 0
     ·rw [if_pos c17] at H
      have c17b0 := beq_iff_eq.mpr c17
      have c17b1 := bne_eq_false_iff_eq.mpr c17
      clear c17
      obtain rfl := Option.some.inj H
      try go_wp2
      replace BK124 := Aside0.mk (blk_drew BK124.out)
      replace BK125 := Aside0.mk (blk_drew BK125.out)
      replace HB := Aside0.mk (below_drew1 HB.out)
      refine start_ (n := 12) (S := fun w' => w'.cell? ⟨gb124, 0, none⟩ = some (.int .i64 a0_0) ∧ w'.cell? ⟨gb124, 1, none⟩ = some (.int .i64 a0_1) ∧ w'.cell? ⟨gb124, 2, none⟩ = some (.int .i64 a0_2)) (ds := []) #[false, false, false, false, false, false, false, false, false, false, false, false] (by kernel_rfl) rfl rfl zS (fun hHeld => ?_); refine with_tabW galois_Valid.tab5 galois_Valid.bits5 (fun HT_ HW_ => ?_)
      generalize wc.drew = w18 at BK124 BK125 HB hHeld ⊢
      refine pU 0 (some 18) ?_
      refine pU 4 (some 22) ?_
      refine tU 1 (some 19) hHeld ?_
      refine tU 5 (some 23) hHeld ?_
      refine oU 2 (some 20) (fun K hK => ?_)
      refine goes_ Try.func88 (by kernel_rfl) rfl #[.int .i64 a0_1] (by rfl) rfl rfl zM ?_
      with_reducible refine (galois_length.calls kj2 a0_1 t126 _ A15.out).mono ?_
      rintro e w' ⟨rfl, ⟨nd, rfl⟩⟩
      refine ⟨_, rfl, ?_⟩
      refine hK.out _ _ zS (fun hHeld => ?_)
      clear hK K
      refine nU ?_
      refine pU 3 (some 21) ?_
      refine oU 6 (some 24) (fun K hK => ?_)
      refine goes_ Try.func21 (by kernel_rfl) rfl #[.int .i64 (wrap64 (t126 - 1)), .int .i64 a0_2] (by rfl) rfl rfl zM ?_
      with_reducible refine (galois_Binary.calls kj2 (wrap64 (t126 - 1)) a0_2 t127 t128 t129 t130 _ A16.out).mono ?_
      rintro e w19 ⟨rfl, hb⟩
      refine ⟨_, rfl, ?_⟩
      replace BK124 := bB BK124 hb
      replace BK125 := bB BK125 hb
      replace HB := bS hb
      (try clear hb)
      (try clear hb2)
      (try clear hk)
      (try clear hi)
      refine hK.out _ _ zS (fun hHeld => ?_)
      clear hK K
      refine nU ?_
      refine pU 7 (some 17) ?_
      refine pU 8 (some 25) ?_
      refine pU 9 (some 26) ?_
      refine oU 10 (none) (fun K hK => ?_)
      have hs20 : w19.cell? ⟨gb125, 0, none⟩ = some (.int .i64 0) := (blk_cell BK125.out 0).trans rfl
      have hfs20 := blk_frozen BK125.out 0
      have hns20_0 := NB124_125.out
      have hms20_0 := NB125_124.out
      have hs21 : w19.cell? ⟨gb125, 1, none⟩ = some (.int .i64 0) := (blk_cell BK125.out 1).trans rfl
      have hfs21 := blk_frozen BK125.out 1
      have hns21_0 := NB124_125.out
      have hms21_0 := NB125_124.out
      have hs22 : w19.cell? ⟨gb125, 2, none⟩ = some (.int .i64 0) := (blk_cell BK125.out 2).trans rfl
      have hfs22 := blk_frozen BK125.out 2
      have hns22_0 := NB124_125.out
      have hms22_0 := NB125_124.out
      refine skip_ (w1 := ?_) (by rfl) rfl ?_ ?_
      rotate_left
      ·go_simp
       rfl
      refine hK.out _ _ ⟨((cell_far (p := ⟨gb125, _, none⟩) NB124_125.out _).trans (((cell_far (p := ⟨gb125, _, none⟩) NB124_125.out _).trans (((cell_far (p := ⟨gb125, _, none⟩) NB124_125.out _).trans (hHeld.1)))))), ((cell_far (p := ⟨gb125, _, none⟩) NB124_125.out _).trans (((cell_far (p := ⟨gb125, _, none⟩) NB124_125.out _).trans (((cell_far (p := ⟨gb125, _, none⟩) NB124_125.out _).trans (hHeld.2.1)))))), ((cell_far (p := ⟨gb125, _, none⟩) NB124_125.out _).trans (((cell_far (p := ⟨gb125, _, none⟩) NB124_125.out _).trans (((cell_far (p := ⟨gb125, _, none⟩) NB124_125.out _).trans (hHeld.2.2))))))⟩ (fun hHeld => ?_)
      clear hK K
      refine pU 11 (some 4) ?_
      refine dU ?_
      have hnb23 := NB125_124.out
      have hnc23 := NB124_125.out
      (try clear z125_0 z125_1 z125_2 f125_0 f125_1 f125_2)
      obtain ⟨z125_0, z125_1, z125_2, f125_0, f125_1, f125_2⟩ := cz3 BK125
      (try clear z124_0 z124_1 z124_2 f124_0 f124_1 f124_2)
      obtain ⟨z124_0, z124_1, z124_2, f124_0, f124_1, f124_2⟩ := cz3 BK124
      try go_wp2
      go_ret
      exact ⟨zE, zB⟩
     ·rw [if_neg c17] at H
      have c17b0 := beq_eq_false_iff_ne.mpr c17
      have c17b1 := bne_iff_ne.mpr c17
      obtain rfl := Option.some.inj H
      try go_wp2
      replace BK124 := Aside0.mk (blk_drew BK124.out)
      replace BK125 := Aside0.mk (blk_drew BK125.out)
      replace HB := Aside0.mk (below_drew1 HB.out)
      refine start_ (n := 12) (S := fun w' => w'.cell? ⟨gb124, 0, none⟩ = some (.int .i64 a0_0) ∧ w'.cell? ⟨gb124, 1, none⟩ = some (.int .i64 a0_1) ∧ w'.cell? ⟨gb124, 2, none⟩ = some (.int .i64 a0_2)) (ds := []) #[false, false, false, false, false, false, false, false, false, false, false, false] (by kernel_rfl) rfl rfl zS (fun hHeld => ?_); refine with_tabW galois_Valid.tab5 galois_Valid.bits5 (fun HT_ HW_ => ?_)
      generalize wc.drew = w26 at BK124 BK125 HB hHeld ⊢
      refine pU 0 (some 18) ?_
      refine pU 4 (some 22) ?_
      refine tU 1 (some 19) hHeld ?_
      refine tU 5 (some 23) hHeld ?_
      refine oU 2 (some 20) (fun K hK => ?_)
      refine goes_ Try.func88 (by kernel_rfl) rfl #[.int .i64 a0_1] (by rfl) rfl rfl zM ?_
      with_reducible refine (galois_length.calls kj2 a0_1 t126 _ A15.out).mono ?_
      rintro e w' ⟨rfl, ⟨nd, rfl⟩⟩
      refine ⟨_, rfl, ?_⟩
      refine hK.out _ _ zS (fun hHeld => ?_)
      clear hK K
      refine nU ?_
      refine pU 3 (some 21) ?_
      refine oU 6 (some 24) (fun K hK => ?_)
      refine goes_ Try.func21 (by kernel_rfl) rfl #[.int .i64 (wrap64 (t126 - 1)), .int .i64 a0_2] (by rfl) rfl rfl zM ?_
      with_reducible refine (galois_Binary.calls kj2 (wrap64 (t126 - 1)) a0_2 t127 t128 t129 t130 _ A16.out).mono ?_
      rintro e w27 ⟨rfl, hb⟩
      refine ⟨_, rfl, ?_⟩
      replace BK124 := bB BK124 hb
      replace BK125 := bB BK125 hb
      replace HB := bS hb
      (try clear hb)
      (try clear hb2)
      (try clear hk)
      (try clear hi)
      refine hK.out _ _ zS (fun hHeld => ?_)
      clear hK K
      refine nU ?_
      refine pU 7 (some 17) ?_
      refine pU 8 (some 25) ?_
      refine pU 9 (some 26) ?_
      refine oU 10 (none) (fun K hK => ?_)
      have hs28 : w27.cell? ⟨gb125, 0, none⟩ = some (.int .i64 0) := (blk_cell BK125.out 0).trans rfl
      have hfs28 := blk_frozen BK125.out 0
      have hns28_0 := NB124_125.out
      have hms28_0 := NB125_124.out
      have hs29 : w27.cell? ⟨gb125, 1, none⟩ = some (.int .i64 0) := (blk_cell BK125.out 1).trans rfl
      have hfs29 := blk_frozen BK125.out 1
      have hns29_0 := NB124_125.out
      have hms29_0 := NB125_124.out
      have hs30 : w27.cell? ⟨gb125, 2, none⟩ = some (.int .i64 0) := (blk_cell BK125.out 2).trans rfl
      have hfs30 := blk_frozen BK125.out 2
      have hns30_0 := NB124_125.out
      have hms30_0 := NB125_124.out
      refine skip_ (w1 := ?_) (by rfl) rfl ?_ ?_
      rotate_left
      ·go_simp
       rfl
      refine hK.out _ _ ⟨((cell_far (p := ⟨gb125, _, none⟩) NB124_125.out _).trans (((cell_far (p := ⟨gb125, _, none⟩) NB124_125.out _).trans (((cell_far (p := ⟨gb125, _, none⟩) NB124_125.out _).trans (hHeld.1)))))), ((cell_far (p := ⟨gb125, _, none⟩) NB124_125.out _).trans (((cell_far (p := ⟨gb125, _, none⟩) NB124_125.out _).trans (((cell_far (p := ⟨gb125, _, none⟩) NB124_125.out _).trans (hHeld.2.1)))))), ((cell_far (p := ⟨gb125, _, none⟩) NB124_125.out _).trans (((cell_far (p := ⟨gb125, _, none⟩) NB124_125.out _).trans (((cell_far (p := ⟨gb125, _, none⟩) NB124_125.out _).trans (hHeld.2.2))))))⟩ (fun hHeld => ?_)
      clear hK K
      refine pU 11 (some 4) ?_
      refine dU ?_
      try go_wp2
      go_ret
      exact ⟨zE, zB⟩
 ·rw [if_neg c2] at H
  have c2b0 := beq_eq_false_iff_ne.mpr c2
  have c2b1 := bne_iff_ne.mpr c2
  obtain ⟨⟨t131, t132, t133, t134⟩, A31, H⟩ := zD H
  dsimp only at H
  by_cases c32 : t134 = 0
  ·rw [if_pos c32] at H
   have c32b0 := beq_iff_eq.mpr c32
   have c32b1 := bne_eq_false_iff_eq.mpr c32
   clear c32
   obtain rfl := Option.some.inj H
   go_enter Try.func25, Try.ntmps25
   go_wp2_with (first | ((with_reducible refine gate_dst (N := 1) rfl ?_); refine zBox 1 #[.int .i64 a0_0, .int .i64 a0_1, .int .i64 a0_2] 23 ?_; clear HB; intro gb124 w33 BK124 GE124 HB) | ((with_reducible refine gate_dst (N := 3) rfl ?_); refine box_event ?hg (N := 3) ?hd (cs := #[.int .i64 0, .int .i64 0, .int .i64 0]) (t := 23) ?hr ?_; (case hd => rfl); (case hg => rfl); (case hr => first | (go_simp; done) | (go_simp; rfl)); intro gb125 hg w34 hbox hb; have BK125 := Aside0.mk (hbox); have GE125 := gE hg; replace HB := bS hb; have NB124_125 := Aside0.mk ((by rw [hg]; exact Nat.ne_of_lt (blk_lt (g := gb124) (o := .cells #[.int .i64 a0_0, .int .i64 a0_1, .int .i64 a0_2] 23 (0, 0)) (zK BK124)) : gb124 ≠ gb125)); have NB125_124 := Aside0.mk ((by rw [hg]; exact Nat.ne_of_gt (blk_lt (g := gb124) (o := .cells #[.int .i64 a0_0, .int .i64 a0_1, .int .i64 a0_2] 23 (0, 0)) (zK BK124)) : gb125 ≠ gb124)); replace BK124 := bB BK124 hb; clear hb hbox hg; have hnb35 := NB125_124.out; have hnc35 := NB124_125.out; (try clear z125_0 z125_1 z125_2 f125_0 f125_1 f125_2); obtain ⟨z125_0, z125_1, z125_2, f125_0, f125_1, f125_2⟩ := cz3 BK125; (try clear z124_0 z124_1 z124_2 f124_0 f124_1 f124_2); obtain ⟨z124_0, z124_1, z124_2, f124_0, f124_1, f124_2⟩ := cz3 BK124) | ((with_reducible refine gate_callee (f := 23) rfl ?_); refine gL (some 30) Try.func23 #[.int .i64 a0_1] ?_; (with_reducible refine zCall (galois_Prime.calls k a0_1 t131 t132 t133 t134 _ A31.out) ?_); intro w38 hb; replace BK124 := Aside0.mk (blk_below (g := gb124) (o := .cells #[.int .i64 a0_0, .int .i64 a0_1, .int .i64 a0_2] 23 (0, 0)) (zK BK124) hb); replace BK125 := Aside0.mk (blk_below (g := gb125) (o := .cells #[.int .i64 0, .int .i64 0, .int .i64 0] 23 (0, 0)) (zK BK125) hb); replace HB := bS hb; (try clear hb); (try clear z125_0 z125_1 z125_2 f125_0 f125_1 f125_2); obtain ⟨z125_0, z125_1, z125_2, f125_0, f125_1, f125_2⟩ := cz3 BK125; (try clear z124_0 z124_1 z124_2 f124_0 f124_1 f124_2); obtain ⟨z124_0, z124_1, z124_2, f124_0, f124_1, f124_2⟩ := cz3 BK124))
   go_ret
   exact ⟨zE, zB⟩
  ·rw [if_neg c32] at H
   have c32b0 := beq_eq_false_iff_ne.mpr c32
   have c32b1 := bne_iff_ne.mpr c32
   obtain rfl := Option.some.inj H
   go_enter Try.func25, Try.ntmps25
   go_wp2_with (first | ((with_reducible refine gate_dst (N := 1) rfl ?_); refine zBox 1 #[.int .i64 a0_0, .int .i64 a0_1, .int .i64 a0_2] 23 ?_; clear HB; intro gb124 w41 BK124 GE124 HB) | ((with_reducible refine gate_dst (N := 3) rfl ?_); refine box_event ?hg (N := 3) ?hd (cs := #[.int .i64 0, .int .i64 0, .int .i64 0]) (t := 23) ?hr ?_; (case hd => rfl); (case hg => rfl); (case hr => first | (go_simp; done) | (go_simp; rfl)); intro gb125 hg w42 hbox hb; have BK125 := Aside0.mk (hbox); have GE125 := gE hg; replace HB := bS hb; have NB124_125 := Aside0.mk ((by rw [hg]; exact Nat.ne_of_lt (blk_lt (g := gb124) (o := .cells #[.int .i64 a0_0, .int .i64 a0_1, .int .i64 a0_2] 23 (0, 0)) (zK BK124)) : gb124 ≠ gb125)); have NB125_124 := Aside0.mk ((by rw [hg]; exact Nat.ne_of_gt (blk_lt (g := gb124) (o := .cells #[.int .i64 a0_0, .int .i64 a0_1, .int .i64 a0_2] 23 (0, 0)) (zK BK124)) : gb125 ≠ gb124)); replace BK124 := bB BK124 hb; clear hb hbox hg; have hnb43 := NB125_124.out; have hnc43 := NB124_125.out; (try clear z125_0 z125_1 z125_2 f125_0 f125_1 f125_2); obtain ⟨z125_0, z125_1, z125_2, f125_0, f125_1, f125_2⟩ := cz3 BK125; (try clear z124_0 z124_1 z124_2 f124_0 f124_1 f124_2); obtain ⟨z124_0, z124_1, z124_2, f124_0, f124_1, f124_2⟩ := cz3 BK124) | ((with_reducible refine gate_callee (f := 23) rfl ?_); refine gL (some 30) Try.func23 #[.int .i64 a0_1] ?_; (with_reducible refine zCall (galois_Prime.calls k a0_1 t131 t132 t133 t134 _ A31.out) ?_); intro w46 hb; replace BK124 := Aside0.mk (blk_below (g := gb124) (o := .cells #[.int .i64 a0_0, .int .i64 a0_1, .int .i64 a0_2] 23 (0, 0)) (zK BK124) hb); replace BK125 := Aside0.mk (blk_below (g := gb125) (o := .cells #[.int .i64 0, .int .i64 0, .int .i64 0] 23 (0, 0)) (zK BK125) hb); replace HB := bS hb; (try clear hb); (try clear z125_0 z125_1 z125_2 f125_0 f125_1 f125_2); obtain ⟨z125_0, z125_1, z125_2, f125_0, f125_1, f125_2⟩ := cz3 BK125))
   go_ret
   exact ⟨zE, zB⟩
end
/-! ### barscanref04_Valid: function 26 -/
def barscanref04_Valid.f (k : Nat) (a0_0 : Int) (a0_1 : Int) (a0_2 : Int) : Option (Bool) := if a0_0 = 2 then ((barscanref04_degree.f k a0_1).bind fun t136 => (if t136 ≥ 1 then (if t136 ≤ 12 then (if 0 ≤ (IntKind.u64.wrap (t136)) then (if a0_1 = (shl .i64 1 (IntKind.u64.wrap (t136))) then (if 0 ≤ (IntKind.u64.wrap (wrap64 (t136 + 1))) then (if a0_2 < (shl .i64 1 (IntKind.u64.wrap (wrap64 (t136 + 1)))) then ((barscanref04_irreducible.f k a0_2 t136).bind fun t137 => (some t137)) else (some false)) else (none)) else (some false)) else (none)) else (some false)) else (some false))) else (if a0_0 = a0_1 then (if a0_2 = 0 then (if a0_1 ≥ 3 then (if a0_1 ≤ 4096 then ((barscanref04_prime.f k a0_1).bind fun t138 => (some t138)) else (some false)) else (some false)) else (some false)) else (some false))
theorem barscanref04_Valid.mono : ∀ a0 a1 a2 k, LeO (barscanref04_Valid.f k a0 a1 a2) (barscanref04_Valid.f (k + 1) a0 a1 a2) := by
 intro a0 a1 a2 k
 unfold barscanref04_Valid.f
 have m0_ := @barscanref04_degree.mono
 have m1_ := @barscanref04_irreducible.mono
 have m2_ := @barscanref04_prime.mono
 exact zMo
theorem barscanref04_Valid.calls (k : Nat) (a0_0 : Int) (a0_1 : Int) (a0_2 : Int) (r : Bool) (w : World) (h : barscanref04_Valid.f k a0_0 a0_1 a0_2 = some r) :
  Calls Try.prog 26 #[.agg #[.int .i64 a0_0, .int .i64 a0_1, .int .i64 a0_2]] w fun e w' => e = .returned (.bool r) ∧ Below w.heap.size w w' := by
 have hu23 := Try.underlying23
 have HB := Aside0.mk (Below.refl w.heap.size w)
 have H := h
 unfold barscanref04_Valid.f at H
 clear h
 by_cases c2 : a0_0 = 2
 ·rw [if_pos c2] at H
  have c2b0 := beq_iff_eq.mpr c2
  have c2b1 := bne_eq_false_iff_eq.mpr c2
  clear c2
  obtain ⟨t136, A3, H⟩ := zD H
  by_cases c4 : t136 ≥ 1
  ·rw [if_pos c4] at H
   have c4b0 : decide (1 ≤ t136) = true := decide_eq_true c4
   clear c4
   by_cases c5 : t136 ≤ 12
   ·rw [if_pos c5] at H
    have c5b0 : decide (t136 ≤ 12) = true := decide_eq_true c5
    clear c5
    obtain ⟨ji6, hji6⟩ : ∃ j_ : Int, (IntKind.u64.wrap (t136)) = j_ := ⟨_, rfl⟩
    first | rw [hji6] at H | simp only [hji6] at H
    (try rw [hji6] at A3)
    by_cases c7 : 0 ≤ (ji6)
    ·rw [if_pos c7] at H
     have c7b0 := eq_true c7
     have c7b1 : decide (0 ≤ (ji6)) = true := decide_eq_true c7
     clear c7
     obtain ⟨ji8, hji8⟩ : ∃ j_ : Int, (shl .i64 1 (ji6)) = j_ := ⟨_, rfl⟩
     first | rw [hji8] at H | simp only [hji8] at H
     (try rw [hji8] at A3)
     have hji8_ : (IntKind.i64.wrap (1 * 2 ^ min (ji6).toNat 64)) = ji8 := hji8
     have hji8z : (ji6) ≤ 64 → (IntKind.i64.wrap (1 * 2 ^ (ji6).toNat)) = ji8 := shl_small hji8
     have hji8u : (IntKind.i64.wrap (2 ^ min (ji6).toNat 64)) = ji8 := by have h_ := hji8_; rw [Int.one_mul] at h_; exact h_
     have hji8v : (ji6) ≤ 64 → (IntKind.i64.wrap (2 ^ (ji6).toNat)) = ji8 := fun hle_ => by have h_ := hji8z hle_; rw [Int.one_mul] at h_; exact h_
     have hji8y : (wrap64 (1 * 2 ^ min (ji6).toNat 64)) = ji8 := (i64_w _).symm.trans hji8_
     have hji8x : (ji6) ≤ 64 → (wrap64 (1 * 2 ^ (ji6).toNat)) = ji8 := fun h_ => (i64_w _).symm.trans (hji8z h_)
     by_cases c9 : a0_1 = (ji8)
     ·rw [if_pos c9] at H
      have c9b0 := beq_iff_eq.mpr c9
      have c9b1 := bne_eq_false_iff_eq.mpr c9
      clear c9
      obtain ⟨ji10, hji10⟩ : ∃ j_ : Int, (IntKind.u64.wrap (wrap64 (t136 + 1))) = j_ := ⟨_, rfl⟩
      first | rw [hji10] at H | simp only [hji10] at H
      (try rw [hji10] at A3)
      by_cases c11 : 0 ≤ (ji10)
      ·rw [if_pos c11] at H
       have c11b0 := eq_true c11
       have c11b1 : decide (0 ≤ (ji10)) = true := decide_eq_true c11
       clear c11
       obtain ⟨ji12, hji12⟩ : ∃ j_ : Int, (shl .i64 1 (ji10)) = j_ := ⟨_, rfl⟩
       first | rw [hji12] at H | simp only [hji12] at H
       (try rw [hji12] at A3)
       have hji12_ : (IntKind.i64.wrap (1 * 2 ^ min (ji10).toNat 64)) = ji12 := hji12
       have hji12z : (ji10) ≤ 64 → (IntKind.i64.wrap (1 * 2 ^ (ji10).toNat)) = ji12 := shl_small hji12
       have hji12u : (IntKind.i64.wrap (2 ^ min (ji10).toNat 64)) = ji12 := by have h_ := hji12_; rw [Int.one_mul] at h_; exact h_
       have hji12v : (ji10) ≤ 64 → (IntKind.i64.wrap (2 ^ (ji10).toNat)) = ji12 := fun hle_ => by have h_ := hji12z hle_; rw [Int.one_mul] at h_; exact h_
       have hji12y : (wrap64 (1 * 2 ^ min (ji10).toNat 64)) = ji12 := (i64_w _).symm.trans hji12_
       have hji12x : (ji10) ≤ 64 → (wrap64 (1 * 2 ^ (ji10).toNat)) = ji12 := fun h_ => (i64_w _).symm.trans (hji12z h_)
       by_cases c13 : a0_2 < (ji12)
       ·rw [if_pos c13] at H
        have c13b0 : decide (a0_2 < (ji12)) = true := decide_eq_true c13
        clear c13
        obtain ⟨t137, A14, H⟩ := zD H
        obtain rfl := Option.some.inj H
        go_enter Try.func26, Try.ntmps26
        go_wp2_with (first | ((with_reducible refine gate_dst (N := 1) rfl ?_); refine zBox 1 #[.int .i64 a0_0, .int .i64 a0_1, .int .i64 a0_2] 23 ?_; clear HB; intro gb135 w15 BK135 GE135 HB; (try clear z135_0 z135_1 z135_2 f135_0 f135_1 f135_2); obtain ⟨z135_0, z135_1, z135_2, f135_0, f135_1, f135_2⟩ := cz3 BK135) | ((with_reducible refine gate_callee (f := 89) rfl ?_); refine gL (some 9) Try.func89 #[.int .i64 a0_1] ?_; (with_reducible refine (barscanref04_degree.calls k a0_1 t136 _ A3.out).mono ?_); rintro e w' ⟨rfl, ⟨nd, rfl⟩⟩; refine ⟨_, rfl, ?_⟩) | (go_at_call 85; (with_reducible refine (barscanref04_irreducible.calls k a0_2 t136 t137 _ A14.out).mono ?_); rintro e w' ⟨rfl, ⟨nd, rfl⟩⟩))
        go_ret
        exact ⟨by first | rfl | (simp [errW_none, errW_some] <;> rfl) | (simp only [← hji6, ← hji8, ← hji10, ← hji12]; first | rfl | (simp [errW_none, errW_some] <;> rfl)) | (simp [*, errW_none, errW_some] <;> rfl), zB⟩
       ·rw [if_neg c13] at H
        have c13b0 : decide (a0_2 < (ji12)) = false := decide_eq_false c13
        clear c13
        obtain rfl := Option.some.inj H
        go_enter Try.func26, Try.ntmps26
        go_wp2_with (first | ((with_reducible refine gate_dst (N := 1) rfl ?_); refine zBox 1 #[.int .i64 a0_0, .int .i64 a0_1, .int .i64 a0_2] 23 ?_; clear HB; intro gb135 w17 BK135 GE135 HB; (try clear z135_0 z135_1 z135_2 f135_0 f135_1 f135_2); obtain ⟨z135_0, z135_1, z135_2, f135_0, f135_1, f135_2⟩ := cz3 BK135) | ((with_reducible refine gate_callee (f := 89) rfl ?_); refine gL (some 9) Try.func89 #[.int .i64 a0_1] ?_; (with_reducible refine (barscanref04_degree.calls k a0_1 t136 _ A3.out).mono ?_); rintro e w' ⟨rfl, ⟨nd, rfl⟩⟩; refine ⟨_, rfl, ?_⟩))
        go_ret
        exact ⟨by first | rfl | (simp [errW_none, errW_some] <;> rfl) | (simp only [← hji6, ← hji8, ← hji10, ← hji12]; first | rfl | (simp [errW_none, errW_some] <;> rfl)) | (simp [*, errW_none, errW_some] <;> rfl), zB⟩
      ·rw [if_neg c11] at H
       exact absurd H (by simp)
     ·rw [if_neg c9] at H
      have c9b0 := beq_eq_false_iff_ne.mpr c9
      have c9b1 := bne_iff_ne.mpr c9
      obtain rfl := Option.some.inj H
      go_enter Try.func26, Try.ntmps26
      go_wp2_with (first | ((with_reducible refine gate_dst (N := 1) rfl ?_); refine zBox 1 #[.int .i64 a0_0, .int .i64 a0_1, .int .i64 a0_2] 23 ?_; clear HB; intro gb135 w19 BK135 GE135 HB; (try clear z135_0 z135_1 z135_2 f135_0 f135_1 f135_2); obtain ⟨z135_0, z135_1, z135_2, f135_0, f135_1, f135_2⟩ := cz3 BK135) | ((with_reducible refine gate_callee (f := 89) rfl ?_); refine gL (some 9) Try.func89 #[.int .i64 a0_1] ?_; (with_reducible refine (barscanref04_degree.calls k a0_1 t136 _ A3.out).mono ?_); rintro e w' ⟨rfl, ⟨nd, rfl⟩⟩; refine ⟨_, rfl, ?_⟩))
      go_ret
      exact ⟨by first | rfl | (simp [errW_none, errW_some] <;> rfl) | (simp only [← hji6, ← hji8]; first | rfl | (simp [errW_none, errW_some] <;> rfl)) | (simp [*, errW_none, errW_some] <;> rfl), zB⟩
    ·rw [if_neg c7] at H
     exact absurd H (by simp)
   ·rw [if_neg c5] at H
    have c5b0 : decide (t136 ≤ 12) = false := decide_eq_false c5
    clear c5
    obtain rfl := Option.some.inj H
    go_enter Try.func26, Try.ntmps26
    go_wp2_with (first | ((with_reducible refine gate_dst (N := 1) rfl ?_); refine zBox 1 #[.int .i64 a0_0, .int .i64 a0_1, .int .i64 a0_2] 23 ?_; clear HB; intro gb135 w21 BK135 GE135 HB; (try clear z135_0 z135_1 z135_2 f135_0 f135_1 f135_2); obtain ⟨z135_0, z135_1, z135_2, f135_0, f135_1, f135_2⟩ := cz3 BK135) | ((with_reducible refine gate_callee (f := 89) rfl ?_); refine gL (some 9) Try.func89 #[.int .i64 a0_1] ?_; (with_reducible refine (barscanref04_degree.calls k a0_1 t136 _ A3.out).mono ?_); rintro e w' ⟨rfl, ⟨nd, rfl⟩⟩; refine ⟨_, rfl, ?_⟩))
    go_ret
    exact ⟨zE, zB⟩
  ·rw [if_neg c4] at H
   have c4b0 : decide (1 ≤ t136) = false := decide_eq_false c4
   clear c4
   obtain rfl := Option.some.inj H
   go_enter Try.func26, Try.ntmps26
   go_wp2_with (first | ((with_reducible refine gate_dst (N := 1) rfl ?_); refine zBox 1 #[.int .i64 a0_0, .int .i64 a0_1, .int .i64 a0_2] 23 ?_; clear HB; intro gb135 w23 BK135 GE135 HB; (try clear z135_0 z135_1 z135_2 f135_0 f135_1 f135_2); obtain ⟨z135_0, z135_1, z135_2, f135_0, f135_1, f135_2⟩ := cz3 BK135) | ((with_reducible refine gate_callee (f := 89) rfl ?_); refine gL (some 9) Try.func89 #[.int .i64 a0_1] ?_; (with_reducible refine (barscanref04_degree.calls k a0_1 t136 _ A3.out).mono ?_); rintro e w' ⟨rfl, ⟨nd, rfl⟩⟩; refine ⟨_, rfl, ?_⟩))
   go_ret
   exact ⟨zE, zB⟩
 ·rw [if_neg c2] at H
  have c2b0 := beq_eq_false_iff_ne.mpr c2
  have c2b1 := bne_iff_ne.mpr c2
  by_cases c25 : a0_0 = a0_1
  ·rw [if_pos c25] at H
   have c25b0 := beq_iff_eq.mpr c25
   have c25b1 := bne_eq_false_iff_eq.mpr c25
   clear c25
   by_cases c26 : a0_2 = 0
   ·rw [if_pos c26] at H
    have c26b0 := beq_iff_eq.mpr c26
    have c26b1 := bne_eq_false_iff_eq.mpr c26
    clear c26
    by_cases c27 : a0_1 ≥ 3
    ·rw [if_pos c27] at H
     have c27b0 : decide (3 ≤ a0_1) = true := decide_eq_true c27
     clear c27
     by_cases c28 : a0_1 ≤ 4096
     ·rw [if_pos c28] at H
      have c28b0 : decide (a0_1 ≤ 4096) = true := decide_eq_true c28
      clear c28
      obtain ⟨t138, A29, H⟩ := zD H
      obtain rfl := Option.some.inj H
      go_enter Try.func26, Try.ntmps26
      go_wp2_with (first | ((with_reducible refine gate_dst (N := 1) rfl ?_); refine zBox 1 #[.int .i64 a0_0, .int .i64 a0_1, .int .i64 a0_2] 23 ?_; clear HB; intro gb135 w30 BK135 GE135 HB; (try clear z135_0 z135_1 z135_2 f135_0 f135_1 f135_2); obtain ⟨z135_0, z135_1, z135_2, f135_0, f135_1, f135_2⟩ := cz3 BK135) | (go_at_call 87; (with_reducible refine (barscanref04_prime.calls k a0_1 t138 _ A29.out).mono ?_); rintro e w' ⟨rfl, ⟨nd, rfl⟩⟩))
      go_ret
      exact ⟨zE, zB⟩
     ·rw [if_neg c28] at H
      have c28b0 : decide (a0_1 ≤ 4096) = false := decide_eq_false c28
      clear c28
      obtain rfl := Option.some.inj H
      go_enter Try.func26, Try.ntmps26
      go_wp2_with (first | ((with_reducible refine gate_dst (N := 1) rfl ?_); refine zBox 1 #[.int .i64 a0_0, .int .i64 a0_1, .int .i64 a0_2] 23 ?_; clear HB; intro gb135 w32 BK135 GE135 HB; (try clear z135_0 z135_1 z135_2 f135_0 f135_1 f135_2); obtain ⟨z135_0, z135_1, z135_2, f135_0, f135_1, f135_2⟩ := cz3 BK135))
      go_ret
      exact ⟨zE, zB⟩
    ·rw [if_neg c27] at H
     have c27b0 : decide (3 ≤ a0_1) = false := decide_eq_false c27
     clear c27
     obtain rfl := Option.some.inj H
     go_enter Try.func26, Try.ntmps26
     go_wp2_with (first | ((with_reducible refine gate_dst (N := 1) rfl ?_); refine zBox 1 #[.int .i64 a0_0, .int .i64 a0_1, .int .i64 a0_2] 23 ?_; clear HB; intro gb135 w34 BK135 GE135 HB; (try clear z135_0 z135_1 z135_2 f135_0 f135_1 f135_2); obtain ⟨z135_0, z135_1, z135_2, f135_0, f135_1, f135_2⟩ := cz3 BK135))
     go_ret
     exact ⟨zE, zB⟩
   ·rw [if_neg c26] at H
    have c26b0 := beq_eq_false_iff_ne.mpr c26
    have c26b1 := bne_iff_ne.mpr c26
    obtain rfl := Option.some.inj H
    go_enter Try.func26, Try.ntmps26
    go_wp2_with (first | ((with_reducible refine gate_dst (N := 1) rfl ?_); refine zBox 1 #[.int .i64 a0_0, .int .i64 a0_1, .int .i64 a0_2] 23 ?_; clear HB; intro gb135 w36 BK135 GE135 HB; (try clear z135_0 z135_1 z135_2 f135_0 f135_1 f135_2); obtain ⟨z135_0, z135_1, z135_2, f135_0, f135_1, f135_2⟩ := cz3 BK135))
    go_ret
    exact ⟨zE, zB⟩
  ·rw [if_neg c25] at H
   have c25b0 := beq_eq_false_iff_ne.mpr c25
   have c25b1 := bne_iff_ne.mpr c25
   obtain rfl := Option.some.inj H
   go_enter Try.func26, Try.ntmps26
   go_wp2_with (first | ((with_reducible refine gate_dst (N := 1) rfl ?_); refine zBox 1 #[.int .i64 a0_0, .int .i64 a0_1, .int .i64 a0_2] 23 ?_; clear HB; intro gb135 w38 BK135 GE135 HB; (try clear z135_0 z135_1 z135_2 f135_0 f135_1 f135_2); obtain ⟨z135_0, z135_1, z135_2, f135_0, f135_1, f135_2⟩ := cz3 BK135))
   go_ret
   exact ⟨zE, zB⟩
/-! ### galois_times: function 95 -/
def galois_times.l0 : Nat → Int → Int → Int → Int → Int → Int → Option (Int)
 | 0, _, _, _, _, _, _ => none
 | k + 1, x1, x2, x7, x140000, x140001, x140002 => if x2 > 0 then (if (Go.bits .and .i64 x2 1) = 1 then (if (wrap64 (x1 * 2)) ≥ x140001 then (galois_times.l0 k (Go.bits .xor .i64 (wrap64 (x1 * 2)) x140002) (x2 / 2) (Go.bits .xor .i64 x7 x1) x140000 x140001 x140002) else (galois_times.l0 k (wrap64 (x1 * 2)) (x2 / 2) (Go.bits .xor .i64 x7 x1) x140000 x140001 x140002)) else (if (wrap64 (x1 * 2)) ≥ x140001 then (galois_times.l0 k (Go.bits .xor .i64 (wrap64 (x1 * 2)) x140002) (x2 / 2) x7 x140000 x140001 x140002) else (galois_times.l0 k (wrap64 (x1 * 2)) (x2 / 2) x7 x140000 x140001 x140002))) else (some x7)
def galois_times.f (k : Nat) (a0_0 : Int) (a0_1 : Int) (a0_2 : Int) (a1 : Int) (a2 : Int) : Option (Int) := if a0_0 = 2 then (galois_times.l0 k a1 a2 0 a0_0 a0_1 a0_2) else (if a0_1 = 0 then (none) else (some (Int.tmod (wrap64 (a1 * a2)) a0_1)))
theorem galois_times.mono_l : ∀ k, (∀ y0 y1 y2 y3 y4 y5, LeO (galois_times.l0 k y0 y1 y2 y3 y4 y5) (galois_times.l0 (k + 1) y0 y1 y2 y3 y4 y5))
 | 0 => fun _ _ _ _ _ _ r h => by simp [galois_times.l0] at h
 | k + 1 => by
  have ih0 := galois_times.mono_l k
  ·intro y0 y1 y2 y3 y4 y5
   unfold galois_times.l0
   exact zMo
theorem galois_times.mono : ∀ a0 a1 a2 a3 a4 k, LeO (galois_times.f k a0 a1 a2 a3 a4) (galois_times.f (k + 1) a0 a1 a2 a3 a4) := by
 intro a0 a1 a2 a3 a4 k
 have ih0 := galois_times.mono_l k
 unfold galois_times.f
 exact zMo
theorem galois_times.calls (k : Nat) (a0_0 : Int) (a0_1 : Int) (a0_2 : Int) (a1 : Int) (a2 : Int) (r : Int) (w : World) (h : galois_times.f k a0_0 a0_1 a0_2 a1 a2 = some r) :
  Calls Try.prog 95 #[.agg #[.int .i64 a0_0, .int .i64 a0_1, .int .i64 a0_2], .int .i64 a1, .int .i64 a2] w fun e w' => e = .returned (.int .i64 r) ∧ Below w.heap.size w w' := by
 have hu23 := Try.underlying23
 have HB := Aside0.mk (Below.refl w.heap.size w)
 have H := h
 unfold galois_times.f at H
 clear h
 by_cases c4 : a0_0 = 2
 ·rw [if_pos c4] at H
  have c4b0 := beq_iff_eq.mpr c4
  have c4b1 := bne_eq_false_iff_eq.mpr c4
  clear c4
  have H' := zA H
  clear H
  go_enter Try.func95, Try.ntmps95
  go_wp2_with (first | ((with_reducible refine gate_dst (N := 3) rfl ?_); refine zBox 3 #[.int .i64 a0_0, .int .i64 a0_1, .int .i64 a0_2] 23 ?_; clear HB; intro gb139 w5 BK139 GE139 HB; (try clear z139_0 z139_1 z139_2 f139_0 f139_1 f139_2); obtain ⟨z139_0, z139_1, z139_2, f139_0, f139_1, f139_2⟩ := cz3 BK139))
  go_loopg [1, 2, 7] k (fun kq v1 v2 v7 w' => ∃ (x1_1 : Int) (x2_1 : Int) (x7_1 : Int), v1 = .int .i64 x1_1 ∧ v2 = .int .i64 x2_1 ∧ v7 = .int .i64 x7_1 ∧ Aside0 (galois_times.l0 kq x1_1 x2_1 x7_1 a0_0 a0_1 a0_2 = some r) ∧ Aside0 (kq ≤ k) ∧ Aside0 (w'.heap[gb139]? = some (.cells #[.int .i64 a0_0, .int .i64 a0_1, .int .i64 a0_2] 23 (0, 0))) ∧ Aside0 (Below w.heap.size w w'))
  case atStart => exact ⟨(a1), (a2), (0), zR, zR, zR, H', ⟨Nat.le_refl _⟩, ⟨zK BK139⟩, ⟨zB⟩⟩
  case round =>
   clear H'
   try clear p2
   try clear c4
   try clear c4b0
   try clear c4b1
   try clear p6
   try clear z139_0 z139_1 z139_2 f139_0 f139_1 f139_2
   obtain ⟨x1_1, x2_1, x7_1, rfl, rfl, rfl, HA, HK1, BK139, HB⟩ := hrel
   cases gk with
   | zero => exact absurd HA.out (by simp [galois_times.l0])
   | succ k1 =>
    have H := HA.out
    clear HA
    simp only [galois_times.l0] at H
    by_cases c7 : x2_1 > 0
    ·rw [if_pos c7] at H
     have c7b0 : decide (0 < x2_1) = true := decide_eq_true c7
     clear c7
     by_cases c8 : (Go.bits .and .i64 x2_1 1) = 1
     ·rw [if_pos c8] at H
      have c8b0 := beq_iff_eq.mpr c8
      have c8b1 := bne_eq_false_iff_eq.mpr c8
      clear c8
      by_cases c9 : (wrap64 (x1_1 * 2)) ≥ a0_1
      ·rw [if_pos c9] at H
       have c9b0 : decide (a0_1 ≤ (wrap64 (x1_1 * 2))) = true := decide_eq_true c9
       clear c9
       have H' := zA H
       clear H
       (try clear z139_0 z139_1 z139_2 f139_0 f139_1 f139_2)
       obtain ⟨z139_0, z139_1, z139_2, f139_0, f139_1, f139_2⟩ := cz3 BK139
       go_wp2
       go_roundg k1
       case measure => have := HK1.out; omega
       case rel => exact ⟨(Go.bits .xor .i64 (wrap64 (x1_1 * 2)) a0_2), (x2_1 / 2), (Go.bits .xor .i64 x7_1 x1_1), zR, zR, zR, H', zH, ⟨zK BK139⟩, ⟨zB⟩⟩
      ·rw [if_neg c9] at H
       have c9b0 : decide (a0_1 ≤ (wrap64 (x1_1 * 2))) = false := decide_eq_false c9
       clear c9
       have H' := zA H
       clear H
       (try clear z139_0 z139_1 z139_2 f139_0 f139_1 f139_2)
       obtain ⟨z139_0, z139_1, z139_2, f139_0, f139_1, f139_2⟩ := cz3 BK139
       go_wp2
       go_roundg k1
       case measure => have := HK1.out; omega
       case rel => exact ⟨(wrap64 (x1_1 * 2)), (x2_1 / 2), (Go.bits .xor .i64 x7_1 x1_1), zR, zR, zR, H', zH, ⟨zK BK139⟩, ⟨zB⟩⟩
     ·rw [if_neg c8] at H
      have c8b0 := beq_eq_false_iff_ne.mpr c8
      have c8b1 := bne_iff_ne.mpr c8
      by_cases c12 : (wrap64 (x1_1 * 2)) ≥ a0_1
      ·rw [if_pos c12] at H
       have c12b0 : decide (a0_1 ≤ (wrap64 (x1_1 * 2))) = true := decide_eq_true c12
       clear c12
       have H' := zA H
       clear H
       (try clear z139_0 z139_1 z139_2 f139_0 f139_1 f139_2)
       obtain ⟨z139_0, z139_1, z139_2, f139_0, f139_1, f139_2⟩ := cz3 BK139
       go_wp2
       go_roundg k1
       case measure => have := HK1.out; omega
       case rel => exact ⟨(Go.bits .xor .i64 (wrap64 (x1_1 * 2)) a0_2), (x2_1 / 2), (x7_1), zR, zR, zR, H', zH, ⟨zK BK139⟩, ⟨zB⟩⟩
      ·rw [if_neg c12] at H
       have c12b0 : decide (a0_1 ≤ (wrap64 (x1_1 * 2))) = false := decide_eq_false c12
       clear c12
       have H' := zA H
       clear H
       (try clear z139_0 z139_1 z139_2 f139_0 f139_1 f139_2)
       obtain ⟨z139_0, z139_1, z139_2, f139_0, f139_1, f139_2⟩ := cz3 BK139
       go_wp2
       go_roundg k1
       case measure => have := HK1.out; omega
       case rel => exact ⟨(wrap64 (x1_1 * 2)), (x2_1 / 2), (x7_1), zR, zR, zR, H', zH, ⟨zK BK139⟩, ⟨zB⟩⟩
    ·rw [if_neg c7] at H
     have c7b0 : decide (0 < x2_1) = false := decide_eq_false c7
     clear c7
     obtain rfl := Option.some.inj H
     go_wp2
     go_ret
     exact ⟨zE, zB⟩
 ·rw [if_neg c4] at H
  have c4b0 := beq_eq_false_iff_ne.mpr c4
  have c4b1 := bne_iff_ne.mpr c4
  by_cases c15 : a0_1 = 0
  ·rw [if_pos c15] at H
   exact absurd H (by simp)
  ·rw [if_neg c15] at H
   have c15b0 := beq_eq_false_iff_ne.mpr c15
   have c15b1 := bne_iff_ne.mpr c15
   obtain rfl := Option.some.inj H
   go_enter Try.func95, Try.ntmps95
   go_wp2_with (first | ((with_reducible refine gate_dst (N := 3) rfl ?_); refine zBox 3 #[.int .i64 a0_0, .int .i64 a0_1, .int .i64 a0_2] 23 ?_; clear HB; intro gb139 w16 BK139 GE139 HB; (try clear z139_0 z139_1 z139_2 f139_0 f139_1 f139_2); obtain ⟨z139_0, z139_1, z139_2, f139_0, f139_1, f139_2⟩ := cz3 BK139))
   go_ret
   exact ⟨zE, zB⟩
/-! ### galois_order: function 91 -/
def galois_order.l0 : Nat → Int → Int → Int → Int → Int → Int → Option (Int)
 | 0, _, _, _, _, _, _ => none
 | k + 1, x1, x5, x6, x141000, x141001, x141002 => if x6 = 1 then (some x5) else ((galois_times.f k x141000 x141001 x141002 x6 x1).bind fun t141 => (galois_order.l0 k x1 (wrap64 (x5 + 1)) t141 x141000 x141001 x141002))
def galois_order.f (k : Nat) (a0_0 : Int) (a0_1 : Int) (a0_2 : Int) (a1 : Int) : Option (Int) := galois_order.l0 k a1 1 a1 a0_0 a0_1 a0_2
theorem galois_order.mono_l : ∀ k, (∀ y0 y1 y2 y3 y4 y5, LeO (galois_order.l0 k y0 y1 y2 y3 y4 y5) (galois_order.l0 (k + 1) y0 y1 y2 y3 y4 y5))
 | 0 => fun _ _ _ _ _ _ r h => by simp [galois_order.l0] at h
 | k + 1 => by
  have ih0 := galois_order.mono_l k
  ·intro y0 y1 y2 y3 y4 y5
   unfold galois_order.l0
   have m0_ := @galois_times.mono
   exact zMo
theorem galois_order.mono : ∀ a0 a1 a2 a3 k, LeO (galois_order.f k a0 a1 a2 a3) (galois_order.f (k + 1) a0 a1 a2 a3) := by
 intro a0 a1 a2 a3 k
 have ih0 := galois_order.mono_l k
 unfold galois_order.f
 have m0_ := @galois_times.mono
 exact zMo
theorem galois_order.calls (k : Nat) (a0_0 : Int) (a0_1 : Int) (a0_2 : Int) (a1 : Int) (r : Int) (w : World) (h : galois_order.f k a0_0 a0_1 a0_2 a1 = some r) :
  Calls Try.prog 91 #[.agg #[.int .i64 a0_0, .int .i64 a0_1, .int .i64 a0_2], .int .i64 a1] w fun e w' => e = .returned (.int .i64 r) ∧ Below w.heap.size w w' := by
 have hu23 := Try.underlying23
 have HB := Aside0.mk (Below.refl w.heap.size w)
 have H := h
 unfold galois_order.f at H
 clear h
 have H' := zA H
 clear H
 go_enter Try.func91, Try.ntmps91
 go_wp2_with (first | ((with_reducible refine gate_dst (N := 2) rfl ?_); refine zBox 2 #[.int .i64 a0_0, .int .i64 a0_1, .int .i64 a0_2] 23 ?_; clear HB; intro gb140 w3 BK140 GE140 HB))
 go_loopg [5, 6] k (fun kq v5 v6 w' => ∃ (x5_1 : Int) (x6_1 : Int), v5 = .int .i64 x5_1 ∧ v6 = .int .i64 x6_1 ∧ Aside0 (galois_order.l0 kq a1 x5_1 x6_1 a0_0 a0_1 a0_2 = some r) ∧ Aside0 (kq ≤ k) ∧ Aside0 (w'.heap[gb140]? = some (.cells #[.int .i64 a0_0, .int .i64 a0_1, .int .i64 a0_2] 23 (0, 0))) ∧ Aside0 (Below w.heap.size w w'))
 case atStart => exact ⟨(1), (a1), zR, zR, H', ⟨Nat.le_refl _⟩, ⟨zK BK140⟩, ⟨zB⟩⟩
 case round =>
  clear H'
  try clear p2
  obtain ⟨x5_1, x6_1, rfl, rfl, HA, HK1, BK140, HB⟩ := hrel
  cases gk with
  | zero => exact absurd HA.out (by simp [galois_order.l0])
  | succ k1 =>
   have H := HA.out
   clear HA
   simp only [galois_order.l0] at H
   by_cases c4 : x6_1 = 1
   ·rw [if_pos c4] at H
    have c4b0 := beq_iff_eq.mpr c4
    have c4b1 := bne_eq_false_iff_eq.mpr c4
    clear c4
    obtain rfl := Option.some.inj H
    go_wp2
    go_ret
    exact ⟨zE, zB⟩
   ·rw [if_neg c4] at H
    have c4b0 := beq_eq_false_iff_ne.mpr c4
    have c4b1 := bne_iff_ne.mpr c4
    obtain ⟨t141, A5, H⟩ := zD H
    have H' := zA H
    clear H
    (try clear z140_0 z140_1 z140_2 f140_0 f140_1 f140_2)
    obtain ⟨z140_0, z140_1, z140_2, f140_0, f140_1, f140_2⟩ := cz3 BK140
    go_wp2_with (first | ((with_reducible refine gate_callee (f := 95) rfl ?_); refine gL (some 13) Try.func95 #[.agg #[.int .i64 a0_0, .int .i64 a0_1, .int .i64 a0_2], .int .i64 x6_1, .int .i64 a1] ?_; (with_reducible refine zCall (galois_times.calls k1 a0_0 a0_1 a0_2 x6_1 a1 t141 _ A5.out) ?_); intro w7 hb; replace BK140 := bB BK140 hb; replace HB := bS hb; (try clear hb)))
    go_roundg k1
    case measure => have := HK1.out; omega
    case rel => exact ⟨(wrap64 (x5_1 + 1)), (t141), zR, zR, H', zH, ⟨zK BK140⟩, ⟨zB⟩⟩
/-! ### galois_member: function 90 -/
def galois_member.l0 : Nat → List Int → Int → Int → Int → Int → Int → Option (Bool)
 | 0, _, _, _, _, _, _ => none
 | k + 1, x7, x8, x9, x146000, x146001, x146002 => if x9 < x8 then (if 0 ≤ x9 then (if x9 < (x7.length : Int) then (if (rd x7 x9) < 0 then (some false) else (if (rd x7 x9) ≥ x146001 then (some false) else (galois_member.l0 k x7 x8 (wrap64 (x9 + 1)) x146000 x146001 x146002))) else (none)) else (none)) else ((galois_Valid.f k x146000 x146001 x146002).bind fun t147 => (some t147))
def galois_member.f (k : Nat) (a0_0 : Int) (a0_1 : Int) (a0_2 : Int) (l1 : List Int) : Option (Bool) := galois_member.l0 k l1 (l1.length : Int) 0 a0_0 a0_1 a0_2
theorem galois_member.mono_l : ∀ k, (∀ y0 y1 y2 y3 y4 y5, LeO (galois_member.l0 k y0 y1 y2 y3 y4 y5) (galois_member.l0 (k + 1) y0 y1 y2 y3 y4 y5))
 | 0 => fun _ _ _ _ _ _ r h => by simp [galois_member.l0] at h
 | k + 1 => by
  have ih0 := galois_member.mono_l k
  ·intro y0 y1 y2 y3 y4 y5
   unfold galois_member.l0
   have m0_ := @galois_Valid.mono
   exact zMo
theorem galois_member.mono : ∀ a0 a1 a2 a3 k, LeO (galois_member.f k a0 a1 a2 a3) (galois_member.f (k + 1) a0 a1 a2 a3) := by
 intro a0 a1 a2 a3 k
 have ih0 := galois_member.mono_l k
 unfold galois_member.f
 have m0_ := @galois_Valid.mono
 exact zMo
theorem galois_member.calls (k : Nat) (a0_0 : Int) (a0_1 : Int) (a0_2 : Int) (A1 : Option Addr) (c1 : Nat) (l1 : List Int) (r : Bool) (w : World) (hr1 : Kd.C (Kd.int .i64) w A1 l1.length l1) (hc1 : l1.length ≤ c1) (h : galois_member.f k a0_0 a0_1 a0_2 l1 = some r) :
  Calls Try.prog 90 #[.agg #[.int .i64 a0_0, .int .i64 a0_1, .int .i64 a0_2], .slice A1 l1.length c1] w fun e w' => e = .returned (.bool r) ∧ Below w.heap.size w w' := by
 have hu23 := Try.underlying23
 have HR1 := Aside0.mk hr1
 have HC1 := Aside0.mk hc1
 clear hr1 hc1
 have HB := Aside0.mk (Below.refl w.heap.size w)
 have H := h
 unfold galois_member.f at H
 clear h
 have H' := zA H
 clear H
 go_enter Try.func90, Try.ntmps90
 go_wp2_with (first | ((with_reducible refine gate_dst (N := 2) rfl ?_); refine zBox 2 #[.int .i64 a0_0, .int .i64 a0_1, .int .i64 a0_2] 23 ?_; clear HB; intro gb145 w3 BK145 GE145 HB))
 go_loopg [9] k (fun kq v9 w' => ∃ (x9_1 : Int), v9 = .int .i64 x9_1 ∧ Aside0 (galois_member.l0 kq l1 (l1.length : Int) x9_1 a0_0 a0_1 a0_2 = some r) ∧ Aside0 (kq ≤ k) ∧ Aside0 (w'.heap[gb145]? = some (.cells #[.int .i64 a0_0, .int .i64 a0_1, .int .i64 a0_2] 23 (0, 0))) ∧ Aside0 (Below w.heap.size w w'))
 case atStart => exact ⟨(0), zR, H', ⟨Nat.le_refl _⟩, ⟨zK BK145⟩, ⟨zB⟩⟩
 case round =>
  clear H'
  try clear c1
  try clear p2
  obtain ⟨x9_1, rfl, HA, HK1, BK145, HB⟩ := hrel
  cases gk with
  | zero => exact absurd HA.out (by simp [galois_member.l0])
  | succ k1 =>
   have H := HA.out
   clear HA
   simp only [galois_member.l0] at H
   by_cases c4 : x9_1 < (l1.length : Int)
   ·rw [if_pos c4] at H
    have c4b0 : decide (x9_1 < (l1.length : Int)) = true := decide_eq_true c4
    clear c4
    by_cases c5 : 0 ≤ x9_1
    ·rw [if_pos c5] at H
     have c5b0 : decide (0 ≤ x9_1) = true := decide_eq_true c5
     clear c5
     by_cases c6 : x9_1 < (l1.length : Int)
     ·rw [if_pos c6] at H
      have c6b0 : decide (x9_1 < (l1.length : Int)) = true := decide_eq_true c6
      clear c6
      by_cases c7 : (rd l1 x9_1) < 0
      ·rw [if_pos c7] at H
       have c7b0 : decide ((rd l1 x9_1) < 0) = true := decide_eq_true c7
       clear c7
       obtain rfl := Option.some.inj H
       have p146 : 0 ≤ (x9_1 : Int) := of_decide_eq_true (by first | (with_reducible assumption) | assumption)
       have q146 : x9_1 < (l1.length : Int) := of_decide_eq_true (by first | (with_reducible assumption) | assumption)
       obtain ⟨ad146, e146, hx146_0⟩ := Kd.at_int HR1.out x9_1 p146 q146
       cases e146
       replace hx146_0 := (HB.out.cell (World.block_lt_of_cell? w _ hx146_0)).trans hx146_0
       replace p146 := eq_true p146
       replace q146 := eq_true q146
       go_wp2
       go_ret
       exact ⟨zE, zB⟩
      ·rw [if_neg c7] at H
       have c7b0 : decide ((rd l1 x9_1) < 0) = false := decide_eq_false c7
       clear c7
       by_cases c8 : (rd l1 x9_1) ≥ a0_1
       ·rw [if_pos c8] at H
        have c8b0 : decide (a0_1 ≤ (rd l1 x9_1)) = true := decide_eq_true c8
        clear c8
        obtain rfl := Option.some.inj H
        have p146 : 0 ≤ (x9_1 : Int) := of_decide_eq_true (by first | (with_reducible assumption) | assumption)
        have q146 : x9_1 < (l1.length : Int) := of_decide_eq_true (by first | (with_reducible assumption) | assumption)
        obtain ⟨ad146, e146, hx146_0⟩ := Kd.at_int HR1.out x9_1 p146 q146
        cases e146
        replace hx146_0 := (HB.out.cell (World.block_lt_of_cell? w _ hx146_0)).trans hx146_0
        replace p146 := eq_true p146
        replace q146 := eq_true q146
        (try clear z145_0 z145_1 z145_2 f145_0 f145_1 f145_2)
        obtain ⟨z145_0, z145_1, z145_2, f145_0, f145_1, f145_2⟩ := cz3 BK145
        go_wp2
        go_ret
        exact ⟨zE, zB⟩
       ·rw [if_neg c8] at H
        have c8b0 : decide (a0_1 ≤ (rd l1 x9_1)) = false := decide_eq_false c8
        clear c8
        have H' := zA H
        clear H
        have p146 : 0 ≤ (x9_1 : Int) := of_decide_eq_true (by first | (with_reducible assumption) | assumption)
        have q146 : x9_1 < (l1.length : Int) := of_decide_eq_true (by first | (with_reducible assumption) | assumption)
        obtain ⟨ad146, e146, hx146_0⟩ := Kd.at_int HR1.out x9_1 p146 q146
        cases e146
        replace hx146_0 := (HB.out.cell (World.block_lt_of_cell? w _ hx146_0)).trans hx146_0
        replace p146 := eq_true p146
        replace q146 := eq_true q146
        (try clear z145_0 z145_1 z145_2 f145_0 f145_1 f145_2)
        obtain ⟨z145_0, z145_1, z145_2, f145_0, f145_1, f145_2⟩ := cz3 BK145
        go_wp2
        go_roundg k1
        case measure => have := HK1.out; omega
        case rel => exact ⟨(wrap64 (x9_1 + 1)), zR, H', zH, ⟨zK BK145⟩, ⟨zB⟩⟩
     ·rw [if_neg c6] at H
      exact absurd H (by simp)
    ·rw [if_neg c5] at H
     exact absurd H (by simp)
   ·rw [if_neg c4] at H
    have c4b0 : decide (x9_1 < (l1.length : Int)) = false := decide_eq_false c4
    clear c4
    obtain ⟨t147, A11, H⟩ := zD H
    obtain rfl := Option.some.inj H
    (try clear z145_0 z145_1 z145_2 f145_0 f145_1 f145_2)
    obtain ⟨z145_0, z145_1, z145_2, f145_0, f145_1, f145_2⟩ := cz3 BK145
    go_wp2_with (first | ((with_reducible refine gate_callee (f := 25) rfl ?_); refine gL (some 23) Try.func25 #[.agg #[.int .i64 a0_0, .int .i64 a0_1, .int .i64 a0_2]] ?_; (with_reducible refine zCall (galois_Valid.calls k1 a0_0 a0_1 a0_2 t147 _ A11.out) ?_); intro w13 hb; replace BK145 := bB BK145 hb; replace HB := bS hb; (try clear hb)))
    go_ret
    exact ⟨zE, zB⟩
/-! ### galois_power: function 104 -/
def galois_power.l0 : Nat → Int → Int → Int → Int → Int → Int → Option (Int)
 | 0, _, _, _, _, _, _ => none
 | k + 1, x1, x2, x7, x167000, x167001, x167002 => if x2 > 0 then (if (Go.bits .and .i64 x2 1) = 1 then ((galois_times.f k x167000 x167001 x167002 x7 x1).bind fun t167 => ((galois_times.f k x167000 x167001 x167002 x1 x1).bind fun t168 => (galois_power.l0 k t168 (x2 / 2) t167 x167000 x167001 x167002))) else ((galois_times.f k x167000 x167001 x167002 x1 x1).bind fun t169 => (galois_power.l0 k t169 (x2 / 2) x7 x167000 x167001 x167002))) else (some x7)
def galois_power.f (k : Nat) (a0_0 : Int) (a0_1 : Int) (a0_2 : Int) (a1 : Int) (a2 : Int) : Option (Int) := galois_power.l0 k a1 a2 1 a0_0 a0_1 a0_2
theorem galois_power.mono_l : ∀ k, (∀ y0 y1 y2 y3 y4 y5, LeO (galois_power.l0 k y0 y1 y2 y3 y4 y5) (galois_power.l0 (k + 1) y0 y1 y2 y3 y4 y5))
 | 0 => fun _ _ _ _ _ _ r h => by simp [galois_power.l0] at h
 | k + 1 => by
  have ih0 := galois_power.mono_l k
  ·intro y0 y1 y2 y3 y4 y5
   unfold galois_power.l0
   have m0_ := @galois_times.mono
   exact zMo
theorem galois_power.mono : ∀ a0 a1 a2 a3 a4 k, LeO (galois_power.f k a0 a1 a2 a3 a4) (galois_power.f (k + 1) a0 a1 a2 a3 a4) := by
 intro a0 a1 a2 a3 a4 k
 have ih0 := galois_power.mono_l k
 unfold galois_power.f
 have m0_ := @galois_times.mono
 exact zMo
theorem galois_power.calls (k : Nat) (a0_0 : Int) (a0_1 : Int) (a0_2 : Int) (a1 : Int) (a2 : Int) (r : Int) (w : World) (h : galois_power.f k a0_0 a0_1 a0_2 a1 a2 = some r) :
  Calls Try.prog 104 #[.agg #[.int .i64 a0_0, .int .i64 a0_1, .int .i64 a0_2], .int .i64 a1, .int .i64 a2] w fun e w' => e = .returned (.int .i64 r) ∧ Below w.heap.size w w' := by
 have hu23 := Try.underlying23
 have HB := Aside0.mk (Below.refl w.heap.size w)
 have H := h
 unfold galois_power.f at H
 clear h
 have H' := zA H
 clear H
 go_enter Try.func104, Try.ntmps104
 go_wp2_with (first | ((with_reducible refine gate_dst (N := 3) rfl ?_); refine zBox 3 #[.int .i64 a0_0, .int .i64 a0_1, .int .i64 a0_2] 23 ?_; clear HB; intro gb166 w4 BK166 GE166 HB))
 go_loopg [1, 2, 7] k (fun kq v1 v2 v7 w' => ∃ (x1_1 : Int) (x2_1 : Int) (x7_1 : Int), v1 = .int .i64 x1_1 ∧ v2 = .int .i64 x2_1 ∧ v7 = .int .i64 x7_1 ∧ Aside0 (galois_power.l0 kq x1_1 x2_1 x7_1 a0_0 a0_1 a0_2 = some r) ∧ Aside0 (kq ≤ k) ∧ Aside0 (w'.heap[gb166]? = some (.cells #[.int .i64 a0_0, .int .i64 a0_1, .int .i64 a0_2] 23 (0, 0))) ∧ Aside0 (Below w.heap.size w w'))
 case atStart => exact ⟨(a1), (a2), (1), zR, zR, zR, H', ⟨Nat.le_refl _⟩, ⟨zK BK166⟩, ⟨zB⟩⟩
 case round =>
  clear H'
  try clear c1
  try clear p2
  obtain ⟨x1_1, x2_1, x7_1, rfl, rfl, rfl, HA, HK1, BK166, HB⟩ := hrel
  cases gk with
  | zero => exact absurd HA.out (by simp [galois_power.l0])
  | succ k1 =>
   have H := HA.out
   clear HA
   simp only [galois_power.l0] at H
   by_cases c5 : x2_1 > 0
   ·rw [if_pos c5] at H
    have c5b0 : decide (0 < x2_1) = true := decide_eq_true c5
    clear c5
    by_cases c6 : (Go.bits .and .i64 x2_1 1) = 1
    ·rw [if_pos c6] at H
     have c6b0 := beq_iff_eq.mpr c6
     have c6b1 := bne_eq_false_iff_eq.mpr c6
     clear c6
     obtain ⟨t167, A7, H⟩ := zD H
     obtain ⟨t168, A8, H⟩ := zD H
     have H' := zA H
     clear H
     (try clear z166_0 z166_1 z166_2 f166_0 f166_1 f166_2)
     obtain ⟨z166_0, z166_1, z166_2, f166_0, f166_1, f166_2⟩ := cz3 BK166
     go_wp2_with (first | ((with_reducible refine gate_callee (f := 95) rfl ?_); refine gL (some 18) Try.func95 #[.agg #[.int .i64 a0_0, .int .i64 a0_1, .int .i64 a0_2], .int .i64 x7_1, .int .i64 x1_1] ?_; (with_reducible refine zCall (galois_times.calls k1 a0_0 a0_1 a0_2 x7_1 x1_1 t167 _ A7.out) ?_); intro w10 hb; replace BK166 := bB BK166 hb; replace HB := bS hb; (try clear hb); (try clear z166_0 z166_1 z166_2 f166_0 f166_1 f166_2); obtain ⟨z166_0, z166_1, z166_2, f166_0, f166_1, f166_2⟩ := cz3 BK166) | ((with_reducible refine gate_callee (f := 95) rfl ?_); refine gL (some 22) Try.func95 #[.agg #[.int .i64 a0_0, .int .i64 a0_1, .int .i64 a0_2], .int .i64 x1_1, .int .i64 x1_1] ?_; (with_reducible refine zCall (galois_times.calls k1 a0_0 a0_1 a0_2 x1_1 x1_1 t168 _ A8.out) ?_); intro w12 hb; replace BK166 := bB BK166 hb; replace HB := bS hb; (try clear hb)))
     go_roundg k1
     case measure => have := HK1.out; omega
     case rel => exact ⟨(t168), (x2_1 / 2), (t167), zR, zR, zR, H', zH, ⟨zK BK166⟩, ⟨zB⟩⟩
    ·rw [if_neg c6] at H
     have c6b0 := beq_eq_false_iff_ne.mpr c6
     have c6b1 := bne_iff_ne.mpr c6
     obtain ⟨t169, A13, H⟩ := zD H
     have H' := zA H
     clear H
     (try clear z166_0 z166_1 z166_2 f166_0 f166_1 f166_2)
     obtain ⟨z166_0, z166_1, z166_2, f166_0, f166_1, f166_2⟩ := cz3 BK166
     go_wp2_with (first | ((with_reducible refine gate_callee (f := 95) rfl ?_); refine gL (some 22) Try.func95 #[.agg #[.int .i64 a0_0, .int .i64 a0_1, .int .i64 a0_2], .int .i64 x1_1, .int .i64 x1_1] ?_; (with_reducible refine zCall (galois_times.calls k1 a0_0 a0_1 a0_2 x1_1 x1_1 t169 _ A13.out) ?_); intro w15 hb; replace BK166 := bB BK166 hb; replace HB := bS hb; (try clear hb)))
     go_roundg k1
     case measure => have := HK1.out; omega
     case rel => exact ⟨(t169), (x2_1 / 2), (x7_1), zR, zR, zR, H', zH, ⟨zK BK166⟩, ⟨zB⟩⟩
   ·rw [if_neg c5] at H
    have c5b0 : decide (0 < x2_1) = false := decide_eq_false c5
    clear c5
    obtain rfl := Option.some.inj H
    go_wp2
    go_ret
    exact ⟨zE, zB⟩
/-! ### galois_inverse: function 99 -/
def galois_inverse.f (k : Nat) (a0_0 : Int) (a0_1 : Int) (a0_2 : Int) (a1 : Int) : Option (Int) := (galois_power.f k a0_0 a0_1 a0_2 a1 (wrap64 (a0_1 - 2))).bind fun t171 => (some t171)
theorem galois_inverse.mono : ∀ a0 a1 a2 a3 k, LeO (galois_inverse.f k a0 a1 a2 a3) (galois_inverse.f (k + 1) a0 a1 a2 a3) := by
 intro a0 a1 a2 a3 k
 unfold galois_inverse.f
 have m0_ := @galois_power.mono
 exact zMo
theorem galois_inverse.calls (k : Nat) (a0_0 : Int) (a0_1 : Int) (a0_2 : Int) (a1 : Int) (r : Int) (w : World) (h : galois_inverse.f k a0_0 a0_1 a0_2 a1 = some r) :
  Calls Try.prog 99 #[.agg #[.int .i64 a0_0, .int .i64 a0_1, .int .i64 a0_2], .int .i64 a1] w fun e w' => e = .returned (.int .i64 r) ∧ Below w.heap.size w w' := by
 have hu23 := Try.underlying23
 have HB := Aside0.mk (Below.refl w.heap.size w)
 have H := h
 unfold galois_inverse.f at H
 clear h
 obtain ⟨t171, A3, H⟩ := zD H
 obtain rfl := Option.some.inj H
 go_enter Try.func99, Try.ntmps99
 go_wp2_with (first | ((with_reducible refine gate_dst (N := 2) rfl ?_); refine zBox 2 #[.int .i64 a0_0, .int .i64 a0_1, .int .i64 a0_2] 23 ?_; clear HB; intro gb170 w4 BK170 GE170 HB; (try clear z170_0 z170_1 z170_2 f170_0 f170_1 f170_2); obtain ⟨z170_0, z170_1, z170_2, f170_0, f170_1, f170_2⟩ := cz3 BK170) | ((with_reducible refine gate_callee (f := 104) rfl ?_); refine gL (some 10) Try.func104 #[.agg #[.int .i64 a0_0, .int .i64 a0_1, .int .i64 a0_2], .int .i64 a1, .int .i64 (wrap64 (a0_1 - 2))] ?_; (with_reducible refine zCall (galois_power.calls k a0_0 a0_1 a0_2 a1 (wrap64 (a0_1 - 2)) t171 _ A3.out) ?_); intro w6 hb; replace BK170 := bB BK170 hb; replace HB := bS hb; (try clear hb)))
 go_ret
 exact ⟨zE, zB⟩
end Go.Proofs.Ytlhaclammaaabaa.Pg
