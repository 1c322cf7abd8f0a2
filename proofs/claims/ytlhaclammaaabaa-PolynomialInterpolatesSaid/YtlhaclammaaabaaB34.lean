-- Written by a program of this session over the print of the kit.
import Derived.Test.YtlhaclammaaabaaY
import Derived.Test.YtlhaclammaaabaaB0
import Derived.Test.YtlhaclammaaabaaB1
import Derived.Test.YtlhaclammaaabaaB2
import Derived.Test.YtlhaclammaaabaaB13
import Derived.Test.YtlhaclammaaabaaB32
import Derived.Test.YtlhaclammaaabaaB33
namespace Go.Proofs.Ytlhaclammaaabaa.Pg
open Go.RowKit Go.Proofs.YtlhaclammaaabaaW.PrintWords Go.Proofs.YtlhaclammaaabaaW.PrintLast Go.Proofs.YtlhaclammaaabaaW.PrintMore
attribute [local go_sem] max2_int min2_int max_two min_two max_three min_three max_four min_four
set_option linter.unusedVariables false
set_option maxHeartbeats 8000000
set_option maxRecDepth 100000
set_option linter.unusedSimpArgs false
/-! ### barscanref05_twice: function 119 -/
mutual
def barscanref05_twice.l0 : Nat → List Int → Int → Option (Bool)
 | 0, _, _ => none
 | k + 1, x0, x3 => if x3 < (x0.length : Int) then (barscanref05_twice.l1 k x0 x3 0) else (some false)
def barscanref05_twice.l1 : Nat → List Int → Int → Int → Option (Bool)
 | 0, _, _, _ => none
 | k + 1, x0, x3, x4 => if x4 < x3 then (if 0 ≤ x3 then (if x3 < (x0.length : Int) then (if 0 ≤ x4 then (if x4 < (x0.length : Int) then (if (rd x0 x3) = (rd x0 x4) then (some true) else (barscanref05_twice.l1 k x0 x3 (wrap64 (x4 + 1)))) else (none)) else (none)) else (none)) else (none)) else (barscanref05_twice.l0 k x0 (wrap64 (x3 + 1)))
end
def barscanref05_twice.f (k : Nat) (l0 : List Int) : Option (Bool) := barscanref05_twice.l0 k l0 0
theorem barscanref05_twice.mono_l : ∀ k, (∀ y0 y1, LeO (barscanref05_twice.l0 k y0 y1) (barscanref05_twice.l0 (k + 1) y0 y1)) ∧ (∀ y0 y1 y2, LeO (barscanref05_twice.l1 k y0 y1 y2) (barscanref05_twice.l1 (k + 1) y0 y1 y2))
 | 0 => ⟨fun _ _ r h => by simp [barscanref05_twice.l0] at h, fun _ _ _ r h => by simp [barscanref05_twice.l1] at h⟩
 | k + 1 => by
  obtain ⟨ih0, ih1⟩ := barscanref05_twice.mono_l k
  refine ⟨?_, ?_⟩
  ·intro y0 y1
   unfold barscanref05_twice.l0
   exact zMo
  ·intro y0 y1 y2
   unfold barscanref05_twice.l1
   exact zMo
theorem barscanref05_twice.mono : ∀ a0 k, LeO (barscanref05_twice.f k a0) (barscanref05_twice.f (k + 1) a0) := by
 intro a0 k
 obtain ⟨ih0, ih1⟩ := barscanref05_twice.mono_l k
 unfold barscanref05_twice.f
 exact zMo
theorem barscanref05_twice.calls (k : Nat) (A0 : Option Addr) (c0 : Nat) (l0 : List Int) (r : Bool) (w : World) (hr0 : Kd.C (Kd.int .i64) w A0 l0.length l0) (hc0 : l0.length ≤ c0) (h : barscanref05_twice.f k l0 = some r) :
  Calls Try.prog 119 #[.slice A0 l0.length c0] w fun e w' => e = .returned (.bool r) ∧ Drawn0 w w' := by
 have HR0 := Aside0.mk hr0
 have HC0 := Aside0.mk hc0
 clear hr0 hc0
 have H := h
 unfold barscanref05_twice.f at H
 clear h
 have H' := zA H
 clear H
 go_enter Try.func119, Try.ntmps119
 go_wp2
 repeat (go_quiet (fail); try go_wp2)
 go_loopg [3] k (fun kq v3 w' => ∃ (x3_1 : Int), v3 = .int .i64 x3_1 ∧ Aside0 (barscanref05_twice.l0 kq l0 x3_1 = some r) ∧ Aside0 (kq ≤ k) ∧ Drawn0 w w')
 case atStart => exact ⟨(0), zR, H', ⟨Nat.le_refl _⟩, by repeat (first | exact Drawn0.refl _ | apply Drawn0.step)⟩
 case round =>
  clear H'
  try clear c1
  obtain ⟨x3_1, rfl, HA, HK1, ⟨m1, rfl⟩⟩ := hrel
  cases gk with
  | zero => exact absurd HA.out (by simp [barscanref05_twice.l0])
  | succ k1 =>
   have H := HA.out
   clear HA
   simp only [barscanref05_twice.l0] at H
   by_cases c2 : x3_1 < (l0.length : Int)
   ·rw [if_pos c2] at H
    have c2b0 : decide (x3_1 < (l0.length : Int)) = true := decide_eq_true c2
    clear c2
    have H' := zA H
    clear H
    go_wp2
    repeat (go_quiet (fail); try go_wp2)
    go_loopg [4] k1 (fun kq v4 w' => ∃ (x4_2 : Int), v4 = .int .i64 x4_2 ∧ Aside0 (barscanref05_twice.l1 kq l0 x3_1 x4_2 = some r) ∧ Aside0 (kq ≤ k1) ∧ Drawn0 w w')
    case atStart => exact ⟨(0), zR, H', ⟨Nat.le_refl _⟩, by repeat (first | exact Drawn0.refl _ | apply Drawn0.step)⟩
    case round =>
     clear H'
     try clear c1
     try clear c2
     try clear c2b0
     try clear p2
     obtain ⟨x4_2, rfl, HA, HK2, ⟨m2, rfl⟩⟩ := hrel
     cases gk with
     | zero => exact absurd HA.out (by simp [barscanref05_twice.l1])
     | succ k2 =>
      have H := HA.out
      clear HA
      simp only [barscanref05_twice.l1] at H
      by_cases c3 : x4_2 < x3_1
      ·rw [if_pos c3] at H
       have c3b0 : decide (x4_2 < x3_1) = true := decide_eq_true c3
       clear c3
       by_cases c4 : 0 ≤ x3_1
       ·rw [if_pos c4] at H
        have c4b0 : decide (0 ≤ x3_1) = true := decide_eq_true c4
        clear c4
        by_cases c5 : x3_1 < (l0.length : Int)
        ·rw [if_pos c5] at H
         have c5b0 : decide (x3_1 < (l0.length : Int)) = true := decide_eq_true c5
         clear c5
         by_cases c6 : 0 ≤ x4_2
         ·rw [if_pos c6] at H
          have c6b0 : decide (0 ≤ x4_2) = true := decide_eq_true c6
          clear c6
          by_cases c7 : x4_2 < (l0.length : Int)
          ·rw [if_pos c7] at H
           have c7b0 : decide (x4_2 < (l0.length : Int)) = true := decide_eq_true c7
           clear c7
           by_cases c8 : (rd l0 x3_1) = (rd l0 x4_2)
           ·rw [if_pos c8] at H
            have c8b0 := beq_iff_eq.mpr c8
            have c8b1 := bne_eq_false_iff_eq.mpr c8
            clear c8
            obtain rfl := Option.some.inj H
            have p1466 : 0 ≤ (x3_1 : Int) := of_decide_eq_true (by first | (with_reducible assumption) | assumption)
            have q1466 : x3_1 < (l0.length : Int) := of_decide_eq_true (by first | (with_reducible assumption) | assumption)
            obtain ⟨ad1466, e1466, hx1466_0⟩ := Kd.at_int HR0.out x3_1 p1466 q1466
            cases e1466
            replace p1466 := eq_true p1466
            replace q1466 := eq_true q1466
            have p1467 : 0 ≤ (x4_2 : Int) := of_decide_eq_true (by first | (with_reducible assumption) | assumption)
            have q1467 : x4_2 < (l0.length : Int) := of_decide_eq_true (by first | (with_reducible assumption) | assumption)
            obtain ⟨ad1467, e1467, hx1467_0⟩ := Kd.at_int HR0.out x4_2 p1467 q1467
            obtain rfl : ad1466 = ad1467 := (by injection e1467)
            replace p1467 := eq_true p1467
            replace q1467 := eq_true q1467
            go_wp2
            repeat (go_quiet (fail); try go_wp2)
            go_ret
            exact ⟨by first | rfl | (simp; done) | (simp [*]; done), by repeat (first | exact Drawn0.refl _ | apply Drawn0.step)⟩
           ·rw [if_neg c8] at H
            have c8b0 := beq_eq_false_iff_ne.mpr c8
            have c8b1 := bne_iff_ne.mpr c8
            have H' := zA H
            clear H
            have p1466 : 0 ≤ (x3_1 : Int) := of_decide_eq_true (by first | (with_reducible assumption) | assumption)
            have q1466 : x3_1 < (l0.length : Int) := of_decide_eq_true (by first | (with_reducible assumption) | assumption)
            obtain ⟨ad1466, e1466, hx1466_0⟩ := Kd.at_int HR0.out x3_1 p1466 q1466
            cases e1466
            replace p1466 := eq_true p1466
            replace q1466 := eq_true q1466
            have p1467 : 0 ≤ (x4_2 : Int) := of_decide_eq_true (by first | (with_reducible assumption) | assumption)
            have q1467 : x4_2 < (l0.length : Int) := of_decide_eq_true (by first | (with_reducible assumption) | assumption)
            obtain ⟨ad1467, e1467, hx1467_0⟩ := Kd.at_int HR0.out x4_2 p1467 q1467
            obtain rfl : ad1466 = ad1467 := (by injection e1467)
            replace p1467 := eq_true p1467
            replace q1467 := eq_true q1467
            go_wp2
            repeat (go_quiet (fail); try go_wp2)
            go_roundg k2
            case measure => have := HK1.out; have := HK2.out; omega
            case rel => exact ⟨(wrap64 (x4_2 + 1)), zR, H', ⟨by have := HK1.out; have := HK2.out; omega⟩, by repeat (first | exact Drawn0.refl _ | apply Drawn0.step)⟩
          ·rw [if_neg c7] at H
           exact absurd H (by simp)
         ·rw [if_neg c6] at H
          exact absurd H (by simp)
        ·rw [if_neg c5] at H
         exact absurd H (by simp)
       ·rw [if_neg c4] at H
        exact absurd H (by simp)
      ·rw [if_neg c3] at H
       have c3b0 : decide (x4_2 < x3_1) = false := decide_eq_false c3
       clear c3
       have H' := zA H
       clear H
       go_wp2
       repeat (go_quiet (fail); try go_wp2)
       go_roundg k2
       case measure => have := HK1.out; have := HK2.out; omega
       case rel => exact ⟨(wrap64 (x3_1 + 1)), zR, H', ⟨by have := HK1.out; have := HK2.out; omega⟩, by repeat (first | exact Drawn0.refl _ | apply Drawn0.step)⟩
   ·rw [if_neg c2] at H
    have c2b0 : decide (x3_1 < (l0.length : Int)) = false := decide_eq_false c2
    clear c2
    obtain rfl := Option.some.inj H
    go_wp2
    repeat (go_quiet (fail); try go_wp2)
    go_ret
    exact ⟨by first | rfl | (simp; done) | (simp [*]; done), by repeat (first | exact Drawn0.refl _ | apply Drawn0.step)⟩
/-! ### barscanref05_Interpolate: function 65 -/
mutual
def barscanref05_Interpolate.j0 : Nat → List Int → List Int → Bool → Int → Int → Int → Option (List Int × Int)
 | 0, _, _, _, _, _, _ => none
 | k + 1, x1, x2, x33, x1469000, x1469001, x1469002 => if x33 = true then (some (([] : List Int), 1)) else (if (x1.length : Int) = (x2.length : Int) then (if (x1.length : Int) > x1469001 then (barscanref05_Interpolate.j1 k x1 x2 true x1469000 x1469001 x1469002) else ((barscanref05_twice.f k x1).bind fun t1472 => (barscanref05_Interpolate.j1 k x1 x2 t1472 x1469000 x1469001 x1469002))) else (some (([] : List Int), 7)))
def barscanref05_Interpolate.j1 : Nat → List Int → List Int → Bool → Int → Int → Int → Option (List Int × Int)
 | 0, _, _, _, _, _, _ => none
 | k + 1, x1, x2, x47, x1469000, x1469001, x1469002 => if x47 = true then (some (([] : List Int), 30)) else (barscanref05_Interpolate.l0 k x1 x2 ([] : List Int) 0 x1469000 x1469001 x1469002)
def barscanref05_Interpolate.l0 : Nat → List Int → List Int → List Int → Int → Int → Int → Int → Option (List Int × Int)
 | 0, _, _, _, _, _, _, _ => none
 | k + 1, x1, x2, x8, x9, x1469000, x1469001, x1469002 => if x9 < (x1.length : Int) then (if 0 ≤ x9 then (if x9 < (x2.length : Int) then (barscanref05_Interpolate.l1 k x1 x2 x8 x9 ([] : List Int) (rd x2 x9) 0 x1469000 x1469001 x1469002) else (none)) else (none)) else (some (x8, 0))
def barscanref05_Interpolate.l1 : Nat → List Int → List Int → List Int → Int → List Int → Int → Int → Int → Int → Int → Option (List Int × Int)
 | 0, _, _, _, _, _, _, _, _, _, _ => none
 | k + 1, x1, x2, x8, x9, x10, x11, x12, x1469000, x1469001, x1469002 => if x12 < (x1.length : Int) then (if x12 = x9 then (barscanref05_Interpolate.l1 k x1 x2 x8 x9 x10 x11 (wrap64 (x12 + 1)) x1469000 x1469001 x1469002) else (if 0 ≤ x12 then (if x10.length < 17592186044416 then (if 0 ≤ x9 then (if x9 < (x1.length : Int) then ((barscanref05_less.f x1469000 x1469001 x1469002 (rd x1 x9) (rd x1 x12)).bind fun t1492 => ((barscanref04_Div.f k x1469000 x1469001 x1469002 x11 t1492).bind fun bt1493 => (barscanref05_Interpolate.l1 k x1 x2 x8 x9 (x10 ++ [rd x1 x12]) bt1493.1 (wrap64 (x12 + 1)) x1469000 x1469001 x1469002))) else (none)) else (none)) else (none)) else (none))) else ((barscanref05_FromRoots.f k x1469000 x1469001 x1469002 x10).bind fun bt1474 => ((barscanref05_Scale.f k x1469000 x1469001 x1469002 bt1474.1 x11).bind fun bt1478 => ((barscanref05_Add.f k x1469000 x1469001 x1469002 x8 bt1478.1).bind fun bt1482 => (barscanref05_Interpolate.l0 k x1 x2 bt1482.1 (wrap64 (x9 + 1)) x1469000 x1469001 x1469002))))
end
def barscanref05_Interpolate.f (k : Nat) (a0_0 : Int) (a0_1 : Int) (a0_2 : Int) (l1 : List Int) (l2 : List Int) : Option (List Int × Int) := (barscanref04_Valid.f k a0_0 a0_1 a0_2).bind fun t1469 => (if t1469 = true then ((barscanref05_elements.f k a0_0 a0_1 a0_2 l1).bind fun t1470 => (if t1470 = true then ((barscanref05_elements.f k a0_0 a0_1 a0_2 l2).bind fun t1471 => (barscanref05_Interpolate.j0 k l1 l2 (!t1471) a0_0 a0_1 a0_2)) else (barscanref05_Interpolate.j0 k l1 l2 true a0_0 a0_1 a0_2))) else (barscanref05_Interpolate.j0 k l1 l2 true a0_0 a0_1 a0_2))
theorem barscanref05_Interpolate.mono_l : ∀ k, (∀ y0 y1 y2 y3 y4 y5, LeO (barscanref05_Interpolate.j0 k y0 y1 y2 y3 y4 y5) (barscanref05_Interpolate.j0 (k + 1) y0 y1 y2 y3 y4 y5)) ∧ (∀ y0 y1 y2 y3 y4 y5, LeO (barscanref05_Interpolate.j1 k y0 y1 y2 y3 y4 y5) (barscanref05_Interpolate.j1 (k + 1) y0 y1 y2 y3 y4 y5)) ∧ (∀ y0 y1 y2 y3 y4 y5 y6, LeO (barscanref05_Interpolate.l0 k y0 y1 y2 y3 y4 y5 y6) (barscanref05_Interpolate.l0 (k + 1) y0 y1 y2 y3 y4 y5 y6)) ∧ (∀ y0 y1 y2 y3 y4 y5 y6 y7 y8 y9, LeO (barscanref05_Interpolate.l1 k y0 y1 y2 y3 y4 y5 y6 y7 y8 y9) (barscanref05_Interpolate.l1 (k + 1) y0 y1 y2 y3 y4 y5 y6 y7 y8 y9))
 | 0 => ⟨fun _ _ _ _ _ _ r h => by simp [barscanref05_Interpolate.j0] at h, fun _ _ _ _ _ _ r h => by simp [barscanref05_Interpolate.j1] at h, fun _ _ _ _ _ _ _ r h => by simp [barscanref05_Interpolate.l0] at h, fun _ _ _ _ _ _ _ _ _ _ r h => by simp [barscanref05_Interpolate.l1] at h⟩
 | k + 1 => by
  obtain ⟨ih0, ih1, ih2, ih3⟩ := barscanref05_Interpolate.mono_l k
  refine ⟨?_, ?_, ?_, ?_⟩
  ·intro y0 y1 y2 y3 y4 y5
   unfold barscanref05_Interpolate.j0
   have m0_ := @barscanref04_Div.mono
   have m1_ := @barscanref04_Valid.mono
   have m2_ := @barscanref05_Add.mono
   have m3_ := @barscanref05_FromRoots.mono
   have m4_ := @barscanref05_Scale.mono
   have m5_ := @barscanref05_elements.mono
   have m6_ := @barscanref05_twice.mono
   exact zMo
  ·intro y0 y1 y2 y3 y4 y5
   unfold barscanref05_Interpolate.j1
   have m0_ := @barscanref04_Div.mono
   have m1_ := @barscanref04_Valid.mono
   have m2_ := @barscanref05_Add.mono
   have m3_ := @barscanref05_FromRoots.mono
   have m4_ := @barscanref05_Scale.mono
   have m5_ := @barscanref05_elements.mono
   have m6_ := @barscanref05_twice.mono
   exact zMo
  ·intro y0 y1 y2 y3 y4 y5 y6
   unfold barscanref05_Interpolate.l0
   have m0_ := @barscanref04_Div.mono
   have m1_ := @barscanref04_Valid.mono
   have m2_ := @barscanref05_Add.mono
   have m3_ := @barscanref05_FromRoots.mono
   have m4_ := @barscanref05_Scale.mono
   have m5_ := @barscanref05_elements.mono
   have m6_ := @barscanref05_twice.mono
   exact zMo
  ·intro y0 y1 y2 y3 y4 y5 y6 y7 y8 y9
   unfold barscanref05_Interpolate.l1
   have m0_ := @barscanref04_Div.mono
   have m1_ := @barscanref04_Valid.mono
   have m2_ := @barscanref05_Add.mono
   have m3_ := @barscanref05_FromRoots.mono
   have m4_ := @barscanref05_Scale.mono
   have m5_ := @barscanref05_elements.mono
   have m6_ := @barscanref05_twice.mono
   exact zMo
theorem barscanref05_Interpolate.mono : ∀ a0 a1 a2 a3 a4 k, LeO (barscanref05_Interpolate.f k a0 a1 a2 a3 a4) (barscanref05_Interpolate.f (k + 1) a0 a1 a2 a3 a4) := by
 intro a0 a1 a2 a3 a4 k
 obtain ⟨ih0, ih1, ih2, ih3⟩ := barscanref05_Interpolate.mono_l k
 unfold barscanref05_Interpolate.f
 have m0_ := @barscanref04_Div.mono
 have m1_ := @barscanref04_Valid.mono
 have m2_ := @barscanref05_Add.mono
 have m3_ := @barscanref05_FromRoots.mono
 have m4_ := @barscanref05_Scale.mono
 have m5_ := @barscanref05_elements.mono
 have m6_ := @barscanref05_twice.mono
 exact zMo
def barscanref05_Interpolate.T18 : Bool × List (List Nat × List Nat) := (true, [([], []), ([], []), ([], []), ([], []), ([], []), ([3, 4], [3, 4]), ([5], [5]), ([], []), ([], []), ([7, 8], [7, 8]), ([9], [9]), ([2, 6, 10], [2, 6, 10]), ([0, 1, 11, 11], [0, 1, 11]), ([12], [12]), ([13], [13]), ([13], [13]), ([14, 12, 0, 1, 2, 3, 4, 5, 6, 7, 8, 9, 10, 11, 12, 13, 14], [14]), ([15, 16, 0, 1, 2, 3, 4, 5, 6, 7, 8, 9, 10, 11, 12, 13, 14, 15, 16], [15])])
def barscanref05_Interpolate.B18 : List Nat := [0, 0, 0, 0, 0, 24, 56, 0, 0, 384, 896, 2044, 4095, 8191, 16383, 16383, 32767, 131071]
theorem barscanref05_Interpolate.tab18 : rtab .any (opsOf Try.f65 18) = barscanref05_Interpolate.T18 := by kernel_rfl
theorem barscanref05_Interpolate.bits18 : waitsOk barscanref05_Interpolate.T18.2 barscanref05_Interpolate.B18 = true := by kernel_rfl
theorem barscanref05_Interpolate.calls (k : Nat) (a0_0 : Int) (a0_1 : Int) (a0_2 : Int) (A1 : Option Addr) (c1 : Nat) (l1 : List Int) (A2 : Option Addr) (c2 : Nat) (l2 : List Int) (r1 : List Int) (r2 : Int) (w : World) (hr1 : Kd.C (Kd.int .i64) w A1 l1.length l1) (hc1 : l1.length ≤ c1) (hr2 : Kd.C (Kd.int .i64) w A2 l2.length l2) (hc2 : l2.length ≤ c2) (h : barscanref05_Interpolate.f k a0_0 a0_1 a0_2 l1 l2 = some (r1, r2)) :
  Calls Try.prog 65 #[.agg #[.int .i64 a0_0, .int .i64 a0_1, .int .i64 a0_2], .slice A1 l1.length c1, .slice A2 l2.length c2] w fun e w' => ∃ v0_ : Value, e = .returned (.tuple #[v0_, .int .i64 r2]) ∧ Kd.R (Kd.int .i64) 3 w' w.heap.size (fun _ => True) v0_ r1 ∧ Below w.heap.size w w' := by
 have hu23 := Try.underlying23
 have HR1 := Aside0.mk hr1
 have HC1 := Aside0.mk hc1
 clear hr1 hc1
 have HR2 := Aside0.mk hr2
 have HC2 := Aside0.mk hc2
 clear hr2 hc2
 have HB := Aside0.mk (Below.refl w.heap.size w)
 have H := h
 unfold barscanref05_Interpolate.f at H
 clear h
 have HC4 := Aside0.mk H
 clear H
 go_enter Try.func65, Try.ntmps65
 go_upto_region 1 with (first | ((with_reducible refine gate_dst (N := 3) rfl ?_); refine zBox 3 #[.int .i64 a0_0, .int .i64 a0_1, .int .i64 a0_2] 23 ?_; clear HB; intro gb1468 w5 BK1468 GE1468 HB))
 (try simp only [Act.put, List.setIfInBounds_toArray, List.set_cons_zero, List.set_cons_succ])
 go_cut [33] (fun v33 wc => ∃ (kq : Nat) (x33_3 : Bool), v33 = .bool x33_3 ∧ Aside0 (barscanref05_Interpolate.j0 kq l1 l2 x33_3 a0_0 a0_1 a0_2 = some (r1, r2)) ∧ Aside0 (kq ≤ k) ∧ Aside0 (wc.heap[gb1468]? = some (.cells #[.int .i64 a0_0, .int .i64 a0_1, .int .i64 a0_2] 23 (0, 0))) ∧ Aside0 (Below w.heap.size w wc))
 case first =>
  have H := HC4.out
  clear HC4
  obtain ⟨t1469, A6, H⟩ := zD H
  by_cases c7 : t1469 = true
  ·subst c7
   rw [if_pos rfl] at H
   obtain ⟨t1470, A8, H⟩ := zD H
   by_cases c9 : t1470 = true
   ·subst c9
    rw [if_pos rfl] at H
    obtain ⟨t1471, A10, H⟩ := zD H
    have H' := zA H
    clear H
    (try clear z1468_0 z1468_1 z1468_2 f1468_0 f1468_1 f1468_2)
    obtain ⟨z1468_0, z1468_1, z1468_2, f1468_0, f1468_1, f1468_2⟩ := cz3 BK1468
    go_wp2_with (first | ((with_reducible refine gate_callee (f := 26) rfl ?_); refine gL (some 20) Try.func26 #[.agg #[.int .i64 a0_0, .int .i64 a0_1, .int .i64 a0_2]] ?_; (with_reducible refine zCall (barscanref04_Valid.calls k a0_0 a0_1 a0_2 true _ A6.out) ?_); intro w12 hb; replace BK1468 := bB BK1468 hb; replace HB := bS hb; (try clear hb); (try clear z1468_0 z1468_1 z1468_2 f1468_0 f1468_1 f1468_2); obtain ⟨z1468_0, z1468_1, z1468_2, f1468_0, f1468_1, f1468_2⟩ := cz3 BK1468) | (go_at_call 118; (with_reducible refine (barscanref05_elements.calls k a0_0 a0_1 a0_2 _ _ l1 true _ ?side1 ?side2 A8.out).mono ?_); (case side1 => exact zN HR1); (case side2 => exact HC1.out); rintro e w14 ⟨rfl, hb⟩; replace BK1468 := bB BK1468 hb; replace HB := bS hb; (try clear hb); (try clear z1468_0 z1468_1 z1468_2 f1468_0 f1468_1 f1468_2); obtain ⟨z1468_0, z1468_1, z1468_2, f1468_0, f1468_1, f1468_2⟩ := cz3 BK1468) | (go_at_call 118; (with_reducible refine (barscanref05_elements.calls k a0_0 a0_1 a0_2 _ _ l2 t1471 _ ?side1 ?side2 A10.out).mono ?_); (case side1 => exact zN HR2); (case side2 => exact HC2.out); rintro e w16 ⟨rfl, hb⟩; replace BK1468 := bB BK1468 hb; replace HB := bS hb; (try clear hb)))
    go_meet
    case rel => exact ⟨_, (!t1471), zR, H', zL, ⟨zK BK1468⟩, ⟨zB⟩⟩
   ·replace c9 := Bool.eq_false_iff.mpr c9
    subst c9
    rw [if_neg (show ¬ (false = true) by decide)] at H
    have H' := zA H
    clear H
    (try clear z1468_0 z1468_1 z1468_2 f1468_0 f1468_1 f1468_2)
    obtain ⟨z1468_0, z1468_1, z1468_2, f1468_0, f1468_1, f1468_2⟩ := cz3 BK1468
    go_wp2_with (first | ((with_reducible refine gate_callee (f := 26) rfl ?_); refine gL (some 20) Try.func26 #[.agg #[.int .i64 a0_0, .int .i64 a0_1, .int .i64 a0_2]] ?_; (with_reducible refine zCall (barscanref04_Valid.calls k a0_0 a0_1 a0_2 true _ A6.out) ?_); intro w18 hb; replace BK1468 := bB BK1468 hb; replace HB := bS hb; (try clear hb); (try clear z1468_0 z1468_1 z1468_2 f1468_0 f1468_1 f1468_2); obtain ⟨z1468_0, z1468_1, z1468_2, f1468_0, f1468_1, f1468_2⟩ := cz3 BK1468) | (go_at_call 118; (with_reducible refine (barscanref05_elements.calls k a0_0 a0_1 a0_2 _ _ l1 false _ ?side1 ?side2 A8.out).mono ?_); (case side1 => exact zN HR1); (case side2 => exact HC1.out); rintro e w20 ⟨rfl, hb⟩; replace BK1468 := bB BK1468 hb; replace HB := bS hb; (try clear hb)))
    go_meet
    case rel => exact ⟨_, (true), zR, H', zL, ⟨zK BK1468⟩, ⟨zB⟩⟩
  ·replace c7 := Bool.eq_false_iff.mpr c7
   subst c7
   rw [if_neg (show ¬ (false = true) by decide)] at H
   have H' := zA H
   clear H
   (try clear z1468_0 z1468_1 z1468_2 f1468_0 f1468_1 f1468_2)
   obtain ⟨z1468_0, z1468_1, z1468_2, f1468_0, f1468_1, f1468_2⟩ := cz3 BK1468
   go_wp2_with (first | ((with_reducible refine gate_callee (f := 26) rfl ?_); refine gL (some 20) Try.func26 #[.agg #[.int .i64 a0_0, .int .i64 a0_1, .int .i64 a0_2]] ?_; (with_reducible refine zCall (barscanref04_Valid.calls k a0_0 a0_1 a0_2 false _ A6.out) ?_); intro w22 hb; replace BK1468 := bB BK1468 hb; replace HB := bS hb; (try clear hb)))
   go_meet
   case rel => exact ⟨_, (true), zR, H', zL, ⟨zK BK1468⟩, ⟨zB⟩⟩
 case rest =>
  clear HC4
  try clear c1
  try clear c2
  try clear p2
  try clear c6
  try clear c7
  try clear c9
  try clear z1468_0 z1468_1 z1468_2 f1468_0 f1468_1 f1468_2
  obtain ⟨kq, x33_3, rfl, HA, HJ3, BK1468, HB⟩ := hcut
  cases kq with
  | zero => exact absurd HA.out (by simp [barscanref05_Interpolate.j0])
  | succ kj3 =>
   have H := HA.out
   clear HA
   simp only [barscanref05_Interpolate.j0] at H
   by_cases c23 : x33_3 = true
   ·subst c23
    rw [if_pos rfl] at H
    simp only [Option.some.injEq, Prod.mk.injEq] at H
    obtain ⟨rfl, rfl⟩ := H
    go_wp2
    go_ret2
    exact ⟨_, zE, by first | exact Kd.R_nil _ _ _ _ _ | exact Kd.N_nil _ _ _ _ _ | exact Kd.V_nil _ _ _ _ _ | exact Kd.Q_nil _ _ _ _ _ | exact Kd.S_nil _ _ _ _ _, zB⟩
   ·replace c23 := Bool.eq_false_iff.mpr c23
    subst c23
    rw [if_neg (show ¬ (false = true) by decide)] at H
    by_cases c24 : (l1.length : Int) = (l2.length : Int)
    ·rw [if_pos c24] at H
     have c24b0 := beq_iff_eq.mpr c24
     have c24b1 := bne_eq_false_iff_eq.mpr c24
     have c24b2 : (l1.length == l2.length) = true := by first | simpa using c24 | (simp at c24 ⊢; omega)
     clear c24
     have HC25 := Aside0.mk H
     clear H
     go_upto_region 5 with (fail)
     go_cut [47] (fun v47 wc => ∃ (kq : Nat) (x47_24 : Bool), v47 = .bool x47_24 ∧ Aside0 (barscanref05_Interpolate.j1 kq l1 l2 x47_24 a0_0 a0_1 a0_2 = some (r1, r2)) ∧ Aside0 (kq ≤ kj3) ∧ Aside0 (wc.heap[gb1468]? = some (.cells #[.int .i64 a0_0, .int .i64 a0_1, .int .i64 a0_2] 23 (0, 0))) ∧ Aside0 (Below w.heap.size w wc))
     case first =>
      have H := HC25.out
      clear HC25
      by_cases c26 : (l1.length : Int) > a0_1
      ·rw [if_pos c26] at H
       have c26b0 : decide (a0_1 < (l1.length : Int)) = true := decide_eq_true c26
       clear c26
       (first | rw [c26b0] | (simp only [i64_w, i32_w]; rw [c26b0]) | skip)
       have H' := zA H
       clear H
       (try clear z1468_0 z1468_1 z1468_2 f1468_0 f1468_1 f1468_2)
       obtain ⟨z1468_0, z1468_1, z1468_2, f1468_0, f1468_1, f1468_2⟩ := cz3 BK1468
       go_wp2
       go_meet
       case rel => exact ⟨_, (true), zR, H', ⟨by have := HJ3.out; first | omega | exact Nat.le_refl _⟩, ⟨zK BK1468⟩, ⟨zB⟩⟩
      ·rw [if_neg c26] at H
       have c26b0 : decide (a0_1 < (l1.length : Int)) = false := decide_eq_false c26
       clear c26
       (first | rw [c26b0] | (simp only [i64_w, i32_w]; rw [c26b0]) | skip)
       obtain ⟨t1472, A28, H⟩ := zD H
       have H' := zA H
       clear H
       (try clear z1468_0 z1468_1 z1468_2 f1468_0 f1468_1 f1468_2)
       obtain ⟨z1468_0, z1468_1, z1468_2, f1468_0, f1468_1, f1468_2⟩ := cz3 BK1468
       go_wp2_with (first | (go_at_call 119; (with_reducible refine (barscanref05_twice.calls kj3 _ _ l1 t1472 _ ?side1 ?side2 A28.out).mono ?_); (case side1 => exact zN HR1); (case side2 => exact HC1.out); rintro e w' ⟨rfl, ⟨nd, rfl⟩⟩))
       go_meet
       case rel => exact ⟨_, (t1472), zR, H', ⟨by have := HJ3.out; first | omega | exact Nat.le_refl _⟩, ⟨zK BK1468⟩, ⟨zB⟩⟩
     case rest =>
      clear HC25
      try clear c1
      try clear c2
      try clear p2
      try clear c6
      try clear c7
      try clear c9
      try clear c23
      try clear c24
      try clear c24b0
      try clear c24b1
      try clear c24b2
      try clear c26
      try clear c26b0
      try clear z1468_0 z1468_1 z1468_2 f1468_0 f1468_1 f1468_2
      try clear p2
      obtain ⟨kq, x47_24, rfl, HA, HJ24, BK1468, HB⟩ := hcut
      cases kq with
      | zero => exact absurd HA.out (by simp [barscanref05_Interpolate.j1])
      | succ kj24 =>
       have H := HA.out
       clear HA
       simp only [barscanref05_Interpolate.j1] at H
       by_cases c30 : x47_24 = true
       ·subst c30
        rw [if_pos rfl] at H
        simp only [Option.some.injEq, Prod.mk.injEq] at H
        obtain ⟨rfl, rfl⟩ := H
        go_wp2
        go_ret2
        exact ⟨_, zE, by first | exact Kd.R_nil _ _ _ _ _ | exact Kd.N_nil _ _ _ _ _ | exact Kd.V_nil _ _ _ _ _ | exact Kd.Q_nil _ _ _ _ _ | exact Kd.S_nil _ _ _ _ _, zB⟩
       ·replace c30 := Bool.eq_false_iff.mpr c30
        subst c30
        rw [if_neg (show ¬ (false = true) by decide)] at H
        have H' := zA H
        clear H
        go_wp2
        go_loopg [8, 9] kj24 (fun kq v8 v9 w' => ∃ (x8_3 : List Int) (x9_3 : Int), v9 = .int .i64 x9_3 ∧ Aside0 (barscanref05_Interpolate.l0 kq l1 l2 x8_3 x9_3 a0_0 a0_1 a0_2 = some (r1, r2)) ∧ Aside0 (kq ≤ kj24) ∧ Aside0 (Kd.R (Kd.int .i64) 3 w' w.heap.size (fun _ => True) v8 x8_3) ∧ Aside0 (w'.heap[gb1468]? = some (.cells #[.int .i64 a0_0, .int .i64 a0_1, .int .i64 a0_2] 23 (0, 0))) ∧ Aside0 (Below w.heap.size w w'))
        case atStart => exact ⟨(([] : List Int)), (0), zR, H', ⟨Nat.le_refl _⟩, ⟨by first | exact Kd.R_nil _ _ _ _ _ | exact Kd.N_nil _ _ _ _ _ | exact Kd.V_nil _ _ _ _ _ | exact Kd.Q_nil _ _ _ _ _ | exact Kd.S_nil _ _ _ _ _⟩, ⟨zK BK1468⟩, ⟨zB⟩⟩
        case round =>
         clear H'
         try clear c1
         try clear c2
         try clear p2
         try clear c3
         try clear c6
         try clear c7
         try clear c9
         try clear c23
         try clear c24
         try clear c24b0
         try clear c24b1
         try clear c24b2
         try clear c26
         try clear c26b0
         try clear c30
         try clear z1468_0 z1468_1 z1468_2 f1468_0 f1468_1 f1468_2
         try clear p2
         obtain ⟨x8_3, x9_3, rfl, HA, HK3, HO_8, BK1468, HB⟩ := hrel
         cases gk with
         | zero => exact absurd HA.out (by simp [barscanref05_Interpolate.l0])
         | succ k3 =>
          have H := HA.out
          clear HA
          simp only [barscanref05_Interpolate.l0] at H
          by_cases c31 : x9_3 < (l1.length : Int)
          ·rw [if_pos c31] at H
           have c31b0 : decide (x9_3 < (l1.length : Int)) = true := decide_eq_true c31
           clear c31
           by_cases c32 : 0 ≤ x9_3
           ·rw [if_pos c32] at H
            have c32b0 : decide (0 ≤ x9_3) = true := decide_eq_true c32
            clear c32
            by_cases c33 : x9_3 < (l2.length : Int)
            ·rw [if_pos c33] at H
             have c33b0 : decide (x9_3 < (l2.length : Int)) = true := decide_eq_true c33
             clear c33
             have H' := zA H
             clear H
             have p1473 : 0 ≤ (x9_3 : Int) := of_decide_eq_true (by first | (with_reducible assumption) | assumption)
             have q1473 : x9_3 < (l2.length : Int) := of_decide_eq_true (by first | (with_reducible assumption) | assumption)
             obtain ⟨ad1473, e1473, hx1473_0⟩ := Kd.at_int HR2.out x9_3 p1473 q1473
             cases e1473
             replace hx1473_0 := (HB.out.cell (World.block_lt_of_cell? w _ hx1473_0)).trans hx1473_0
             replace p1473 := eq_true p1473
             replace q1473 := eq_true q1473
             go_wp2
             go_loopg [10, 11, 12] k3 (fun kq v10 v11 v12 w' => ∃ (x10_4 : List Int) (x11_4 : Int) (x12_4 : Int), v11 = .int .i64 x11_4 ∧ v12 = .int .i64 x12_4 ∧ Aside0 (barscanref05_Interpolate.l1 kq l1 l2 x8_3 x9_3 x10_4 x11_4 x12_4 a0_0 a0_1 a0_2 = some (r1, r2)) ∧ Aside0 (kq ≤ k3) ∧ Aside0 (Kd.R (Kd.int .i64) 3 w' w.heap.size (fun k_ => some k_ ≠ (v10 : Value).ownBlock) u8 x8_3) ∧ Aside0 (Kd.R (Kd.int .i64) 3 w' w.heap.size (fun k_ => some k_ ≠ (u8 : Value).ownBlock) v10 x10_4) ∧ Aside0 (w'.heap[gb1468]? = some (.cells #[.int .i64 a0_0, .int .i64 a0_1, .int .i64 a0_2] 23 (0, 0))) ∧ Aside0 (Below w.heap.size w w'))
             case atStart => exact ⟨(([] : List Int)), (rd l2 x9_3), (0), zR, zR, H', ⟨Nat.le_refl _⟩, ⟨by (with_reducible repeat (first | apply Kd.R_alloc | apply Kd.R_drewN | apply Kd.R_drew)); exact Kd.R_mono HO_8.out (fun _ hk => (by simp [Value.ownBlock]))⟩, ⟨by first | exact Kd.R_nil _ _ _ _ _ | exact Kd.N_nil _ _ _ _ _ | exact Kd.V_nil _ _ _ _ _ | exact Kd.Q_nil _ _ _ _ _ | exact Kd.S_nil _ _ _ _ _⟩, ⟨zK BK1468⟩, ⟨zB⟩⟩
             case round =>
              clear H'
              try clear c1
              try clear p1
              try clear q1
              try clear hx1
              try clear c2
              try clear p2
              try clear c3
              try clear c6
              try clear c7
              try clear c9
              try clear p14
              try clear q14
              try clear hx14
              try clear c23
              try clear c24
              try clear c24b0
              try clear c24b1
              try clear c24b2
              try clear c26
              try clear c26b0
              try clear c30
              try clear c31
              try clear c31b0
              try clear c32
              try clear c32b0
              try clear c33
              try clear c33b0
              try clear z1468_0 z1468_1 z1468_2 f1468_0 f1468_1 f1468_2
              try clear hx1473_0
              try clear p1473
              try clear p2
              try clear q1473
              obtain ⟨x10_4, x11_4, x12_4, rfl, rfl, HA, HK4, HO_8, HO_10, BK1468, HB⟩ := hrel
              cases gk with
              | zero => exact absurd HA.out (by simp [barscanref05_Interpolate.l1])
              | succ k4 =>
               have H := HA.out
               clear HA
               simp only [barscanref05_Interpolate.l1] at H
               by_cases c34 : x12_4 < (l1.length : Int)
               ·rw [if_pos c34] at H
                have c34b0 : decide (x12_4 < (l1.length : Int)) = true := decide_eq_true c34
                clear c34
                by_cases c35 : x12_4 = x9_3
                ·rw [if_pos c35] at H
                 have c35b0 := beq_iff_eq.mpr c35
                 have c35b1 := bne_eq_false_iff_eq.mpr c35
                 clear c35
                 have H' := zA H
                 clear H
                 go_wp2
                 go_roundg k4
                 case measure => have := HJ3.out; have := HJ24.out; have := HK3.out; have := HK4.out; omega
                 case rel => exact ⟨(x10_4), (x11_4), (wrap64 (x12_4 + 1)), zR, zR, H', ⟨by have := HJ3.out; have := HJ24.out; have := HK3.out; have := HK4.out; omega⟩, ⟨zO HO_8⟩, ⟨zO HO_10⟩, ⟨zK BK1468⟩, ⟨zB⟩⟩
                ·rw [if_neg c35] at H
                 have c35b0 := beq_eq_false_iff_ne.mpr c35
                 have c35b1 := bne_iff_ne.mpr c35
                 by_cases c36 : 0 ≤ x12_4
                 ·rw [if_pos c36] at H
                  have c36b0 : decide (0 ≤ x12_4) = true := decide_eq_true c36
                  clear c36
                  by_cases c37 : x10_4.length < 17592186044416
                  ·rw [if_pos c37] at H
                   have LMc37 := Aside0.mk c37
                   clear c37
                   obtain ⟨y1487, hy1487⟩ : ∃ y_ : List Int, y_ = (x10_4 ++ [rd l1 x12_4]) := ⟨_, rfl⟩
                   replace H : (if 0 ≤ x9_3 then (if x9_3 < (l1.length : Int) then ((barscanref05_less.f a0_0 a0_1 a0_2 (rd l1 x9_3) (rd l1 x12_4)).bind fun t1492 => ((barscanref04_Div.f k4 a0_0 a0_1 a0_2 x11_4 t1492).bind fun bt1493 => (barscanref05_Interpolate.l1 k4 l1 l2 x8_3 x9_3 y1487 bt1493.1 (wrap64 (x12_4 + 1)) a0_0 a0_1 a0_2))) else (none)) else (none)) = some (r1, r2) := by first | (rw [hy1487]; with_reducible exact H) | (have H2_ := (Option.bind_some _ _).symm.trans H; rw [hy1487]; with_reducible exact H2_) | (have H2_ := (Option.bind_some _ _).symm.trans H; with_reducible exact H2_) | with_reducible exact H | (rw [hy1487]; exact H) | exact H
                   have Ny1487 := Aside0.mk hy1487
                   clear hy1487
                   by_cases c38 : 0 ≤ x9_3
                   ·rw [if_pos c38] at H
                    have c38b0 : decide (0 ≤ x9_3) = true := decide_eq_true c38
                    clear c38
                    by_cases c39 : x9_3 < (l1.length : Int)
                    ·rw [if_pos c39] at H
                     have c39b0 : decide (x9_3 < (l1.length : Int)) = true := decide_eq_true c39
                     clear c39
                     obtain ⟨t1492, A40, H⟩ := zD H
                     obtain ⟨⟨t1493, t1494⟩, A41, H⟩ := zD H
                     dsimp only at H
                     have H' := zA H
                     clear H
                     have p1486 : 0 ≤ (x12_4 : Int) := of_decide_eq_true (by first | (with_reducible assumption) | assumption)
                     have q1486 : x12_4 < (l1.length : Int) := of_decide_eq_true (by first | (with_reducible assumption) | assumption)
                     obtain ⟨ad1486, e1486, hx1486_0⟩ := Kd.at_int HR1.out x12_4 p1486 q1486
                     cases e1486
                     replace hx1486_0 := (HB.out.cell (World.block_lt_of_cell? w _ hx1486_0)).trans hx1486_0
                     replace p1486 := eq_true p1486
                     replace q1486 := eq_true q1486
                     try go_wp2_with (first | ((with_reducible refine gate_builtin (b := .append) (xs := #[.tmp 67, .tmp 72]) rfl ?_); at_builtin; refine Kd.R_append (Kd.int .i64) (w0 := w) w.heap.size rfl (.tmp 67) (.tmp 72) 45 3 (.int .i64 0) 8 rfl Try.underlying45 info3 rfl (by decide) (by omega) u10 x10_4 (rd l1 x12_4) [.int .i64 (rd l1 x12_4)] (fun k_ => some k_ ≠ (u8 : Value).ownBlock) (fun _ => False) rfl rfl ?aP (fun _ hk => hk.elim) ?aF ?aO ?aB ?aS ?aL ?_; (case aP => exact rfl); (case aB => exact zB); (case aF => exact (fun k_ hk => Kd.fresh' (Kd.R_lt (zO HO_8)) k_ hk)); (case aO => exact (zO HO_10)); (case aS => exact (below_size zB)); (case aL => have := LMc37.out; omega); intro v1488 w42 ho hb hg hat; rw [← Ny1487.out] at ho; replace HO_8 := Aside0.mk (Kd.R_after (ok := (fun _ => True)) (by (with_reducible repeat (first | apply Kd.R_alloc | apply Kd.R_drewN | apply Kd.R_drew)); exact Kd.R_mono HO_8.out (fun _ hk => ⟨trivial, hk⟩)) hg hat); replace BK1468 := Aside0.mk (blk_grown (g := gb1468) (o := .cells #[.int .i64 a0_0, .int .i64 a0_1, .int .i64 a0_2] 23 (0, 0)) (zK BK1468) hg (Kd.R_ne HO_10.out BK1468.out (by decide))); replace HB := Aside0.mk (hb); have HO1489 := Aside0.mk (ho); clear HO_10; clear ho hb hg hat))
                     replace HO_8 := Aside0.mk (Kd.R_drew HO_8.out)
                     replace HO1489 := Aside0.mk (Kd.R_drew HO1489.out)
                     replace BK1468 := Aside0.mk (blk_drew BK1468.out)
                     replace HB := Aside0.mk (below_drew1 HB.out)
                     have p1490 : 0 ≤ (x9_3 : Int) := of_decide_eq_true (by first | (with_reducible assumption) | assumption)
                     have q1490 : x9_3 < (l1.length : Int) := of_decide_eq_true (by first | (with_reducible assumption) | assumption)
                     obtain ⟨ad1490, e1490, hx1490_0⟩ := Kd.at_int HR1.out x9_3 p1490 q1490
                     have hw1490_0 := hx1490_0
                     obtain rfl : ad1486 = ad1490 := (by injection e1490)
                     replace hx1490_0 := (HB.out.cell (World.block_lt_of_cell? w _ hx1490_0)).trans hx1490_0
                     replace p1490 := eq_true p1490
                     replace q1490 := eq_true q1490
                     have p1491 : 0 ≤ (x12_4 : Int) := of_decide_eq_true (by first | (with_reducible assumption) | assumption)
                     have q1491 : x12_4 < (l1.length : Int) := of_decide_eq_true (by first | (with_reducible assumption) | assumption)
                     obtain ⟨ad1491, e1491, hx1491_0⟩ := Kd.at_int HR1.out x12_4 p1491 q1491
                     have hw1491_0 := hx1491_0
                     obtain rfl : ad1486 = ad1491 := (by injection e1491)
                     replace hx1491_0 := (HB.out.cell (World.block_lt_of_cell? w _ hx1491_0)).trans hx1491_0
                     replace p1491 := eq_true p1491
                     replace q1491 := eq_true q1491
                     refine start_ (n := 18) (S := fun w' => w'.cell? ⟨gb1468, 0, none⟩ = some (.int .i64 a0_0) ∧ w'.cell? ⟨gb1468, 1, none⟩ = some (.int .i64 a0_1) ∧ w'.cell? ⟨gb1468, 2, none⟩ = some (.int .i64 a0_2) ∧ w'.cell? (ad1486.add (x9_3).toNat) = some (.int .i64 (rd l1 x9_3)) ∧ w'.cell? (ad1486.add (x12_4).toNat) = some (.int .i64 (rd l1 x12_4))) (ds := []) #[false, false, false, false, false, false, false, false, false, false, false, false, false, false, false, false, false, false] (by kernel_rfl) rfl rfl ⟨(blk_cell BK1468.out 0).trans rfl, (blk_cell BK1468.out 1).trans rfl, (blk_cell BK1468.out 2).trans rfl, ((HB.out.cell (World.block_lt_of_cell? w _ hw1490_0)).trans hw1490_0), ((HB.out.cell (World.block_lt_of_cell? w _ hw1491_0)).trans hw1491_0)⟩ (fun hHeld => ?_); refine with_tabW barscanref05_Interpolate.tab18 barscanref05_Interpolate.bits18 (fun HT_ HW_ => ?_)
                     generalize w42.drew = w43 at HO_8 HO1489 BK1468 HB hx1490_0 hx1491_0 hHeld ⊢
                     refine pU 1 (some 76) ?_
                     refine pU 3 (some 78) ?_
                     refine pU 4 (some 79) ?_
                     refine pU 5 (some 80) ?_
                     refine pU 7 (some 82) ?_
                     refine pU 8 (some 83) ?_
                     refine pU 9 (some 84) ?_
                     refine tU 0 (some 75) hHeld ?_
                     refine tU 2 (some 77) hHeld ?_
                     refine tU 6 (some 81) hHeld ?_
                     refine tU 10 (some 85) hHeld ?_
                     refine oU 11 (some 86) (fun K hK => ?_)
                     refine goes_ Try.func120 (by kernel_rfl) rfl #[.agg #[.int .i64 a0_0, .int .i64 a0_1, .int .i64 a0_2], .int .i64 (rd l1 x9_3), .int .i64 (rd l1 x12_4)] (by rfl) rfl rfl zM ?_
                     with_reducible refine (barscanref05_less.calls a0_0 a0_1 a0_2 (rd l1 x9_3) (rd l1 x12_4) t1492 _ A40.out).mono ?_
                     rintro e w44 ⟨rfl, hb⟩
                     refine ⟨_, rfl, ?_⟩
                     replace HO_8 := Aside0.mk (Kd.R_below (zO HO_8) hb)
                     replace HO1489 := Aside0.mk (Kd.R_below (zO HO1489) hb)
                     replace BK1468 := bB BK1468 hb
                     replace HB := bS hb
                     (try clear hb)
                     (try clear hb2)
                     (try clear hk)
                     (try clear hi)
                     refine hK.out _ _ ⟨(blk_cell BK1468.out 0).trans rfl, (blk_cell BK1468.out 1).trans rfl, (blk_cell BK1468.out 2).trans rfl, ((HB.out.cell (World.block_lt_of_cell? w _ hw1490_0)).trans hw1490_0), ((HB.out.cell (World.block_lt_of_cell? w _ hw1491_0)).trans hw1491_0)⟩ (fun hHeld => ?_)
                     clear hK K
                     refine nU ?_
                     refine oU 12 (some 87) (fun K hK => ?_)
                     refine goes_ Try.func41 (by kernel_rfl) rfl #[.agg #[.int .i64 a0_0, .int .i64 a0_1, .int .i64 a0_2], .int .i64 x11_4, .int .i64 t1492] (by rfl) rfl rfl zM ?_
                     with_reducible refine (barscanref04_Div.calls k4 a0_0 a0_1 a0_2 x11_4 t1492 t1493 t1494 _ A41.out).mono ?_
                     rintro e w45 ⟨rfl, hb⟩
                     refine ⟨_, rfl, ?_⟩
                     replace HO_8 := Aside0.mk (Kd.R_below (zO HO_8) hb)
                     replace HO1489 := Aside0.mk (Kd.R_below (zO HO1489) hb)
                     replace BK1468 := bB BK1468 hb
                     replace HB := bS hb
                     (try clear hb)
                     (try clear hb2)
                     (try clear hk)
                     (try clear hi)
                     refine hK.out _ _ ⟨(blk_cell BK1468.out 0).trans rfl, (blk_cell BK1468.out 1).trans rfl, (blk_cell BK1468.out 2).trans rfl, ((HB.out.cell (World.block_lt_of_cell? w _ hw1490_0)).trans hw1490_0), ((HB.out.cell (World.block_lt_of_cell? w _ hw1491_0)).trans hw1491_0)⟩ (fun hHeld => ?_)
                     clear hK K
                     refine nU ?_
                     refine pU 13 (some 74) ?_
                     refine pU 14 (some 88) ?_
                     refine pU 15 (some 89) ?_
                     refine pU 16 (some 13) ?_
                     refine pU 17 (some 14) ?_
                     refine dU ?_
                     try go_wp2
                     go_roundg k4
                     case measure => have := HJ3.out; have := HJ24.out; have := HK3.out; have := HK4.out; omega
                     case rel => exact ⟨(y1487), (t1493), (wrap64 (x12_4 + 1)), zR, zR, H', ⟨by have := HJ3.out; have := HJ24.out; have := HK3.out; have := HK4.out; omega⟩, ⟨by (with_reducible repeat (first | apply Kd.R_alloc | apply Kd.R_drewN | apply Kd.R_drew)); exact Kd.R_mono HO_8.out (fun _ hk => hk.2)⟩, ⟨zO HO1489⟩, ⟨zK BK1468⟩, ⟨zB⟩⟩
                    ·rw [if_neg c39] at H
                     exact absurd H (by simp)
                   ·rw [if_neg c38] at H
                    exact absurd H (by simp)
                  ·rw [if_neg c37] at H
                   exact absurd H (by simp)
                 ·rw [if_neg c36] at H
                  exact absurd H (by simp)
               ·rw [if_neg c34] at H
                have c34b0 : decide (x12_4 < (l1.length : Int)) = false := decide_eq_false c34
                clear c34
                obtain ⟨⟨t1474, t1477⟩, A46, H⟩ := zD H
                dsimp only at H
                obtain ⟨⟨t1478, t1481⟩, A47, H⟩ := zD H
                dsimp only at H
                obtain ⟨⟨t1482, t1485⟩, A48, H⟩ := zD H
                dsimp only at H
                have H' := zA H
                clear H
                (try clear z1468_0 z1468_1 z1468_2 f1468_0 f1468_1 f1468_2)
                obtain ⟨z1468_0, z1468_1, z1468_2, f1468_0, f1468_1, f1468_2⟩ := cz3 BK1468
                obtain ⟨Ao50, co50, eo50⟩ := Kd.R_slice HO_10.out
                subst eo50
                go_wp2_with (first | ((with_reducible refine gate_callee (f := 74) rfl ?_); refine gL (some 94) Try.func74 #[.agg #[.int .i64 a0_0, .int .i64 a0_1, .int .i64 a0_2], .slice Ao50 x10_4.length co50] ?_; (with_reducible refine (barscanref05_FromRoots.calls k4 a0_0 a0_1 a0_2 _ _ x10_4 t1474 t1477 _ ?side1 ?side2 A46.out).mono ?_); (case side1 => exact zN HO_10); (case side2 => exact (Kd.R_reads' HO_10.out).2.1); rintro e w51 ⟨v1475, rfl, ho0, hb⟩; refine ⟨_, rfl, ?_⟩; have HO1476 := Aside0.mk (Kd.R_lower (Kd.R_new' (Kd.R_new' ho0 (Kd.R_lt (zO HO_8))) (Kd.R_lt (zO HO_10))) (below_size zB)); replace HO_8 := Aside0.mk (Kd.R_elder' (zO HO_8) (Kd.R_base ho0) hb); replace HO_10 := Aside0.mk (Kd.R_elder' (zO HO_10) (Kd.R_base ho0) hb); replace BK1468 := bB BK1468 hb; replace HB := bS hb; (try clear hb); (try clear ho0); (try clear z1468_0 z1468_1 z1468_2 f1468_0 f1468_1 f1468_2); obtain ⟨z1468_0, z1468_1, z1468_2, f1468_0, f1468_1, f1468_2⟩ := cz3 BK1468; obtain ⟨Ao53, co53, eo53⟩ := Kd.R_slice HO1476.out; subst eo53) | ((with_reducible refine gate_callee (f := 78) rfl ?_); refine gL (some 101) Try.func78 #[.agg #[.int .i64 a0_0, .int .i64 a0_1, .int .i64 a0_2], .slice Ao53 t1474.length co53, .int .i64 x11_4] ?_; (with_reducible refine (barscanref05_Scale.calls k4 a0_0 a0_1 a0_2 _ _ t1474 x11_4 t1478 t1481 _ ?side1 ?side2 A47.out).mono ?_); (case side1 => exact zN HO1476); (case side2 => exact (Kd.R_reads' HO1476.out).2.1); rintro e w54 ⟨v1479, rfl, ho0, hb⟩; refine ⟨_, rfl, ?_⟩; have HO1480 := Aside0.mk (Kd.R_lower (Kd.R_new' (Kd.R_new' (Kd.R_new' ho0 (Kd.R_lt (zO HO_8))) (Kd.R_lt (zO HO_10))) (Kd.R_lt (zO HO1476))) (below_size zB)); replace HO_8 := Aside0.mk (Kd.R_elder' (zO HO_8) (Kd.R_base ho0) hb); replace HO_10 := Aside0.mk (Kd.R_elder' (zO HO_10) (Kd.R_base ho0) hb); replace HO1476 := Aside0.mk (Kd.R_elder' (zO HO1476) (Kd.R_base ho0) hb); replace BK1468 := bB BK1468 hb; replace HB := bS hb; (try clear hb); (try clear ho0); (try clear z1468_0 z1468_1 z1468_2 f1468_0 f1468_1 f1468_2); obtain ⟨z1468_0, z1468_1, z1468_2, f1468_0, f1468_1, f1468_2⟩ := cz3 BK1468; obtain ⟨Ao56, co56, eo56⟩ := Kd.R_slice HO_8.out; subst eo56; obtain ⟨Ao57, co57, eo57⟩ := Kd.R_slice HO1480.out; subst eo57) | ((with_reducible refine gate_callee (f := 76) rfl ?_); refine gL (some 108) Try.func76 #[.agg #[.int .i64 a0_0, .int .i64 a0_1, .int .i64 a0_2], .slice Ao56 x8_3.length co56, .slice Ao57 t1478.length co57] ?_; (with_reducible refine (barscanref05_Add.calls k4 a0_0 a0_1 a0_2 _ _ x8_3 _ _ t1478 t1482 t1485 _ ?side1 ?side2 ?side3 ?side4 A48.out).mono ?_); (case side1 => exact zN HO_8); (case side2 => exact (Kd.R_reads' HO_8.out).2.1); (case side3 => exact zN HO1480); (case side4 => exact (Kd.R_reads' HO1480.out).2.1); rintro e w58 ⟨v1483, rfl, ho0, hb⟩; refine ⟨_, rfl, ?_⟩; have HO1484 := Aside0.mk (Kd.R_lower (Kd.R_new' (Kd.R_new' (Kd.R_new' (Kd.R_new' ho0 (Kd.R_lt (zO HO_8))) (Kd.R_lt (zO HO_10))) (Kd.R_lt (zO HO1476))) (Kd.R_lt (zO HO1480))) (below_size zB)); replace HO_8 := Aside0.mk (Kd.R_elder' (zO HO_8) (Kd.R_base ho0) hb); replace HO_10 := Aside0.mk (Kd.R_elder' (zO HO_10) (Kd.R_base ho0) hb); replace HO1476 := Aside0.mk (Kd.R_elder' (zO HO1476) (Kd.R_base ho0) hb); replace HO1480 := Aside0.mk (Kd.R_elder' (zO HO1480) (Kd.R_base ho0) hb); replace BK1468 := bB BK1468 hb; replace HB := bS hb; (try clear hb); (try clear ho0)))
                go_roundg k4
                case measure => have := HJ3.out; have := HJ24.out; have := HK3.out; have := HK4.out; omega
                case rel => exact ⟨(t1482), (wrap64 (x9_3 + 1)), zR, H', ⟨by have := HJ3.out; have := HJ24.out; have := HK3.out; have := HK4.out; omega⟩, ⟨by (with_reducible repeat (first | apply Kd.R_alloc | apply Kd.R_drewN | apply Kd.R_drew)); exact Kd.R_mono HO1484.out (fun _ hk => trivial)⟩, ⟨zK BK1468⟩, ⟨zB⟩⟩
            ·rw [if_neg c33] at H
             exact absurd H (by simp)
           ·rw [if_neg c32] at H
            exact absurd H (by simp)
          ·rw [if_neg c31] at H
           have c31b0 : decide (x9_3 < (l1.length : Int)) = false := decide_eq_false c31
           clear c31
           simp only [Option.some.injEq, Prod.mk.injEq] at H
           obtain ⟨rfl, rfl⟩ := H
           go_wp2
           go_ret2
           exact ⟨_, zE, by (with_reducible repeat (first | apply Kd.R_alloc | apply Kd.R_drewN | apply Kd.R_drew)); exact HO_8.out, zB⟩
    ·rw [if_neg c24] at H
     have c24b0 := beq_eq_false_iff_ne.mpr c24
     have c24b1 := bne_iff_ne.mpr c24
     have c24b2 : (l1.length == l2.length) = false := by first | simpa using c24 | (simp at c24 ⊢; omega)
     simp only [Option.some.injEq, Prod.mk.injEq] at H
     obtain ⟨rfl, rfl⟩ := H
     go_wp2
     go_ret2
     exact ⟨_, zE, by first | exact Kd.R_nil _ _ _ _ _ | exact Kd.N_nil _ _ _ _ _ | exact Kd.V_nil _ _ _ _ _ | exact Kd.Q_nil _ _ _ _ _ | exact Kd.S_nil _ _ _ _ _, zB⟩
end Go.Proofs.Ytlhaclammaaabaa.Pg
