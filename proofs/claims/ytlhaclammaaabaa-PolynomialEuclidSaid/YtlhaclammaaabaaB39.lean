-- Written by a program of this session over the print of the kit.
import Derived.Test.YtlhaclammaaabaaY
import Derived.Test.YtlhaclammaaabaaB1
import Derived.Test.YtlhaclammaaabaaB4
import Derived.Test.YtlhaclammaaabaaB5
import Derived.Test.YtlhaclammaaabaaB21
import Derived.Test.YtlhaclammaaabaaB26
import Derived.Test.YtlhaclammaaabaaHValid
namespace Go.Proofs.Ytlhaclammaaabaa.Pg
open Go.RowKit Go.Proofs.YtlhaclammaaabaaW.PrintWords Go.Proofs.YtlhaclammaaabaaW.PrintLast Go.Proofs.YtlhaclammaaabaaW.PrintMore
attribute [local go_sem] max2_int min2_int max_two min_two max_three min_three max_four min_four
set_option linter.unusedVariables false
set_option maxHeartbeats 8000000
set_option maxRecDepth 100000
set_option linter.unusedSimpArgs false
/-! ### barscanlaw05_PolynomialEuclid: function 16 -/
mutual
def barscanlaw05_PolynomialEuclid.j0 : Nat → List Int → List Int → List Int → List Int → Int → Bool → Int → Int → Int → Option (Bool)
 | 0, _, _, _, _, _, _, _, _, _ => none
 | k + 1, x1, x2, x3, x9, x10, x37, x1608000, x1608001, x1608002 => if x37 = true then (if x10 = 0 then (if (x9.length : Int) = 0 then ((barscanlaw05_examples.f k).bind fun t1614 => (some t1614)) else (some false)) else (some false)) else (if x10 = 0 then (if (x9.length : Int) = 0 then (barscanlaw05_PolynomialEuclid.j1 k x1 x2 x3 x9 true x1608000 x1608001 x1608002) else (if 0 ≤ (wrap64 ((x9.length : Int) - 1)) then (if (wrap64 ((x9.length : Int) - 1)) < (x9.length : Int) then (if (rd x9 (wrap64 ((x9.length : Int) - 1))) = 1 then ((barscanlaw05_rest.f k x1608000 x1608001 x1608002 x1 x9).bind fun t1616 => (if (t1616.length : Int) = 0 then ((barscanlaw05_rest.f k x1608000 x1608001 x1608002 x2 x9).bind fun t1619 => (barscanlaw05_PolynomialEuclid.j1 k x1 x2 x3 x9 ((t1619.length : Int) != 0) x1608000 x1608001 x1608002)) else (barscanlaw05_PolynomialEuclid.j1 k x1 x2 x3 x9 true x1608000 x1608001 x1608002))) else (barscanlaw05_PolynomialEuclid.j1 k x1 x2 x3 x9 true x1608000 x1608001 x1608002)) else (none)) else (none))) else (barscanlaw05_PolynomialEuclid.j1 k x1 x2 x3 x9 true x1608000 x1608001 x1608002))
def barscanlaw05_PolynomialEuclid.j1 : Nat → List Int → List Int → List Int → List Int → Bool → Int → Int → Int → Option (Bool)
 | 0, _, _, _, _, _, _, _, _ => none
 | k + 1, x1, x2, x3, x9, x79, x1608000, x1608001, x1608002 => if x79 = true then (some false) else (if (x2.length : Int) > 0 then ((barscanlaw05_rest.f k x1608000 x1608001 x1608002 x1 x2).bind fun t1622 => ((polynomial_GCD.f k x1608000 x1608001 x1608002 x2 t1622).bind fun bt1625 => (if bt1625.2 = 0 then ((barscanlaw05_same.f k bt1625.1 x9).bind fun t1629 => (if t1629 = true then (barscanlaw05_PolynomialEuclid.j2 k x1 x2 x3 x9 x1608000 x1608001 x1608002) else (some false))) else (some false)))) else (barscanlaw05_PolynomialEuclid.j2 k x1 x2 x3 x9 x1608000 x1608001 x1608002))
def barscanlaw05_PolynomialEuclid.j2 : Nat → List Int → List Int → List Int → List Int → Int → Int → Int → Option (Bool)
 | 0, _, _, _, _, _, _, _ => none
 | k + 1, x1, x2, x3, x9, x1608000, x1608001, x1608002 => if (x3.length : Int) = 0 then ((barscanlaw05_examples.f k).bind fun t1630 => (some t1630)) else ((barscanlaw05_mul.f k x1608000 x1608001 x1608002 x1 x3).bind fun t1631 => ((barscanlaw05_mul.f k x1608000 x1608001 x1608002 x2 x3).bind fun t1634 => ((polynomial_GCD.f k x1608000 x1608001 x1608002 t1631 t1634).bind fun bt1637 => (if bt1637.2 = 0 then ((barscanlaw05_rest.f k x1608000 x1608001 x1608002 bt1637.1 x3).bind fun t1641 => (if (t1641.length : Int) = 0 then ((barscanlaw05_rest.f k x1608000 x1608001 x1608002 bt1637.1 x9).bind fun t1644 => (if (t1644.length : Int) = 0 then (if (bt1637.1.length : Int) = (wrap64 ((wrap64 ((x9.length : Int) + (x3.length : Int))) - 1)) then ((barscanlaw05_examples.f k).bind fun t1647 => (some t1647)) else (some false)) else (some false))) else (some false))) else (some false)))))
end
def barscanlaw05_PolynomialEuclid.f (k : Nat) (a0_0 : Int) (a0_1 : Int) (a0_2 : Int) (l1 : List Int) (l2 : List Int) (l3 : List Int) : Option (Bool) := (valid3.f k a0_0 a0_1 a0_2 40 l1 l2 l3).bind fun t1608 => (if t1608 = true then ((polynomial_GCD.f k a0_0 a0_1 a0_2 l1 l2).bind fun bt1610 => (if (l1.length : Int) = 0 then (barscanlaw05_PolynomialEuclid.j0 k l1 l2 l3 bt1610.1 bt1610.2 ((l2.length : Int) == 0) a0_0 a0_1 a0_2) else (barscanlaw05_PolynomialEuclid.j0 k l1 l2 l3 bt1610.1 bt1610.2 false a0_0 a0_1 a0_2))) else ((barscanlaw05_examples.f k).bind fun t1609 => (some t1609)))
theorem barscanlaw05_PolynomialEuclid.mono_l : ∀ k, (∀ y0 y1 y2 y3 y4 y5 y6 y7 y8, LeO (barscanlaw05_PolynomialEuclid.j0 k y0 y1 y2 y3 y4 y5 y6 y7 y8) (barscanlaw05_PolynomialEuclid.j0 (k + 1) y0 y1 y2 y3 y4 y5 y6 y7 y8)) ∧ (∀ y0 y1 y2 y3 y4 y5 y6 y7, LeO (barscanlaw05_PolynomialEuclid.j1 k y0 y1 y2 y3 y4 y5 y6 y7) (barscanlaw05_PolynomialEuclid.j1 (k + 1) y0 y1 y2 y3 y4 y5 y6 y7)) ∧ (∀ y0 y1 y2 y3 y4 y5 y6, LeO (barscanlaw05_PolynomialEuclid.j2 k y0 y1 y2 y3 y4 y5 y6) (barscanlaw05_PolynomialEuclid.j2 (k + 1) y0 y1 y2 y3 y4 y5 y6))
 | 0 => ⟨fun _ _ _ _ _ _ _ _ _ r h => by simp [barscanlaw05_PolynomialEuclid.j0] at h, fun _ _ _ _ _ _ _ _ r h => by simp [barscanlaw05_PolynomialEuclid.j1] at h, fun _ _ _ _ _ _ _ r h => by simp [barscanlaw05_PolynomialEuclid.j2] at h⟩
 | k + 1 => by
  obtain ⟨ih0, ih1, ih2⟩ := barscanlaw05_PolynomialEuclid.mono_l k
  refine ⟨?_, ?_, ?_⟩
  ·intro y0 y1 y2 y3 y4 y5 y6 y7 y8
   unfold barscanlaw05_PolynomialEuclid.j0
   have m0_ := @barscanlaw05_examples.mono
   have m1_ := @barscanlaw05_mul.mono
   have m2_ := @barscanlaw05_rest.mono
   have m3_ := @barscanlaw05_same.mono
   have m4_ := @polynomial_GCD.mono
   have m5_ := @valid3.mono
   exact zMo
  ·intro y0 y1 y2 y3 y4 y5 y6 y7
   unfold barscanlaw05_PolynomialEuclid.j1
   have m0_ := @barscanlaw05_examples.mono
   have m1_ := @barscanlaw05_mul.mono
   have m2_ := @barscanlaw05_rest.mono
   have m3_ := @barscanlaw05_same.mono
   have m4_ := @polynomial_GCD.mono
   have m5_ := @valid3.mono
   exact zMo
  ·intro y0 y1 y2 y3 y4 y5 y6
   unfold barscanlaw05_PolynomialEuclid.j2
   have m0_ := @barscanlaw05_examples.mono
   have m1_ := @barscanlaw05_mul.mono
   have m2_ := @barscanlaw05_rest.mono
   have m3_ := @barscanlaw05_same.mono
   have m4_ := @polynomial_GCD.mono
   have m5_ := @valid3.mono
   exact zMo
theorem barscanlaw05_PolynomialEuclid.mono : ∀ a0 a1 a2 a3 a4 a5 k, LeO (barscanlaw05_PolynomialEuclid.f k a0 a1 a2 a3 a4 a5) (barscanlaw05_PolynomialEuclid.f (k + 1) a0 a1 a2 a3 a4 a5) := by
 intro a0 a1 a2 a3 a4 a5 k
 obtain ⟨ih0, ih1, ih2⟩ := barscanlaw05_PolynomialEuclid.mono_l k
 unfold barscanlaw05_PolynomialEuclid.f
 have m0_ := @barscanlaw05_examples.mono
 have m1_ := @barscanlaw05_mul.mono
 have m2_ := @barscanlaw05_rest.mono
 have m3_ := @barscanlaw05_same.mono
 have m4_ := @polynomial_GCD.mono
 have m5_ := @valid3.mono
 exact zMo
def barscanlaw05_PolynomialEuclid.T9 : Bool × List (List Nat × List Nat) := (true, [([], []), ([], []), ([], []), ([], []), ([], []), ([2, 3, 4], [2, 3, 4]), ([0, 1, 5, 5], [0, 1, 5]), ([6], [6]), ([7], [7]), ([7], [7]), ([8, 6, 0, 1, 2, 3, 4, 5, 6, 7, 8], [8]), ([9, 10, 0, 1, 2, 3, 4, 5, 6, 7, 8, 9, 10], [9])])
def barscanlaw05_PolynomialEuclid.B9 : List Nat := [0, 0, 0, 0, 0, 28, 63, 127, 255, 255, 511, 2047]
theorem barscanlaw05_PolynomialEuclid.tab9 : rtab .any (opsOf Try.f16 9) = barscanlaw05_PolynomialEuclid.T9 := by kernel_rfl
theorem barscanlaw05_PolynomialEuclid.bits9 : waitsOk barscanlaw05_PolynomialEuclid.T9.2 barscanlaw05_PolynomialEuclid.B9 = true := by kernel_rfl
def barscanlaw05_PolynomialEuclid.T14 : Bool × List (List Nat × List Nat) := (true, [([], []), ([], []), ([], []), ([], []), ([1, 2, 3], [1, 2, 3]), ([], []), ([], []), ([], []), ([5, 6, 7, 4], [5, 6, 7]), ([0, 4, 8, 8], [0, 4, 8]), ([9], [9]), ([10], [10]), ([10], [10]), ([11, 9, 0, 1, 2, 3, 4, 5, 6, 7, 8, 9, 10, 11], [11]), ([12, 13, 0, 1, 2, 3, 4, 5, 6, 7, 8, 9, 10, 11, 12, 13], [12])])
def barscanlaw05_PolynomialEuclid.B14 : List Nat := [0, 0, 0, 0, 14, 0, 0, 0, 254, 511, 1023, 2047, 2047, 4095, 16383]
theorem barscanlaw05_PolynomialEuclid.tab14 : rtab .any (opsOf Try.f16 14) = barscanlaw05_PolynomialEuclid.T14 := by kernel_rfl
theorem barscanlaw05_PolynomialEuclid.bits14 : waitsOk barscanlaw05_PolynomialEuclid.T14.2 barscanlaw05_PolynomialEuclid.B14 = true := by kernel_rfl
theorem barscanlaw05_PolynomialEuclid.calls (k : Nat) (a0_0 : Int) (a0_1 : Int) (a0_2 : Int) (A1 : Option Addr) (c1 : Nat) (l1 : List Int) (A2 : Option Addr) (c2 : Nat) (l2 : List Int) (A3 : Option Addr) (c3 : Nat) (l3 : List Int) (r : Bool) (w : World) (hr1 : Kd.C (Kd.int .i64) w A1 l1.length l1) (hc1 : l1.length ≤ c1) (hr2 : Kd.C (Kd.int .i64) w A2 l2.length l2) (hc2 : l2.length ≤ c2) (hr3 : Kd.C (Kd.int .i64) w A3 l3.length l3) (hc3 : l3.length ≤ c3) (h : barscanlaw05_PolynomialEuclid.f k a0_0 a0_1 a0_2 l1 l2 l3 = some r) :
  Calls Try.prog 16 #[.agg #[.int .i64 a0_0, .int .i64 a0_1, .int .i64 a0_2], .slice A1 l1.length c1, .slice A2 l2.length c2, .slice A3 l3.length c3] w fun e w' => e = .returned (.bool r) ∧ Below w.heap.size w w' := by
 have hu23 := Try.underlying23
 have HR1 := Aside0.mk hr1
 have HC1 := Aside0.mk hc1
 clear hr1 hc1
 have HR2 := Aside0.mk hr2
 have HC2 := Aside0.mk hc2
 clear hr2 hc2
 have HR3 := Aside0.mk hr3
 have HC3 := Aside0.mk hc3
 clear hr3 hc3
 have HB := Aside0.mk (Below.refl w.heap.size w)
 have H := h
 unfold barscanlaw05_PolynomialEuclid.f at H
 clear h
 obtain ⟨t1608, A5, H⟩ := zD H
 by_cases c6 : t1608 = true
 ·subst c6
  rw [if_pos rfl] at H
  obtain ⟨⟨t1610, t1613⟩, A7, H⟩ := zD H
  dsimp only at H
  have HC8 := Aside0.mk H
  clear H
  go_enter Try.func16, Try.ntmps16
  go_upto_region 4 with (first | ((with_reducible refine gate_dst (N := 4) rfl ?_); (try (refine gate_guard (by rfl) ?_; dsimp only)); refine zBox 4 #[.int .i64 a0_0, .int .i64 a0_1, .int .i64 a0_2] 23 ?_; clear HB; intro gb1607 w9 BK1607 GE1607 HB; (try clear z1607_0 z1607_1 z1607_2 f1607_0 f1607_1 f1607_2); obtain ⟨z1607_0, z1607_1, z1607_2, f1607_0, f1607_1, f1607_2⟩ := cz3 BK1607) | (go_at_call 47; (with_reducible refine (valid3.calls k a0_0 a0_1 a0_2 40 _ _ l1 _ _ l2 _ _ l3 true _ ?side1 ?side2 ?side3 ?side4 ?side5 ?side6 A5.out).mono ?_); (case side1 => exact zN HR1); (case side2 => exact HC1.out); (case side3 => exact zN HR2); (case side4 => exact HC2.out); (case side5 => exact zN HR3); (case side6 => exact HC3.out); rintro e w11 ⟨rfl, hb⟩; replace BK1607 := bB BK1607 hb; replace HB := bS hb; (try clear hb); (try clear z1607_0 z1607_1 z1607_2 f1607_0 f1607_1 f1607_2); obtain ⟨z1607_0, z1607_1, z1607_2, f1607_0, f1607_1, f1607_2⟩ := cz3 BK1607) | ((with_reducible refine gate_callee (f := 68) rfl ?_); refine gL (some 27) Try.func68 #[.agg #[.int .i64 a0_0, .int .i64 a0_1, .int .i64 a0_2], .slice A1 l1.length c1, .slice A2 l2.length c2] ?_; (with_reducible refine (polynomial_GCD.calls k a0_0 a0_1 a0_2 (fun k_ => k_ < w.heap.size) _ _ l1 (fun k_ => k_ < w.heap.size) _ _ l2 t1610 t1613 _ ?side1 ?side2 A7.out).mono ?_); (case side1 => exact Kd.V_mk HC1.out (Kd.F_below (Kd.C_F (Kd.heap_int .i64) HR1.out) zB)); (case side2 => exact Kd.V_mk HC2.out (Kd.F_below (Kd.C_F (Kd.heap_int .i64) HR2.out) zB)); rintro e w13 ⟨v1611, rfl, ho0, hb⟩; refine ⟨_, rfl, ?_⟩; have HO1612 := Aside0.mk (Kd.R_lower (Kd.R_mono (ok' := fun k_ => True) ho0 (fun _ hk_ => trivial)) (below_size zB)); replace BK1607 := bB BK1607 hb; replace HB := bS hb; (try clear hb); (try clear ho0)))
  (try simp only [Act.put, List.setIfInBounds_toArray, List.set_cons_zero, List.set_cons_succ])
  go_cut [37] (fun v37 wc => ∃ (kq : Nat) (x37_7 : Bool), v37 = .bool x37_7 ∧ Aside0 (barscanlaw05_PolynomialEuclid.j0 kq l1 l2 l3 t1610 t1613 x37_7 a0_0 a0_1 a0_2 = some r) ∧ Aside0 (kq ≤ k) ∧ Aside0 (Kd.R (Kd.int .i64) 3 wc w.heap.size (fun _ => True) v1611 t1610) ∧ Aside0 (wc.heap[gb1607]? = some (.cells #[.int .i64 a0_0, .int .i64 a0_1, .int .i64 a0_2] 23 (0, 0))) ∧ Aside0 (Below w.heap.size w wc))
  case first =>
   have H := HC8.out
   clear HC8
   by_cases c14 : (l1.length : Int) = 0
   ·rw [if_pos c14] at H
    have c14b0 := beq_iff_eq.mpr c14
    have c14b1 := bne_eq_false_iff_eq.mpr c14
    clear c14
    (first | rw [c14b0] | (simp only [i64_w, i32_w]; rw [c14b0]) | skip)
    have H' := zA H
    clear H
    go_wp2
    go_meet
    case rel => exact ⟨_, (((l2.length : Int) == 0)), zR, H', zL, ⟨zO HO1612⟩, ⟨zK BK1607⟩, ⟨zB⟩⟩
   ·rw [if_neg c14] at H
    have c14b0 := beq_eq_false_iff_ne.mpr c14
    have c14b1 := bne_iff_ne.mpr c14
    have c14b2 : ¬ (l1 = []) := fun h_ => c14 (by rw [h_]; rfl)
    (first | rw [c14b0] | (simp only [i64_w, i32_w]; rw [c14b0]) | skip)
    have H' := zA H
    clear H
    go_wp2
    go_meet
    case rel => exact ⟨_, (false), zR, H', zL, ⟨zO HO1612⟩, ⟨zK BK1607⟩, ⟨zB⟩⟩
  case rest =>
   clear HC8
   try clear c1
   try clear c2
   try clear p2
   try clear c3
   try clear c6
   try clear c9
   try clear c14
   try clear c14b0
   try clear c14b1
   try clear c14b2
   try clear z1607_0 z1607_1 z1607_2 f1607_0 f1607_1 f1607_2
   obtain ⟨kq, x37_7, rfl, HA, HJ7, HO_9, BK1607, HB⟩ := hcut
   cases kq with
   | zero => exact absurd HA.out (by simp [barscanlaw05_PolynomialEuclid.j0])
   | succ kj7 =>
    have H := HA.out
    clear HA
    simp only [barscanlaw05_PolynomialEuclid.j0] at H
    by_cases c15 : x37_7 = true
    ·subst c15
     rw [if_pos rfl] at H
     by_cases c16 : t1613 = 0
     ·rw [if_pos c16] at H
      have c16b0 := beq_iff_eq.mpr c16
      have c16b1 := bne_eq_false_iff_eq.mpr c16
      clear c16
      by_cases c17 : (t1610.length : Int) = 0
      ·rw [if_pos c17] at H
       have c17b0 := beq_iff_eq.mpr c17
       have c17b1 := bne_eq_false_iff_eq.mpr c17
       clear c17
       obtain ⟨t1614, A18, H⟩ := zD H
       obtain rfl := Option.some.inj H
       obtain ⟨Ao19, co19, eo19⟩ := Kd.R_slice HO_9.out
       subst eo19
       go_wp2_with (first | (go_at_call 48; (with_reducible refine (barscanlaw05_examples.calls kj7  t1614 _ A18.out).mono ?_); rintro e w20 ⟨rfl, hb⟩; replace HO_9 := Aside0.mk (Kd.R_below (zO HO_9) hb); replace BK1607 := bB BK1607 hb; replace HB := bS hb; (try clear hb)))
       go_ret
       exact ⟨zE, zB⟩
      ·rw [if_neg c17] at H
       have c17b0 := beq_eq_false_iff_ne.mpr c17
       have c17b1 := bne_iff_ne.mpr c17
       have c17b2 : ¬ (t1610 = []) := fun h_ => c17 (by rw [h_]; rfl)
       obtain rfl := Option.some.inj H
       obtain ⟨Ao21, co21, eo21⟩ := Kd.R_slice HO_9.out
       subst eo21
       go_wp2
       go_ret
       exact ⟨zE, zB⟩
     ·rw [if_neg c16] at H
      have c16b0 := beq_eq_false_iff_ne.mpr c16
      have c16b1 := bne_iff_ne.mpr c16
      obtain rfl := Option.some.inj H
      go_wp2
      go_ret
      exact ⟨zE, zB⟩
    ·replace c15 := Bool.eq_false_iff.mpr c15
     subst c15
     rw [if_neg (show ¬ (false = true) by decide)] at H
     have HC22 := Aside0.mk H
     clear H
     go_upto_region 6 with (fail)
     go_cut [79] (fun v79 wc => ∃ (kq : Nat) (x79_21 : Bool), v79 = .bool x79_21 ∧ Aside0 (barscanlaw05_PolynomialEuclid.j1 kq l1 l2 l3 t1610 x79_21 a0_0 a0_1 a0_2 = some r) ∧ Aside0 (kq ≤ kj7) ∧ Aside0 (Kd.R (Kd.int .i64) 3 wc w.heap.size (fun _ => True) v1611 t1610) ∧ Aside0 (wc.heap[gb1607]? = some (.cells #[.int .i64 a0_0, .int .i64 a0_1, .int .i64 a0_2] 23 (0, 0))) ∧ Aside0 (Below w.heap.size w wc))
     case first =>
      have H := HC22.out
      clear HC22
      by_cases c23 : t1613 = 0
      ·rw [if_pos c23] at H
       have c23b0 := beq_iff_eq.mpr c23
       have c23b1 := bne_eq_false_iff_eq.mpr c23
       clear c23
       (first | rw [c23b0] | (simp only [i64_w, i32_w]; rw [c23b0]) | skip)
       by_cases c24 : (t1610.length : Int) = 0
       ·rw [if_pos c24] at H
        have c24b0 := beq_iff_eq.mpr c24
        have c24b1 := bne_eq_false_iff_eq.mpr c24
        clear c24
        have H' := zA H
        clear H
        obtain ⟨Ao25, co25, eo25⟩ := Kd.R_slice HO_9.out
        subst eo25
        go_wp2
        go_meet
        case rel => exact ⟨_, (true), zR, H', ⟨by have := HJ7.out; first | omega | exact Nat.le_refl _⟩, ⟨zO HO_9⟩, ⟨zK BK1607⟩, ⟨zB⟩⟩
       ·rw [if_neg c24] at H
        have c24b0 := beq_eq_false_iff_ne.mpr c24
        have c24b1 := bne_iff_ne.mpr c24
        have c24b2 : ¬ (t1610 = []) := fun h_ => c24 (by rw [h_]; rfl)
        obtain ⟨ji26, hji26⟩ : ∃ j_ : Int, (wrap64 ((t1610.length : Int) - 1)) = j_ := ⟨_, rfl⟩
        first | rw [hji26] at H | simp only [hji26] at H
        have hji26w : (IntKind.i64.wrap ((t1610.length : Int) - 1)) = ji26 := (i64_w _).trans hji26
        by_cases c27 : 0 ≤ (ji26)
        ·rw [if_pos c27] at H
         have c27b0 : decide (0 ≤ (ji26)) = true := decide_eq_true c27
         clear c27
         by_cases c28 : (ji26) < (t1610.length : Int)
         ·rw [if_pos c28] at H
          have c28b0 : decide ((ji26) < (t1610.length : Int)) = true := decide_eq_true c28
          clear c28
          by_cases c29 : (rd t1610 (ji26)) = 1
          ·rw [if_pos c29] at H
           have c29b0 := beq_iff_eq.mpr c29
           have c29b1 := bne_eq_false_iff_eq.mpr c29
           clear c29
           obtain ⟨t1616, A30, H⟩ := zD H
           by_cases c31 : (t1616.length : Int) = 0
           ·rw [if_pos c31] at H
            have c31b0 := beq_iff_eq.mpr c31
            have c31b1 := bne_eq_false_iff_eq.mpr c31
            clear c31
            obtain ⟨t1619, A32, H⟩ := zD H
            have H' := zA H
            clear H
            obtain ⟨Ao33, co33, eo33⟩ := Kd.R_slice HO_9.out
            subst eo33
            have p1615 : 0 ≤ ((ji26) : Int) := of_decide_eq_true (by first | (with_reducible assumption) | assumption)
            have q1615 : (ji26) < (t1610.length : Int) := of_decide_eq_true (by first | (with_reducible assumption) | assumption)
            obtain ⟨ad1615, e1615, hx1615_0⟩ := Kd.at_int (Kd.R_reads' HO_9.out).2.2 (ji26) p1615 q1615
            cases e1615
            replace p1615 := eq_true p1615
            replace q1615 := eq_true q1615
            (try clear z1607_0 z1607_1 z1607_2 f1607_0 f1607_1 f1607_2)
            obtain ⟨z1607_0, z1607_1, z1607_2, f1607_0, f1607_1, f1607_2⟩ := cz3 BK1607
            go_wp2_with (first | (go_at_call 52; (with_reducible refine (barscanlaw05_rest.calls kj7 a0_0 a0_1 a0_2 _ _ l1 _ _ t1610 t1616 _ ?side1 ?side2 ?side3 ?side4 A30.out).mono ?_); (case side1 => exact zN HR1); (case side2 => exact HC1.out); (case side3 => exact zN HO_9); (case side4 => exact (Kd.R_reads' HO_9.out).2.1); rintro e w35 ⟨v1617, rfl, ho0, hb⟩; have HO1618 := Aside0.mk (Kd.R_lower (Kd.R_new' ho0 (Kd.R_lt (zO HO_9))) (below_size zB)); replace HO_9 := Aside0.mk (Kd.R_elder' (zO HO_9) (Kd.R_base ho0) hb); replace BK1607 := bB BK1607 hb; replace HB := bS hb; (try clear hb); (try clear ho0); obtain ⟨Ao36, co36, eo36⟩ := Kd.R_slice HO1618.out; subst eo36; (try clear z1607_0 z1607_1 z1607_2 f1607_0 f1607_1 f1607_2); obtain ⟨z1607_0, z1607_1, z1607_2, f1607_0, f1607_1, f1607_2⟩ := cz3 BK1607) | (go_at_call 52; (with_reducible refine (barscanlaw05_rest.calls kj7 a0_0 a0_1 a0_2 _ _ l2 _ _ t1610 t1619 _ ?side1 ?side2 ?side3 ?side4 A32.out).mono ?_); (case side1 => exact zN HR2); (case side2 => exact HC2.out); (case side3 => exact zN HO_9); (case side4 => exact (Kd.R_reads' HO_9.out).2.1); rintro e w38 ⟨v1620, rfl, ho0, hb⟩; have HO1621 := Aside0.mk (Kd.R_lower (Kd.R_new' (Kd.R_new' ho0 (Kd.R_lt (zO HO_9))) (Kd.R_lt (zO HO1618))) (below_size zB)); replace HO_9 := Aside0.mk (Kd.R_elder' (zO HO_9) (Kd.R_base ho0) hb); replace HO1618 := Aside0.mk (Kd.R_elder' (zO HO1618) (Kd.R_base ho0) hb); replace BK1607 := bB BK1607 hb; replace HB := bS hb; (try clear hb); (try clear ho0); obtain ⟨Ao39, co39, eo39⟩ := Kd.R_slice HO1621.out; subst eo39))
            go_meet
            case rel => exact ⟨_, (((t1619.length : Int) != 0)), zR, H', ⟨by have := HJ7.out; first | omega | exact Nat.le_refl _⟩, ⟨by (with_reducible repeat (first | apply Kd.R_alloc | apply Kd.R_drewN | apply Kd.R_drew)); exact Kd.R_mono HO_9.out (fun _ hk => trivial)⟩, ⟨zK BK1607⟩, ⟨zB⟩⟩
           ·rw [if_neg c31] at H
            have c31b0 := beq_eq_false_iff_ne.mpr c31
            have c31b1 := bne_iff_ne.mpr c31
            have c31b2 : ¬ (t1616 = []) := fun h_ => c31 (by rw [h_]; rfl)
            have H' := zA H
            clear H
            obtain ⟨Ao40, co40, eo40⟩ := Kd.R_slice HO_9.out
            subst eo40
            have p1615 : 0 ≤ ((ji26) : Int) := of_decide_eq_true (by first | (with_reducible assumption) | assumption)
            have q1615 : (ji26) < (t1610.length : Int) := of_decide_eq_true (by first | (with_reducible assumption) | assumption)
            obtain ⟨ad1615, e1615, hx1615_0⟩ := Kd.at_int (Kd.R_reads' HO_9.out).2.2 (ji26) p1615 q1615
            cases e1615
            replace p1615 := eq_true p1615
            replace q1615 := eq_true q1615
            (try clear z1607_0 z1607_1 z1607_2 f1607_0 f1607_1 f1607_2)
            obtain ⟨z1607_0, z1607_1, z1607_2, f1607_0, f1607_1, f1607_2⟩ := cz3 BK1607
            go_wp2_with (first | (go_at_call 52; (with_reducible refine (barscanlaw05_rest.calls kj7 a0_0 a0_1 a0_2 _ _ l1 _ _ t1610 t1616 _ ?side1 ?side2 ?side3 ?side4 A30.out).mono ?_); (case side1 => exact zN HR1); (case side2 => exact HC1.out); (case side3 => exact zN HO_9); (case side4 => exact (Kd.R_reads' HO_9.out).2.1); rintro e w42 ⟨v1617, rfl, ho0, hb⟩; have HO1618 := Aside0.mk (Kd.R_lower (Kd.R_new' ho0 (Kd.R_lt (zO HO_9))) (below_size zB)); replace HO_9 := Aside0.mk (Kd.R_elder' (zO HO_9) (Kd.R_base ho0) hb); replace BK1607 := bB BK1607 hb; replace HB := bS hb; (try clear hb); (try clear ho0); obtain ⟨Ao43, co43, eo43⟩ := Kd.R_slice HO1618.out; subst eo43))
            go_meet
            case rel => exact ⟨_, (true), zR, H', ⟨by have := HJ7.out; first | omega | exact Nat.le_refl _⟩, ⟨by (with_reducible repeat (first | apply Kd.R_alloc | apply Kd.R_drewN | apply Kd.R_drew)); exact Kd.R_mono HO_9.out (fun _ hk => trivial)⟩, ⟨zK BK1607⟩, ⟨zB⟩⟩
          ·rw [if_neg c29] at H
           have c29b0 := beq_eq_false_iff_ne.mpr c29
           have c29b1 := bne_iff_ne.mpr c29
           have H' := zA H
           clear H
           obtain ⟨Ao44, co44, eo44⟩ := Kd.R_slice HO_9.out
           subst eo44
           have p1615 : 0 ≤ ((ji26) : Int) := of_decide_eq_true (by first | (with_reducible assumption) | assumption)
           have q1615 : (ji26) < (t1610.length : Int) := of_decide_eq_true (by first | (with_reducible assumption) | assumption)
           obtain ⟨ad1615, e1615, hx1615_0⟩ := Kd.at_int (Kd.R_reads' HO_9.out).2.2 (ji26) p1615 q1615
           cases e1615
           replace p1615 := eq_true p1615
           replace q1615 := eq_true q1615
           go_wp2
           go_meet
           case rel => exact ⟨_, (true), zR, H', ⟨by have := HJ7.out; first | omega | exact Nat.le_refl _⟩, ⟨zO HO_9⟩, ⟨zK BK1607⟩, ⟨zB⟩⟩
         ·rw [if_neg c28] at H
          exact absurd H (by simp)
        ·rw [if_neg c27] at H
         exact absurd H (by simp)
      ·rw [if_neg c23] at H
       have c23b0 := beq_eq_false_iff_ne.mpr c23
       have c23b1 := bne_iff_ne.mpr c23
       (first | rw [c23b0] | (simp only [i64_w, i32_w]; rw [c23b0]) | skip)
       have H' := zA H
       clear H
       go_wp2
       go_meet
       case rel => exact ⟨_, (true), zR, H', ⟨by have := HJ7.out; first | omega | exact Nat.le_refl _⟩, ⟨zO HO_9⟩, ⟨zK BK1607⟩, ⟨zB⟩⟩
     case rest =>
      clear HC22
      try clear c1
      try clear p1
      try clear q1
      try clear hx1
      try clear c2
      try clear p2
      try clear c3
      try clear c6
      try clear p6
      try clear c9
      try clear c14
      try clear c14b0
      try clear c14b1
      try clear c14b2
      try clear c15
      try clear c16
      try clear c16b0
      try clear c16b1
      try clear p16
      try clear q16
      try clear hx16
      try clear c17
      try clear c17b0
      try clear c17b1
      try clear c17b2
      try clear c23
      try clear c23b0
      try clear c23b1
      try clear c24
      try clear c24b0
      try clear c24b1
      try clear c24b2
      try clear c27
      try clear c27b0
      try clear c28
      try clear c28b0
      try clear c29
      try clear c29b0
      try clear c29b1
      try clear c31
      try clear c31b0
      try clear c31b1
      try clear c31b2
      try clear z1607_0 z1607_1 z1607_2 f1607_0 f1607_1 f1607_2
      try clear hx1615_0
      try clear p1615
      try clear p2
      try clear q1615
      obtain ⟨kq, x79_21, rfl, HA, HJ21, HO_9, BK1607, HB⟩ := hcut
      cases kq with
      | zero => exact absurd HA.out (by simp [barscanlaw05_PolynomialEuclid.j1])
      | succ kj21 =>
       have H := HA.out
       clear HA
       simp only [barscanlaw05_PolynomialEuclid.j1] at H
       by_cases c45 : x79_21 = true
       ·subst c45
        rw [if_pos rfl] at H
        obtain rfl := Option.some.inj H
        go_wp2
        go_ret
        exact ⟨zE, zB⟩
       ·replace c45 := Bool.eq_false_iff.mpr c45
        subst c45
        rw [if_neg (show ¬ (false = true) by decide)] at H
        have HC46 := Aside0.mk H
        clear H
        go_upto_if 82 with (fail)
        go_cut [] (fun wc => ∃ (kq : Nat), Aside0 (barscanlaw05_PolynomialEuclid.j2 kq l1 l2 l3 t1610 a0_0 a0_1 a0_2 = some r) ∧ Aside0 (kq ≤ kj21) ∧ Aside0 (Kd.R (Kd.int .i64) 3 wc w.heap.size (fun _ => True) v1611 t1610) ∧ Aside0 (wc.heap[gb1607]? = some (.cells #[.int .i64 a0_0, .int .i64 a0_1, .int .i64 a0_2] 23 (0, 0))) ∧ Aside0 (Below w.heap.size w wc))
        case first =>
         have H := HC46.out
         clear HC46
         by_cases c47 : (l2.length : Int) > 0
         ·rw [if_pos c47] at H
          have c47b0 : decide (0 < (l2.length : Int)) = true := decide_eq_true c47
          have c47b1 : decide (0 < l2.length) = true := decide_eq_true (by omega)
          clear c47
          (first | rw [c47b0] | (simp only [i64_w, i32_w]; rw [c47b0]) | rw [c47b1] | skip)
          obtain ⟨t1622, A48, H⟩ := zD H
          obtain ⟨⟨t1625, t1628⟩, A49, H⟩ := zD H
          dsimp only at H
          by_cases c50 : t1628 = 0
          ·rw [if_pos c50] at H
           have c50b0 := beq_iff_eq.mpr c50
           have c50b1 := bne_eq_false_iff_eq.mpr c50
           clear c50
           obtain ⟨t1629, A51, H⟩ := zD H
           by_cases c52 : t1629 = true
           ·subst c52
            rw [if_pos rfl] at H
            have H' := zA H
            clear H
            try go_wp2
            replace HO_9 := Aside0.mk (Kd.R_drew HO_9.out)
            replace BK1607 := Aside0.mk (blk_drew BK1607.out)
            replace HB := Aside0.mk (below_drew1 HB.out)
            refine start_ (n := 12) (S := fun w' => w'.cell? ⟨gb1607, 0, none⟩ = some (.int .i64 a0_0) ∧ w'.cell? ⟨gb1607, 1, none⟩ = some (.int .i64 a0_1) ∧ w'.cell? ⟨gb1607, 2, none⟩ = some (.int .i64 a0_2)) (ds := []) #[false, false, false, false, false, false, false, false, false, false, false, false] (by kernel_rfl) rfl rfl zS (fun hHeld => ?_); refine with_tabW barscanlaw05_PolynomialEuclid.tab9 barscanlaw05_PolynomialEuclid.bits9 (fun HT_ HW_ => ?_)
            generalize wc.drew = w53 at HO_9 BK1607 HB hHeld ⊢
            refine pU 1 (some 85) ?_
            refine pU 3 (some 87) ?_
            refine pU 4 (some 88) ?_
            refine tU 0 (some 84) hHeld ?_
            refine tU 2 (some 86) hHeld ?_
            refine oU 5 (some 89) (fun K hK => ?_)
            refine goes_ Try.func52 (by kernel_rfl) rfl #[.agg #[.int .i64 a0_0, .int .i64 a0_1, .int .i64 a0_2], .slice A1 l1.length c1, .slice A2 l2.length c2] (by rfl) rfl rfl zM ?_
            with_reducible refine (barscanlaw05_rest.calls kj21 a0_0 a0_1 a0_2 _ _ l1 _ _ l2 t1622 _ ?side1 ?side2 ?side3 ?side4 A48.out).mono ?_
            (case side1 => exact zN HR1)
            (case side2 => exact HC1.out)
            (case side3 => exact zN HR2)
            (case side4 => exact HC2.out)
            rintro e w54 ⟨v1623, rfl, ho0, hb⟩
            refine ⟨_, rfl, ?_⟩
            have HO1624 := Aside0.mk (Kd.R_lower (Kd.R_new' ho0 (Kd.R_lt (zO HO_9))) (below_size zB))
            replace HO_9 := Aside0.mk (Kd.R_elder' (zO HO_9) (Kd.R_base ho0) hb)
            replace BK1607 := bB BK1607 hb
            replace HB := bS hb
            (try clear hb)
            (try clear hb2)
            (try clear hk)
            (try clear hi)
            (try clear ho0)
            obtain ⟨Ao55, co55, eo55⟩ := Kd.R_slice HO1624.out
            (first | subst eo55 | (injection eo55 with f1_ f2_ f3_; have f4_ := f1_.symm; have f5_ := f3_.symm; clear f1_ f2_ f3_; subst f4_; subst f5_))
            refine hK.out _ _ zS (fun hHeld => ?_)
            clear hK K
            refine nU ?_
            refine oU 6 (some 90) (fun K hK => ?_)
            refine goes_ Try.func68 (by kernel_rfl) rfl #[.agg #[.int .i64 a0_0, .int .i64 a0_1, .int .i64 a0_2], .slice A2 l2.length c2, .slice Ao55 t1622.length co55] (by rfl) rfl rfl zM ?_
            with_reducible refine (polynomial_GCD.calls kj21 a0_0 a0_1 a0_2 (fun k_ => k_ < w.heap.size) _ _ l2 (fun k_ => some k_ = (.slice Ao55 t1622.length co55 : Value).ownBlock) _ _ t1622 t1625 t1628 _ ?side1 ?side2 A49.out).mono ?_
            (case side1 => exact Kd.V_mk HC2.out (Kd.F_below (Kd.C_F (Kd.heap_int .i64) HR2.out) zB))
            (case side2 => exact Kd.R_V (Kd.R_tight rfl (Kd.R_types (HO1624.out) BK1607.out (by decide))))
            rintro e w56 ⟨v1626, rfl, ho0, hb⟩
            refine ⟨_, rfl, ?_⟩
            have HO1627 := Aside0.mk (Kd.R_lower (Kd.R_new' (Kd.R_new' (Kd.R_mono (ok' := fun k_ => True) ho0 (fun _ hk_ => trivial)) (Kd.R_lt (zO HO_9))) (Kd.R_lt (zO HO1624))) (below_size zB))
            replace HO_9 := Aside0.mk (Kd.R_elder' (zO HO_9) (Kd.R_base ho0) hb)
            replace HO1624 := Aside0.mk (Kd.R_elder' (zO HO1624) (Kd.R_base ho0) hb)
            replace BK1607 := bB BK1607 hb
            replace HB := bS hb
            (try clear hb)
            (try clear hb2)
            (try clear hk)
            (try clear hi)
            (try clear ho0)
            refine hK.out _ _ zS (fun hHeld => ?_)
            clear hK K
            refine nU ?_
            refine pU 7 (some 83) ?_
            refine pU 8 (some 91) ?_
            refine pU 9 (some 92) ?_
            refine pU 10 (some 11) ?_
            refine pU 11 (some 12) ?_
            refine dU ?_
            obtain ⟨Ao57, co57, eo57⟩ := Kd.R_slice HO1627.out
            subst eo57
            obtain ⟨Ao58, co58, eo58⟩ := Kd.R_slice HO_9.out
            subst eo58
            try go_wp2_with (first | (go_at_call 55; (with_reducible refine (barscanlaw05_same.calls kj21 _ _ t1625 _ _ t1610 true _ ?side1 ?side2 ?side3 ?side4 A51.out).mono ?_); (case side1 => exact zN HO1627); (case side2 => exact (Kd.R_reads' HO1627.out).2.1); (case side3 => exact zN HO_9); (case side4 => exact (Kd.R_reads' HO_9.out).2.1); rintro e w' ⟨rfl, ⟨nd, rfl⟩⟩))
            go_meet
            case rel => exact ⟨_, H', ⟨by have := HJ7.out; have := HJ21.out; first | omega | exact Nat.le_refl _⟩, ⟨by (with_reducible repeat (first | apply Kd.R_alloc | apply Kd.R_drewN | apply Kd.R_drew)); exact Kd.R_mono HO_9.out (fun _ hk => trivial)⟩, ⟨zK BK1607⟩, ⟨zB⟩⟩
           ·replace c52 := Bool.eq_false_iff.mpr c52
            subst c52
            rw [if_neg (show ¬ (false = true) by decide)] at H
            obtain rfl := Option.some.inj H
            try go_wp2
            replace HO_9 := Aside0.mk (Kd.R_drew HO_9.out)
            replace BK1607 := Aside0.mk (blk_drew BK1607.out)
            replace HB := Aside0.mk (below_drew1 HB.out)
            refine start_ (n := 12) (S := fun w' => w'.cell? ⟨gb1607, 0, none⟩ = some (.int .i64 a0_0) ∧ w'.cell? ⟨gb1607, 1, none⟩ = some (.int .i64 a0_1) ∧ w'.cell? ⟨gb1607, 2, none⟩ = some (.int .i64 a0_2)) (ds := []) #[false, false, false, false, false, false, false, false, false, false, false, false] (by kernel_rfl) rfl rfl zS (fun hHeld => ?_); refine with_tabW barscanlaw05_PolynomialEuclid.tab9 barscanlaw05_PolynomialEuclid.bits9 (fun HT_ HW_ => ?_)
            generalize wc.drew = w59 at HO_9 BK1607 HB hHeld ⊢
            refine pU 1 (some 85) ?_
            refine pU 3 (some 87) ?_
            refine pU 4 (some 88) ?_
            refine tU 0 (some 84) hHeld ?_
            refine tU 2 (some 86) hHeld ?_
            refine oU 5 (some 89) (fun K hK => ?_)
            refine goes_ Try.func52 (by kernel_rfl) rfl #[.agg #[.int .i64 a0_0, .int .i64 a0_1, .int .i64 a0_2], .slice A1 l1.length c1, .slice A2 l2.length c2] (by rfl) rfl rfl zM ?_
            with_reducible refine (barscanlaw05_rest.calls kj21 a0_0 a0_1 a0_2 _ _ l1 _ _ l2 t1622 _ ?side1 ?side2 ?side3 ?side4 A48.out).mono ?_
            (case side1 => exact zN HR1)
            (case side2 => exact HC1.out)
            (case side3 => exact zN HR2)
            (case side4 => exact HC2.out)
            rintro e w60 ⟨v1623, rfl, ho0, hb⟩
            refine ⟨_, rfl, ?_⟩
            have HO1624 := Aside0.mk (Kd.R_lower (Kd.R_new' ho0 (Kd.R_lt (zO HO_9))) (below_size zB))
            replace HO_9 := Aside0.mk (Kd.R_elder' (zO HO_9) (Kd.R_base ho0) hb)
            replace BK1607 := bB BK1607 hb
            replace HB := bS hb
            (try clear hb)
            (try clear hb2)
            (try clear hk)
            (try clear hi)
            (try clear ho0)
            obtain ⟨Ao61, co61, eo61⟩ := Kd.R_slice HO1624.out
            (first | subst eo61 | (injection eo61 with f1_ f2_ f3_; have f4_ := f1_.symm; have f5_ := f3_.symm; clear f1_ f2_ f3_; subst f4_; subst f5_))
            refine hK.out _ _ zS (fun hHeld => ?_)
            clear hK K
            refine nU ?_
            refine oU 6 (some 90) (fun K hK => ?_)
            refine goes_ Try.func68 (by kernel_rfl) rfl #[.agg #[.int .i64 a0_0, .int .i64 a0_1, .int .i64 a0_2], .slice A2 l2.length c2, .slice Ao61 t1622.length co61] (by rfl) rfl rfl zM ?_
            with_reducible refine (polynomial_GCD.calls kj21 a0_0 a0_1 a0_2 (fun k_ => k_ < w.heap.size) _ _ l2 (fun k_ => some k_ = (.slice Ao61 t1622.length co61 : Value).ownBlock) _ _ t1622 t1625 t1628 _ ?side1 ?side2 A49.out).mono ?_
            (case side1 => exact Kd.V_mk HC2.out (Kd.F_below (Kd.C_F (Kd.heap_int .i64) HR2.out) zB))
            (case side2 => exact Kd.R_V (Kd.R_tight rfl (Kd.R_types (HO1624.out) BK1607.out (by decide))))
            rintro e w62 ⟨v1626, rfl, ho0, hb⟩
            refine ⟨_, rfl, ?_⟩
            have HO1627 := Aside0.mk (Kd.R_lower (Kd.R_new' (Kd.R_new' (Kd.R_mono (ok' := fun k_ => True) ho0 (fun _ hk_ => trivial)) (Kd.R_lt (zO HO_9))) (Kd.R_lt (zO HO1624))) (below_size zB))
            replace HO_9 := Aside0.mk (Kd.R_elder' (zO HO_9) (Kd.R_base ho0) hb)
            replace HO1624 := Aside0.mk (Kd.R_elder' (zO HO1624) (Kd.R_base ho0) hb)
            replace BK1607 := bB BK1607 hb
            replace HB := bS hb
            (try clear hb)
            (try clear hb2)
            (try clear hk)
            (try clear hi)
            (try clear ho0)
            refine hK.out _ _ zS (fun hHeld => ?_)
            clear hK K
            refine nU ?_
            refine pU 7 (some 83) ?_
            refine pU 8 (some 91) ?_
            refine pU 9 (some 92) ?_
            refine pU 10 (some 11) ?_
            refine pU 11 (some 12) ?_
            refine dU ?_
            obtain ⟨Ao63, co63, eo63⟩ := Kd.R_slice HO1627.out
            subst eo63
            obtain ⟨Ao64, co64, eo64⟩ := Kd.R_slice HO_9.out
            subst eo64
            try go_wp2_with (first | (go_at_call 55; (with_reducible refine (barscanlaw05_same.calls kj21 _ _ t1625 _ _ t1610 false _ ?side1 ?side2 ?side3 ?side4 A51.out).mono ?_); (case side1 => exact zN HO1627); (case side2 => exact (Kd.R_reads' HO1627.out).2.1); (case side3 => exact zN HO_9); (case side4 => exact (Kd.R_reads' HO_9.out).2.1); rintro e w' ⟨rfl, ⟨nd, rfl⟩⟩))
            go_ret
            exact ⟨zE, zB⟩
          ·rw [if_neg c50] at H
           have c50b0 := beq_eq_false_iff_ne.mpr c50
           have c50b1 := bne_iff_ne.mpr c50
           obtain rfl := Option.some.inj H
           try go_wp2
           replace HO_9 := Aside0.mk (Kd.R_drew HO_9.out)
           replace BK1607 := Aside0.mk (blk_drew BK1607.out)
           replace HB := Aside0.mk (below_drew1 HB.out)
           refine start_ (n := 12) (S := fun w' => w'.cell? ⟨gb1607, 0, none⟩ = some (.int .i64 a0_0) ∧ w'.cell? ⟨gb1607, 1, none⟩ = some (.int .i64 a0_1) ∧ w'.cell? ⟨gb1607, 2, none⟩ = some (.int .i64 a0_2)) (ds := []) #[false, false, false, false, false, false, false, false, false, false, false, false] (by kernel_rfl) rfl rfl zS (fun hHeld => ?_); refine with_tabW barscanlaw05_PolynomialEuclid.tab9 barscanlaw05_PolynomialEuclid.bits9 (fun HT_ HW_ => ?_)
           generalize wc.drew = w65 at HO_9 BK1607 HB hHeld ⊢
           refine pU 1 (some 85) ?_
           refine pU 3 (some 87) ?_
           refine pU 4 (some 88) ?_
           refine tU 0 (some 84) hHeld ?_
           refine tU 2 (some 86) hHeld ?_
           refine oU 5 (some 89) (fun K hK => ?_)
           refine goes_ Try.func52 (by kernel_rfl) rfl #[.agg #[.int .i64 a0_0, .int .i64 a0_1, .int .i64 a0_2], .slice A1 l1.length c1, .slice A2 l2.length c2] (by rfl) rfl rfl zM ?_
           with_reducible refine (barscanlaw05_rest.calls kj21 a0_0 a0_1 a0_2 _ _ l1 _ _ l2 t1622 _ ?side1 ?side2 ?side3 ?side4 A48.out).mono ?_
           (case side1 => exact zN HR1)
           (case side2 => exact HC1.out)
           (case side3 => exact zN HR2)
           (case side4 => exact HC2.out)
           rintro e w66 ⟨v1623, rfl, ho0, hb⟩
           refine ⟨_, rfl, ?_⟩
           have HO1624 := Aside0.mk (Kd.R_lower (Kd.R_new' ho0 (Kd.R_lt (zO HO_9))) (below_size zB))
           replace HO_9 := Aside0.mk (Kd.R_elder' (zO HO_9) (Kd.R_base ho0) hb)
           replace BK1607 := bB BK1607 hb
           replace HB := bS hb
           (try clear hb)
           (try clear hb2)
           (try clear hk)
           (try clear hi)
           (try clear ho0)
           obtain ⟨Ao67, co67, eo67⟩ := Kd.R_slice HO1624.out
           (first | subst eo67 | (injection eo67 with f1_ f2_ f3_; have f4_ := f1_.symm; have f5_ := f3_.symm; clear f1_ f2_ f3_; subst f4_; subst f5_))
           refine hK.out _ _ zS (fun hHeld => ?_)
           clear hK K
           refine nU ?_
           refine oU 6 (some 90) (fun K hK => ?_)
           refine goes_ Try.func68 (by kernel_rfl) rfl #[.agg #[.int .i64 a0_0, .int .i64 a0_1, .int .i64 a0_2], .slice A2 l2.length c2, .slice Ao67 t1622.length co67] (by rfl) rfl rfl zM ?_
           with_reducible refine (polynomial_GCD.calls kj21 a0_0 a0_1 a0_2 (fun k_ => k_ < w.heap.size) _ _ l2 (fun k_ => some k_ = (.slice Ao67 t1622.length co67 : Value).ownBlock) _ _ t1622 t1625 t1628 _ ?side1 ?side2 A49.out).mono ?_
           (case side1 => exact Kd.V_mk HC2.out (Kd.F_below (Kd.C_F (Kd.heap_int .i64) HR2.out) zB))
           (case side2 => exact Kd.R_V (Kd.R_tight rfl (Kd.R_types (HO1624.out) BK1607.out (by decide))))
           rintro e w68 ⟨v1626, rfl, ho0, hb⟩
           refine ⟨_, rfl, ?_⟩
           have HO1627 := Aside0.mk (Kd.R_lower (Kd.R_new' (Kd.R_new' (Kd.R_mono (ok' := fun k_ => True) ho0 (fun _ hk_ => trivial)) (Kd.R_lt (zO HO_9))) (Kd.R_lt (zO HO1624))) (below_size zB))
           replace HO_9 := Aside0.mk (Kd.R_elder' (zO HO_9) (Kd.R_base ho0) hb)
           replace HO1624 := Aside0.mk (Kd.R_elder' (zO HO1624) (Kd.R_base ho0) hb)
           replace BK1607 := bB BK1607 hb
           replace HB := bS hb
           (try clear hb)
           (try clear hb2)
           (try clear hk)
           (try clear hi)
           (try clear ho0)
           refine hK.out _ _ zS (fun hHeld => ?_)
           clear hK K
           refine nU ?_
           refine pU 7 (some 83) ?_
           refine pU 8 (some 91) ?_
           refine pU 9 (some 92) ?_
           refine pU 10 (some 11) ?_
           refine pU 11 (some 12) ?_
           refine dU ?_
           try go_wp2
           go_ret
           exact ⟨zE, zB⟩
         ·rw [if_neg c47] at H
          have c47b0 : decide (0 < (l2.length : Int)) = false := decide_eq_false c47
          have c47b1 : decide (0 < l2.length) = false := decide_eq_false (by omega)
          clear c47
          (first | rw [c47b0] | (simp only [i64_w, i32_w]; rw [c47b0]) | rw [c47b1] | skip)
          have H' := zA H
          clear H
          go_wp2
          go_meet
          case rel => exact ⟨_, H', ⟨by have := HJ7.out; have := HJ21.out; first | omega | exact Nat.le_refl _⟩, ⟨zO HO_9⟩, ⟨zK BK1607⟩, ⟨zB⟩⟩
        case rest =>
         clear HC46
         try clear c1
         try clear p1
         try clear q1
         try clear hx1
         try clear c2
         try clear p2
         try clear c4
         try clear c5
         try clear c6
         try clear p16
         try clear q16
         try clear hx16
         try clear c45
         try clear c47
         try clear c47b0
         try clear c47b1
         try clear c50
         try clear c50b0
         try clear c50b1
         try clear c52
         try clear c68
         try clear hx1615_0
         try clear p1615
         try clear p2
         try clear q1615
         obtain ⟨kq, HA, HJ45, HO_9, BK1607, HB⟩ := hcut
         cases kq with
         | zero => exact absurd HA.out (by simp [barscanlaw05_PolynomialEuclid.j2])
         | succ kj45 =>
          have H := HA.out
          clear HA
          simp only [barscanlaw05_PolynomialEuclid.j2] at H
          by_cases c69 : (l3.length : Int) = 0
          ·rw [if_pos c69] at H
           have c69b0 := beq_iff_eq.mpr c69
           have c69b1 := bne_eq_false_iff_eq.mpr c69
           clear c69
           obtain ⟨t1630, A70, H⟩ := zD H
           obtain rfl := Option.some.inj H
           go_wp2_with (first | ((with_reducible refine gate_callee (f := 48) rfl ?_); refine gL (some 104) Try.func48 #[] ?_; (with_reducible refine zCall (barscanlaw05_examples.calls kj45  t1630 _ A70.out) ?_); intro w71 hb; replace HO_9 := Aside0.mk (Kd.R_below (zO HO_9) hb); replace BK1607 := bB BK1607 hb; replace HB := bS hb; (try clear hb)))
           go_ret
           exact ⟨zE, zB⟩
          ·rw [if_neg c69] at H
           have c69b0 := beq_eq_false_iff_ne.mpr c69
           have c69b1 := bne_iff_ne.mpr c69
           have c69b2 : ¬ (l3 = []) := fun h_ => c69 (by rw [h_]; rfl)
           obtain ⟨t1631, A72, H⟩ := zD H
           obtain ⟨t1634, A73, H⟩ := zD H
           obtain ⟨⟨t1637, t1640⟩, A74, H⟩ := zD H
           dsimp only at H
           by_cases c75 : t1640 = 0
           ·rw [if_pos c75] at H
            have c75b0 := beq_iff_eq.mpr c75
            have c75b1 := bne_eq_false_iff_eq.mpr c75
            clear c75
            obtain ⟨t1641, A76, H⟩ := zD H
            by_cases c77 : (t1641.length : Int) = 0
            ·rw [if_pos c77] at H
             have c77b0 := beq_iff_eq.mpr c77
             have c77b1 := bne_eq_false_iff_eq.mpr c77
             clear c77
             obtain ⟨t1644, A78, H⟩ := zD H
             by_cases c79 : (t1644.length : Int) = 0
             ·rw [if_pos c79] at H
              have c79b0 := beq_iff_eq.mpr c79
              have c79b1 := bne_eq_false_iff_eq.mpr c79
              clear c79
              by_cases c80 : (t1637.length : Int) = (wrap64 ((wrap64 ((t1610.length : Int) + (l3.length : Int))) - 1))
              ·rw [if_pos c80] at H
               have c80b0 := beq_iff_eq.mpr c80
               have c80b1 := bne_eq_false_iff_eq.mpr c80
               clear c80
               obtain ⟨t1647, A81, H⟩ := zD H
               obtain rfl := Option.some.inj H
               try go_wp2
               replace HO_9 := Aside0.mk (Kd.R_drew HO_9.out)
               replace BK1607 := Aside0.mk (blk_drew BK1607.out)
               replace HB := Aside0.mk (below_drew1 HB.out)
               refine start_ (n := 15) (S := fun w' => w'.cell? ⟨gb1607, 0, none⟩ = some (.int .i64 a0_0) ∧ w'.cell? ⟨gb1607, 1, none⟩ = some (.int .i64 a0_1) ∧ w'.cell? ⟨gb1607, 2, none⟩ = some (.int .i64 a0_2)) (ds := []) #[false, false, false, false, false, false, false, false, false, false, false, false, false, false, false] (by kernel_rfl) rfl rfl zS (fun hHeld => ?_); refine with_tabW barscanlaw05_PolynomialEuclid.tab14 barscanlaw05_PolynomialEuclid.bits14 (fun HT_ HW_ => ?_)
               generalize wc.drew = w82 at HO_9 BK1607 HB hHeld ⊢
               refine pU 2 (some 108) ?_
               refine pU 3 (some 109) ?_
               refine pU 6 (some 112) ?_
               refine pU 7 (some 113) ?_
               refine tU 0 (some 106) hHeld ?_
               refine tU 1 (some 107) hHeld ?_
               refine tU 5 (some 111) hHeld ?_
               refine oU 4 (some 110) (fun K hK => ?_)
               refine goes_ Try.func54 (by kernel_rfl) rfl #[.agg #[.int .i64 a0_0, .int .i64 a0_1, .int .i64 a0_2], .slice A1 l1.length c1, .slice A3 l3.length c3] (by rfl) rfl rfl zM ?_
               with_reducible refine (barscanlaw05_mul.calls kj45 a0_0 a0_1 a0_2 _ _ l1 _ _ l3 t1631 _ ?side1 ?side2 ?side3 ?side4 A72.out).mono ?_
               (case side1 => exact zN HR1)
               (case side2 => exact HC1.out)
               (case side3 => exact zN HR3)
               (case side4 => exact HC3.out)
               rintro e w83 ⟨v1632, rfl, ho0, hb⟩
               refine ⟨_, rfl, ?_⟩
               have HO1633 := Aside0.mk (Kd.R_lower (Kd.R_new' ho0 (Kd.R_lt (zO HO_9))) (below_size zB))
               replace HO_9 := Aside0.mk (Kd.R_elder' (zO HO_9) (Kd.R_base ho0) hb)
               replace BK1607 := bB BK1607 hb
               replace HB := bS hb
               (try clear hb)
               (try clear hb2)
               (try clear hk)
               (try clear hi)
               (try clear ho0)
               refine hK.out _ _ zS (fun hHeld => ?_)
               clear hK K
               refine nU ?_
               refine oU 8 (some 114) (fun K hK => ?_)
               refine goes_ Try.func54 (by kernel_rfl) rfl #[.agg #[.int .i64 a0_0, .int .i64 a0_1, .int .i64 a0_2], .slice A2 l2.length c2, .slice A3 l3.length c3] (by rfl) rfl rfl zM ?_
               with_reducible refine (barscanlaw05_mul.calls kj45 a0_0 a0_1 a0_2 _ _ l2 _ _ l3 t1634 _ ?side1 ?side2 ?side3 ?side4 A73.out).mono ?_
               (case side1 => exact zN HR2)
               (case side2 => exact HC2.out)
               (case side3 => exact zN HR3)
               (case side4 => exact HC3.out)
               rintro e w84 ⟨v1635, rfl, ho0, hb⟩
               refine ⟨_, rfl, ?_⟩
               have HO1636 := Aside0.mk (Kd.R_lower (Kd.R_new' (Kd.R_new' ho0 (Kd.R_lt (zO HO_9))) (Kd.R_lt (zO HO1633))) (below_size zB))
               replace HO_9 := Aside0.mk (Kd.R_elder' (zO HO_9) (Kd.R_base ho0) hb)
               replace HO1633 := Aside0.mk (Kd.R_elder' (zO HO1633) (Kd.R_base ho0) hb)
               replace BK1607 := bB BK1607 hb
               replace HB := bS hb
               (try clear hb)
               (try clear hb2)
               (try clear hk)
               (try clear hi)
               (try clear ho0)
               obtain ⟨Ao85, co85, eo85⟩ := Kd.R_slice HO1633.out
               (first | subst eo85 | (injection eo85 with f1_ f2_ f3_; have f4_ := f1_.symm; have f5_ := f3_.symm; clear f1_ f2_ f3_; subst f4_; subst f5_))
               obtain ⟨Ao86, co86, eo86⟩ := Kd.R_slice HO1636.out
               (first | subst eo86 | (injection eo86 with f1_ f2_ f3_; have f4_ := f1_.symm; have f5_ := f3_.symm; clear f1_ f2_ f3_; subst f4_; subst f5_))
               refine hK.out _ _ zS (fun hHeld => ?_)
               clear hK K
               refine nU ?_
               refine oU 9 (some 115) (fun K hK => ?_)
               refine goes_ Try.func68 (by kernel_rfl) rfl #[.agg #[.int .i64 a0_0, .int .i64 a0_1, .int .i64 a0_2], .slice Ao85 t1631.length co85, .slice Ao86 t1634.length co86] (by rfl) rfl rfl zM ?_
               with_reducible refine (polynomial_GCD.calls kj45 a0_0 a0_1 a0_2 (fun k_ => some k_ = (.slice Ao85 t1631.length co85 : Value).ownBlock) _ _ t1631 (fun k_ => some k_ = (.slice Ao86 t1634.length co86 : Value).ownBlock) _ _ t1634 t1637 t1640 _ ?side1 ?side2 A74.out).mono ?_
               (case side1 => exact Kd.R_V (Kd.R_tight rfl (Kd.R_types (HO1633.out) BK1607.out (by decide))))
               (case side2 => exact Kd.R_V (Kd.R_tight rfl (Kd.R_types (HO1636.out) BK1607.out (by decide))))
               rintro e w87 ⟨v1638, rfl, ho0, hb⟩
               refine ⟨_, rfl, ?_⟩
               have HO1639 := Aside0.mk (Kd.R_lower (Kd.R_new' (Kd.R_new' (Kd.R_new' (Kd.R_mono (ok' := fun k_ => True) ho0 (fun _ hk_ => trivial)) (Kd.R_lt (zO HO_9))) (Kd.R_lt (zO HO1633))) (Kd.R_lt (zO HO1636))) (below_size zB))
               replace HO_9 := Aside0.mk (Kd.R_elder' (zO HO_9) (Kd.R_base ho0) hb)
               replace HO1633 := Aside0.mk (Kd.R_elder' (zO HO1633) (Kd.R_base ho0) hb)
               replace HO1636 := Aside0.mk (Kd.R_elder' (zO HO1636) (Kd.R_base ho0) hb)
               replace BK1607 := bB BK1607 hb
               replace HB := bS hb
               (try clear hb)
               (try clear hb2)
               (try clear hk)
               (try clear hi)
               (try clear ho0)
               refine hK.out _ _ zS (fun hHeld => ?_)
               clear hK K
               refine nU ?_
               refine pU 10 (some 105) ?_
               refine pU 11 (some 116) ?_
               refine pU 12 (some 117) ?_
               refine pU 13 (some 13) ?_
               refine pU 14 (some 14) ?_
               refine dU ?_
               (try clear z1607_0 z1607_1 z1607_2 f1607_0 f1607_1 f1607_2)
               obtain ⟨z1607_0, z1607_1, z1607_2, f1607_0, f1607_1, f1607_2⟩ := cz3 BK1607
               obtain ⟨Ao89, co89, eo89⟩ := Kd.R_slice HO1639.out
               subst eo89
               try go_wp2_with (first | (go_at_call 52; (with_reducible refine (barscanlaw05_rest.calls kj45 a0_0 a0_1 a0_2 _ _ t1637 _ _ l3 t1641 _ ?side1 ?side2 ?side3 ?side4 A76.out).mono ?_); (case side1 => exact zN HO1639); (case side2 => exact (Kd.R_reads' HO1639.out).2.1); (case side3 => exact zN HR3); (case side4 => exact HC3.out); rintro e w90 ⟨v1642, rfl, ho0, hb⟩; have HO1643 := Aside0.mk (Kd.R_lower (Kd.R_new' (Kd.R_new' (Kd.R_new' (Kd.R_new' ho0 (Kd.R_lt (zO HO_9))) (Kd.R_lt (zO HO1633))) (Kd.R_lt (zO HO1636))) (Kd.R_lt (zO HO1639))) (below_size zB)); replace HO_9 := Aside0.mk (Kd.R_elder' (zO HO_9) (Kd.R_base ho0) hb); replace HO1633 := Aside0.mk (Kd.R_elder' (zO HO1633) (Kd.R_base ho0) hb); replace HO1636 := Aside0.mk (Kd.R_elder' (zO HO1636) (Kd.R_base ho0) hb); replace HO1639 := Aside0.mk (Kd.R_elder' (zO HO1639) (Kd.R_base ho0) hb); replace BK1607 := bB BK1607 hb; replace HB := bS hb; (try clear hb); (try clear ho0); obtain ⟨Ao91, co91, eo91⟩ := Kd.R_slice HO1643.out; subst eo91; (try clear z1607_0 z1607_1 z1607_2 f1607_0 f1607_1 f1607_2); obtain ⟨z1607_0, z1607_1, z1607_2, f1607_0, f1607_1, f1607_2⟩ := cz3 BK1607; obtain ⟨Ao93, co93, eo93⟩ := Kd.R_slice HO_9.out; subst eo93) | (go_at_call 52; (with_reducible refine (barscanlaw05_rest.calls kj45 a0_0 a0_1 a0_2 _ _ t1637 _ _ t1610 t1644 _ ?side1 ?side2 ?side3 ?side4 A78.out).mono ?_); (case side1 => exact zN HO1639); (case side2 => exact (Kd.R_reads' HO1639.out).2.1); (case side3 => exact zN HO_9); (case side4 => exact (Kd.R_reads' HO_9.out).2.1); rintro e w94 ⟨v1645, rfl, ho0, hb⟩; have HO1646 := Aside0.mk (Kd.R_lower (Kd.R_new' (Kd.R_new' (Kd.R_new' (Kd.R_new' (Kd.R_new' ho0 (Kd.R_lt (zO HO_9))) (Kd.R_lt (zO HO1633))) (Kd.R_lt (zO HO1636))) (Kd.R_lt (zO HO1639))) (Kd.R_lt (zO HO1643))) (below_size zB)); replace HO_9 := Aside0.mk (Kd.R_elder' (zO HO_9) (Kd.R_base ho0) hb); replace HO1633 := Aside0.mk (Kd.R_elder' (zO HO1633) (Kd.R_base ho0) hb); replace HO1636 := Aside0.mk (Kd.R_elder' (zO HO1636) (Kd.R_base ho0) hb); replace HO1639 := Aside0.mk (Kd.R_elder' (zO HO1639) (Kd.R_base ho0) hb); replace HO1643 := Aside0.mk (Kd.R_elder' (zO HO1643) (Kd.R_base ho0) hb); replace BK1607 := bB BK1607 hb; replace HB := bS hb; (try clear hb); (try clear ho0); obtain ⟨Ao95, co95, eo95⟩ := Kd.R_slice HO1646.out; subst eo95) | (go_at_call 48; (with_reducible refine (barscanlaw05_examples.calls kj45  t1647 _ A81.out).mono ?_); rintro e w96 ⟨rfl, hb⟩; replace HO_9 := Aside0.mk (Kd.R_below (zO HO_9) hb); replace HO1633 := Aside0.mk (Kd.R_below (zO HO1633) hb); replace HO1636 := Aside0.mk (Kd.R_below (zO HO1636) hb); replace HO1639 := Aside0.mk (Kd.R_below (zO HO1639) hb); replace HO1643 := Aside0.mk (Kd.R_below (zO HO1643) hb); replace HO1646 := Aside0.mk (Kd.R_below (zO HO1646) hb); replace BK1607 := bB BK1607 hb; replace HB := bS hb; (try clear hb)))
               go_ret
               exact ⟨zE, zB⟩
              ·rw [if_neg c80] at H
               have c80b0 := beq_eq_false_iff_ne.mpr c80
               have c80b1 := bne_iff_ne.mpr c80
               obtain rfl := Option.some.inj H
               try go_wp2
               replace HO_9 := Aside0.mk (Kd.R_drew HO_9.out)
               replace BK1607 := Aside0.mk (blk_drew BK1607.out)
               replace HB := Aside0.mk (below_drew1 HB.out)
               refine start_ (n := 15) (S := fun w' => w'.cell? ⟨gb1607, 0, none⟩ = some (.int .i64 a0_0) ∧ w'.cell? ⟨gb1607, 1, none⟩ = some (.int .i64 a0_1) ∧ w'.cell? ⟨gb1607, 2, none⟩ = some (.int .i64 a0_2)) (ds := []) #[false, false, false, false, false, false, false, false, false, false, false, false, false, false, false] (by kernel_rfl) rfl rfl zS (fun hHeld => ?_); refine with_tabW barscanlaw05_PolynomialEuclid.tab14 barscanlaw05_PolynomialEuclid.bits14 (fun HT_ HW_ => ?_)
               generalize wc.drew = w97 at HO_9 BK1607 HB hHeld ⊢
               refine pU 2 (some 108) ?_
               refine pU 3 (some 109) ?_
               refine pU 6 (some 112) ?_
               refine pU 7 (some 113) ?_
               refine tU 0 (some 106) hHeld ?_
               refine tU 1 (some 107) hHeld ?_
               refine tU 5 (some 111) hHeld ?_
               refine oU 4 (some 110) (fun K hK => ?_)
               refine goes_ Try.func54 (by kernel_rfl) rfl #[.agg #[.int .i64 a0_0, .int .i64 a0_1, .int .i64 a0_2], .slice A1 l1.length c1, .slice A3 l3.length c3] (by rfl) rfl rfl zM ?_
               with_reducible refine (barscanlaw05_mul.calls kj45 a0_0 a0_1 a0_2 _ _ l1 _ _ l3 t1631 _ ?side1 ?side2 ?side3 ?side4 A72.out).mono ?_
               (case side1 => exact zN HR1)
               (case side2 => exact HC1.out)
               (case side3 => exact zN HR3)
               (case side4 => exact HC3.out)
               rintro e w98 ⟨v1632, rfl, ho0, hb⟩
               refine ⟨_, rfl, ?_⟩
               have HO1633 := Aside0.mk (Kd.R_lower (Kd.R_new' ho0 (Kd.R_lt (zO HO_9))) (below_size zB))
               replace HO_9 := Aside0.mk (Kd.R_elder' (zO HO_9) (Kd.R_base ho0) hb)
               replace BK1607 := bB BK1607 hb
               replace HB := bS hb
               (try clear hb)
               (try clear hb2)
               (try clear hk)
               (try clear hi)
               (try clear ho0)
               refine hK.out _ _ zS (fun hHeld => ?_)
               clear hK K
               refine nU ?_
               refine oU 8 (some 114) (fun K hK => ?_)
               refine goes_ Try.func54 (by kernel_rfl) rfl #[.agg #[.int .i64 a0_0, .int .i64 a0_1, .int .i64 a0_2], .slice A2 l2.length c2, .slice A3 l3.length c3] (by rfl) rfl rfl zM ?_
               with_reducible refine (barscanlaw05_mul.calls kj45 a0_0 a0_1 a0_2 _ _ l2 _ _ l3 t1634 _ ?side1 ?side2 ?side3 ?side4 A73.out).mono ?_
               (case side1 => exact zN HR2)
               (case side2 => exact HC2.out)
               (case side3 => exact zN HR3)
               (case side4 => exact HC3.out)
               rintro e w99 ⟨v1635, rfl, ho0, hb⟩
               refine ⟨_, rfl, ?_⟩
               have HO1636 := Aside0.mk (Kd.R_lower (Kd.R_new' (Kd.R_new' ho0 (Kd.R_lt (zO HO_9))) (Kd.R_lt (zO HO1633))) (below_size zB))
               replace HO_9 := Aside0.mk (Kd.R_elder' (zO HO_9) (Kd.R_base ho0) hb)
               replace HO1633 := Aside0.mk (Kd.R_elder' (zO HO1633) (Kd.R_base ho0) hb)
               replace BK1607 := bB BK1607 hb
               replace HB := bS hb
               (try clear hb)
               (try clear hb2)
               (try clear hk)
               (try clear hi)
               (try clear ho0)
               obtain ⟨Ao100, co100, eo100⟩ := Kd.R_slice HO1633.out
               (first | subst eo100 | (injection eo100 with f1_ f2_ f3_; have f4_ := f1_.symm; have f5_ := f3_.symm; clear f1_ f2_ f3_; subst f4_; subst f5_))
               obtain ⟨Ao101, co101, eo101⟩ := Kd.R_slice HO1636.out
               (first | subst eo101 | (injection eo101 with f1_ f2_ f3_; have f4_ := f1_.symm; have f5_ := f3_.symm; clear f1_ f2_ f3_; subst f4_; subst f5_))
               refine hK.out _ _ zS (fun hHeld => ?_)
               clear hK K
               refine nU ?_
               refine oU 9 (some 115) (fun K hK => ?_)
               refine goes_ Try.func68 (by kernel_rfl) rfl #[.agg #[.int .i64 a0_0, .int .i64 a0_1, .int .i64 a0_2], .slice Ao100 t1631.length co100, .slice Ao101 t1634.length co101] (by rfl) rfl rfl zM ?_
               with_reducible refine (polynomial_GCD.calls kj45 a0_0 a0_1 a0_2 (fun k_ => some k_ = (.slice Ao100 t1631.length co100 : Value).ownBlock) _ _ t1631 (fun k_ => some k_ = (.slice Ao101 t1634.length co101 : Value).ownBlock) _ _ t1634 t1637 t1640 _ ?side1 ?side2 A74.out).mono ?_
               (case side1 => exact Kd.R_V (Kd.R_tight rfl (Kd.R_types (HO1633.out) BK1607.out (by decide))))
               (case side2 => exact Kd.R_V (Kd.R_tight rfl (Kd.R_types (HO1636.out) BK1607.out (by decide))))
               rintro e w102 ⟨v1638, rfl, ho0, hb⟩
               refine ⟨_, rfl, ?_⟩
               have HO1639 := Aside0.mk (Kd.R_lower (Kd.R_new' (Kd.R_new' (Kd.R_new' (Kd.R_mono (ok' := fun k_ => True) ho0 (fun _ hk_ => trivial)) (Kd.R_lt (zO HO_9))) (Kd.R_lt (zO HO1633))) (Kd.R_lt (zO HO1636))) (below_size zB))
               replace HO_9 := Aside0.mk (Kd.R_elder' (zO HO_9) (Kd.R_base ho0) hb)
               replace HO1633 := Aside0.mk (Kd.R_elder' (zO HO1633) (Kd.R_base ho0) hb)
               replace HO1636 := Aside0.mk (Kd.R_elder' (zO HO1636) (Kd.R_base ho0) hb)
               replace BK1607 := bB BK1607 hb
               replace HB := bS hb
               (try clear hb)
               (try clear hb2)
               (try clear hk)
               (try clear hi)
               (try clear ho0)
               refine hK.out _ _ zS (fun hHeld => ?_)
               clear hK K
               refine nU ?_
               refine pU 10 (some 105) ?_
               refine pU 11 (some 116) ?_
               refine pU 12 (some 117) ?_
               refine pU 13 (some 13) ?_
               refine pU 14 (some 14) ?_
               refine dU ?_
               (try clear z1607_0 z1607_1 z1607_2 f1607_0 f1607_1 f1607_2)
               obtain ⟨z1607_0, z1607_1, z1607_2, f1607_0, f1607_1, f1607_2⟩ := cz3 BK1607
               obtain ⟨Ao104, co104, eo104⟩ := Kd.R_slice HO1639.out
               subst eo104
               try go_wp2_with (first | (go_at_call 52; (with_reducible refine (barscanlaw05_rest.calls kj45 a0_0 a0_1 a0_2 _ _ t1637 _ _ l3 t1641 _ ?side1 ?side2 ?side3 ?side4 A76.out).mono ?_); (case side1 => exact zN HO1639); (case side2 => exact (Kd.R_reads' HO1639.out).2.1); (case side3 => exact zN HR3); (case side4 => exact HC3.out); rintro e w105 ⟨v1642, rfl, ho0, hb⟩; have HO1643 := Aside0.mk (Kd.R_lower (Kd.R_new' (Kd.R_new' (Kd.R_new' (Kd.R_new' ho0 (Kd.R_lt (zO HO_9))) (Kd.R_lt (zO HO1633))) (Kd.R_lt (zO HO1636))) (Kd.R_lt (zO HO1639))) (below_size zB)); replace HO_9 := Aside0.mk (Kd.R_elder' (zO HO_9) (Kd.R_base ho0) hb); replace HO1633 := Aside0.mk (Kd.R_elder' (zO HO1633) (Kd.R_base ho0) hb); replace HO1636 := Aside0.mk (Kd.R_elder' (zO HO1636) (Kd.R_base ho0) hb); replace HO1639 := Aside0.mk (Kd.R_elder' (zO HO1639) (Kd.R_base ho0) hb); replace BK1607 := bB BK1607 hb; replace HB := bS hb; (try clear hb); (try clear ho0); obtain ⟨Ao106, co106, eo106⟩ := Kd.R_slice HO1643.out; subst eo106; (try clear z1607_0 z1607_1 z1607_2 f1607_0 f1607_1 f1607_2); obtain ⟨z1607_0, z1607_1, z1607_2, f1607_0, f1607_1, f1607_2⟩ := cz3 BK1607; obtain ⟨Ao108, co108, eo108⟩ := Kd.R_slice HO_9.out; subst eo108) | (go_at_call 52; (with_reducible refine (barscanlaw05_rest.calls kj45 a0_0 a0_1 a0_2 _ _ t1637 _ _ t1610 t1644 _ ?side1 ?side2 ?side3 ?side4 A78.out).mono ?_); (case side1 => exact zN HO1639); (case side2 => exact (Kd.R_reads' HO1639.out).2.1); (case side3 => exact zN HO_9); (case side4 => exact (Kd.R_reads' HO_9.out).2.1); rintro e w109 ⟨v1645, rfl, ho0, hb⟩; have HO1646 := Aside0.mk (Kd.R_lower (Kd.R_new' (Kd.R_new' (Kd.R_new' (Kd.R_new' (Kd.R_new' ho0 (Kd.R_lt (zO HO_9))) (Kd.R_lt (zO HO1633))) (Kd.R_lt (zO HO1636))) (Kd.R_lt (zO HO1639))) (Kd.R_lt (zO HO1643))) (below_size zB)); replace HO_9 := Aside0.mk (Kd.R_elder' (zO HO_9) (Kd.R_base ho0) hb); replace HO1633 := Aside0.mk (Kd.R_elder' (zO HO1633) (Kd.R_base ho0) hb); replace HO1636 := Aside0.mk (Kd.R_elder' (zO HO1636) (Kd.R_base ho0) hb); replace HO1639 := Aside0.mk (Kd.R_elder' (zO HO1639) (Kd.R_base ho0) hb); replace HO1643 := Aside0.mk (Kd.R_elder' (zO HO1643) (Kd.R_base ho0) hb); replace BK1607 := bB BK1607 hb; replace HB := bS hb; (try clear hb); (try clear ho0); obtain ⟨Ao110, co110, eo110⟩ := Kd.R_slice HO1646.out; subst eo110))
               go_ret
               exact ⟨zE, zB⟩
             ·rw [if_neg c79] at H
              have c79b0 := beq_eq_false_iff_ne.mpr c79
              have c79b1 := bne_iff_ne.mpr c79
              have c79b2 : ¬ (t1644 = []) := fun h_ => c79 (by rw [h_]; rfl)
              obtain rfl := Option.some.inj H
              try go_wp2
              replace HO_9 := Aside0.mk (Kd.R_drew HO_9.out)
              replace BK1607 := Aside0.mk (blk_drew BK1607.out)
              replace HB := Aside0.mk (below_drew1 HB.out)
              refine start_ (n := 15) (S := fun w' => w'.cell? ⟨gb1607, 0, none⟩ = some (.int .i64 a0_0) ∧ w'.cell? ⟨gb1607, 1, none⟩ = some (.int .i64 a0_1) ∧ w'.cell? ⟨gb1607, 2, none⟩ = some (.int .i64 a0_2)) (ds := []) #[false, false, false, false, false, false, false, false, false, false, false, false, false, false, false] (by kernel_rfl) rfl rfl zS (fun hHeld => ?_); refine with_tabW barscanlaw05_PolynomialEuclid.tab14 barscanlaw05_PolynomialEuclid.bits14 (fun HT_ HW_ => ?_)
              generalize wc.drew = w111 at HO_9 BK1607 HB hHeld ⊢
              refine pU 2 (some 108) ?_
              refine pU 3 (some 109) ?_
              refine pU 6 (some 112) ?_
              refine pU 7 (some 113) ?_
              refine tU 0 (some 106) hHeld ?_
              refine tU 1 (some 107) hHeld ?_
              refine tU 5 (some 111) hHeld ?_
              refine oU 4 (some 110) (fun K hK => ?_)
              refine goes_ Try.func54 (by kernel_rfl) rfl #[.agg #[.int .i64 a0_0, .int .i64 a0_1, .int .i64 a0_2], .slice A1 l1.length c1, .slice A3 l3.length c3] (by rfl) rfl rfl zM ?_
              with_reducible refine (barscanlaw05_mul.calls kj45 a0_0 a0_1 a0_2 _ _ l1 _ _ l3 t1631 _ ?side1 ?side2 ?side3 ?side4 A72.out).mono ?_
              (case side1 => exact zN HR1)
              (case side2 => exact HC1.out)
              (case side3 => exact zN HR3)
              (case side4 => exact HC3.out)
              rintro e w112 ⟨v1632, rfl, ho0, hb⟩
              refine ⟨_, rfl, ?_⟩
              have HO1633 := Aside0.mk (Kd.R_lower (Kd.R_new' ho0 (Kd.R_lt (zO HO_9))) (below_size zB))
              replace HO_9 := Aside0.mk (Kd.R_elder' (zO HO_9) (Kd.R_base ho0) hb)
              replace BK1607 := bB BK1607 hb
              replace HB := bS hb
              (try clear hb)
              (try clear hb2)
              (try clear hk)
              (try clear hi)
              (try clear ho0)
              refine hK.out _ _ zS (fun hHeld => ?_)
              clear hK K
              refine nU ?_
              refine oU 8 (some 114) (fun K hK => ?_)
              refine goes_ Try.func54 (by kernel_rfl) rfl #[.agg #[.int .i64 a0_0, .int .i64 a0_1, .int .i64 a0_2], .slice A2 l2.length c2, .slice A3 l3.length c3] (by rfl) rfl rfl zM ?_
              with_reducible refine (barscanlaw05_mul.calls kj45 a0_0 a0_1 a0_2 _ _ l2 _ _ l3 t1634 _ ?side1 ?side2 ?side3 ?side4 A73.out).mono ?_
              (case side1 => exact zN HR2)
              (case side2 => exact HC2.out)
              (case side3 => exact zN HR3)
              (case side4 => exact HC3.out)
              rintro e w113 ⟨v1635, rfl, ho0, hb⟩
              refine ⟨_, rfl, ?_⟩
              have HO1636 := Aside0.mk (Kd.R_lower (Kd.R_new' (Kd.R_new' ho0 (Kd.R_lt (zO HO_9))) (Kd.R_lt (zO HO1633))) (below_size zB))
              replace HO_9 := Aside0.mk (Kd.R_elder' (zO HO_9) (Kd.R_base ho0) hb)
              replace HO1633 := Aside0.mk (Kd.R_elder' (zO HO1633) (Kd.R_base ho0) hb)
              replace BK1607 := bB BK1607 hb
              replace HB := bS hb
              (try clear hb)
              (try clear hb2)
              (try clear hk)
              (try clear hi)
              (try clear ho0)
              obtain ⟨Ao114, co114, eo114⟩ := Kd.R_slice HO1633.out
              (first | subst eo114 | (injection eo114 with f1_ f2_ f3_; have f4_ := f1_.symm; have f5_ := f3_.symm; clear f1_ f2_ f3_; subst f4_; subst f5_))
              obtain ⟨Ao115, co115, eo115⟩ := Kd.R_slice HO1636.out
              (first | subst eo115 | (injection eo115 with f1_ f2_ f3_; have f4_ := f1_.symm; have f5_ := f3_.symm; clear f1_ f2_ f3_; subst f4_; subst f5_))
              refine hK.out _ _ zS (fun hHeld => ?_)
              clear hK K
              refine nU ?_
              refine oU 9 (some 115) (fun K hK => ?_)
              refine goes_ Try.func68 (by kernel_rfl) rfl #[.agg #[.int .i64 a0_0, .int .i64 a0_1, .int .i64 a0_2], .slice Ao114 t1631.length co114, .slice Ao115 t1634.length co115] (by rfl) rfl rfl zM ?_
              with_reducible refine (polynomial_GCD.calls kj45 a0_0 a0_1 a0_2 (fun k_ => some k_ = (.slice Ao114 t1631.length co114 : Value).ownBlock) _ _ t1631 (fun k_ => some k_ = (.slice Ao115 t1634.length co115 : Value).ownBlock) _ _ t1634 t1637 t1640 _ ?side1 ?side2 A74.out).mono ?_
              (case side1 => exact Kd.R_V (Kd.R_tight rfl (Kd.R_types (HO1633.out) BK1607.out (by decide))))
              (case side2 => exact Kd.R_V (Kd.R_tight rfl (Kd.R_types (HO1636.out) BK1607.out (by decide))))
              rintro e w116 ⟨v1638, rfl, ho0, hb⟩
              refine ⟨_, rfl, ?_⟩
              have HO1639 := Aside0.mk (Kd.R_lower (Kd.R_new' (Kd.R_new' (Kd.R_new' (Kd.R_mono (ok' := fun k_ => True) ho0 (fun _ hk_ => trivial)) (Kd.R_lt (zO HO_9))) (Kd.R_lt (zO HO1633))) (Kd.R_lt (zO HO1636))) (below_size zB))
              replace HO_9 := Aside0.mk (Kd.R_elder' (zO HO_9) (Kd.R_base ho0) hb)
              replace HO1633 := Aside0.mk (Kd.R_elder' (zO HO1633) (Kd.R_base ho0) hb)
              replace HO1636 := Aside0.mk (Kd.R_elder' (zO HO1636) (Kd.R_base ho0) hb)
              replace BK1607 := bB BK1607 hb
              replace HB := bS hb
              (try clear hb)
              (try clear hb2)
              (try clear hk)
              (try clear hi)
              (try clear ho0)
              refine hK.out _ _ zS (fun hHeld => ?_)
              clear hK K
              refine nU ?_
              refine pU 10 (some 105) ?_
              refine pU 11 (some 116) ?_
              refine pU 12 (some 117) ?_
              refine pU 13 (some 13) ?_
              refine pU 14 (some 14) ?_
              refine dU ?_
              (try clear z1607_0 z1607_1 z1607_2 f1607_0 f1607_1 f1607_2)
              obtain ⟨z1607_0, z1607_1, z1607_2, f1607_0, f1607_1, f1607_2⟩ := cz3 BK1607
              obtain ⟨Ao118, co118, eo118⟩ := Kd.R_slice HO1639.out
              subst eo118
              try go_wp2_with (first | (go_at_call 52; (with_reducible refine (barscanlaw05_rest.calls kj45 a0_0 a0_1 a0_2 _ _ t1637 _ _ l3 t1641 _ ?side1 ?side2 ?side3 ?side4 A76.out).mono ?_); (case side1 => exact zN HO1639); (case side2 => exact (Kd.R_reads' HO1639.out).2.1); (case side3 => exact zN HR3); (case side4 => exact HC3.out); rintro e w119 ⟨v1642, rfl, ho0, hb⟩; have HO1643 := Aside0.mk (Kd.R_lower (Kd.R_new' (Kd.R_new' (Kd.R_new' (Kd.R_new' ho0 (Kd.R_lt (zO HO_9))) (Kd.R_lt (zO HO1633))) (Kd.R_lt (zO HO1636))) (Kd.R_lt (zO HO1639))) (below_size zB)); replace HO_9 := Aside0.mk (Kd.R_elder' (zO HO_9) (Kd.R_base ho0) hb); replace HO1633 := Aside0.mk (Kd.R_elder' (zO HO1633) (Kd.R_base ho0) hb); replace HO1636 := Aside0.mk (Kd.R_elder' (zO HO1636) (Kd.R_base ho0) hb); replace HO1639 := Aside0.mk (Kd.R_elder' (zO HO1639) (Kd.R_base ho0) hb); replace BK1607 := bB BK1607 hb; replace HB := bS hb; (try clear hb); (try clear ho0); obtain ⟨Ao120, co120, eo120⟩ := Kd.R_slice HO1643.out; subst eo120; (try clear z1607_0 z1607_1 z1607_2 f1607_0 f1607_1 f1607_2); obtain ⟨z1607_0, z1607_1, z1607_2, f1607_0, f1607_1, f1607_2⟩ := cz3 BK1607; obtain ⟨Ao122, co122, eo122⟩ := Kd.R_slice HO_9.out; subst eo122) | (go_at_call 52; (with_reducible refine (barscanlaw05_rest.calls kj45 a0_0 a0_1 a0_2 _ _ t1637 _ _ t1610 t1644 _ ?side1 ?side2 ?side3 ?side4 A78.out).mono ?_); (case side1 => exact zN HO1639); (case side2 => exact (Kd.R_reads' HO1639.out).2.1); (case side3 => exact zN HO_9); (case side4 => exact (Kd.R_reads' HO_9.out).2.1); rintro e w123 ⟨v1645, rfl, ho0, hb⟩; have HO1646 := Aside0.mk (Kd.R_lower (Kd.R_new' (Kd.R_new' (Kd.R_new' (Kd.R_new' (Kd.R_new' ho0 (Kd.R_lt (zO HO_9))) (Kd.R_lt (zO HO1633))) (Kd.R_lt (zO HO1636))) (Kd.R_lt (zO HO1639))) (Kd.R_lt (zO HO1643))) (below_size zB)); replace HO_9 := Aside0.mk (Kd.R_elder' (zO HO_9) (Kd.R_base ho0) hb); replace HO1633 := Aside0.mk (Kd.R_elder' (zO HO1633) (Kd.R_base ho0) hb); replace HO1636 := Aside0.mk (Kd.R_elder' (zO HO1636) (Kd.R_base ho0) hb); replace HO1639 := Aside0.mk (Kd.R_elder' (zO HO1639) (Kd.R_base ho0) hb); replace HO1643 := Aside0.mk (Kd.R_elder' (zO HO1643) (Kd.R_base ho0) hb); replace BK1607 := bB BK1607 hb; replace HB := bS hb; (try clear hb); (try clear ho0); obtain ⟨Ao124, co124, eo124⟩ := Kd.R_slice HO1646.out; subst eo124))
              go_ret
              exact ⟨zE, zB⟩
            ·rw [if_neg c77] at H
             have c77b0 := beq_eq_false_iff_ne.mpr c77
             have c77b1 := bne_iff_ne.mpr c77
             have c77b2 : ¬ (t1641 = []) := fun h_ => c77 (by rw [h_]; rfl)
             obtain rfl := Option.some.inj H
             try go_wp2
             replace HO_9 := Aside0.mk (Kd.R_drew HO_9.out)
             replace BK1607 := Aside0.mk (blk_drew BK1607.out)
             replace HB := Aside0.mk (below_drew1 HB.out)
             refine start_ (n := 15) (S := fun w' => w'.cell? ⟨gb1607, 0, none⟩ = some (.int .i64 a0_0) ∧ w'.cell? ⟨gb1607, 1, none⟩ = some (.int .i64 a0_1) ∧ w'.cell? ⟨gb1607, 2, none⟩ = some (.int .i64 a0_2)) (ds := []) #[false, false, false, false, false, false, false, false, false, false, false, false, false, false, false] (by kernel_rfl) rfl rfl zS (fun hHeld => ?_); refine with_tabW barscanlaw05_PolynomialEuclid.tab14 barscanlaw05_PolynomialEuclid.bits14 (fun HT_ HW_ => ?_)
             generalize wc.drew = w125 at HO_9 BK1607 HB hHeld ⊢
             refine pU 2 (some 108) ?_
             refine pU 3 (some 109) ?_
             refine pU 6 (some 112) ?_
             refine pU 7 (some 113) ?_
             refine tU 0 (some 106) hHeld ?_
             refine tU 1 (some 107) hHeld ?_
             refine tU 5 (some 111) hHeld ?_
             refine oU 4 (some 110) (fun K hK => ?_)
             refine goes_ Try.func54 (by kernel_rfl) rfl #[.agg #[.int .i64 a0_0, .int .i64 a0_1, .int .i64 a0_2], .slice A1 l1.length c1, .slice A3 l3.length c3] (by rfl) rfl rfl zM ?_
             with_reducible refine (barscanlaw05_mul.calls kj45 a0_0 a0_1 a0_2 _ _ l1 _ _ l3 t1631 _ ?side1 ?side2 ?side3 ?side4 A72.out).mono ?_
             (case side1 => exact zN HR1)
             (case side2 => exact HC1.out)
             (case side3 => exact zN HR3)
             (case side4 => exact HC3.out)
             rintro e w126 ⟨v1632, rfl, ho0, hb⟩
             refine ⟨_, rfl, ?_⟩
             have HO1633 := Aside0.mk (Kd.R_lower (Kd.R_new' ho0 (Kd.R_lt (zO HO_9))) (below_size zB))
             replace HO_9 := Aside0.mk (Kd.R_elder' (zO HO_9) (Kd.R_base ho0) hb)
             replace BK1607 := bB BK1607 hb
             replace HB := bS hb
             (try clear hb)
             (try clear hb2)
             (try clear hk)
             (try clear hi)
             (try clear ho0)
             refine hK.out _ _ zS (fun hHeld => ?_)
             clear hK K
             refine nU ?_
             refine oU 8 (some 114) (fun K hK => ?_)
             refine goes_ Try.func54 (by kernel_rfl) rfl #[.agg #[.int .i64 a0_0, .int .i64 a0_1, .int .i64 a0_2], .slice A2 l2.length c2, .slice A3 l3.length c3] (by rfl) rfl rfl zM ?_
             with_reducible refine (barscanlaw05_mul.calls kj45 a0_0 a0_1 a0_2 _ _ l2 _ _ l3 t1634 _ ?side1 ?side2 ?side3 ?side4 A73.out).mono ?_
             (case side1 => exact zN HR2)
             (case side2 => exact HC2.out)
             (case side3 => exact zN HR3)
             (case side4 => exact HC3.out)
             rintro e w127 ⟨v1635, rfl, ho0, hb⟩
             refine ⟨_, rfl, ?_⟩
             have HO1636 := Aside0.mk (Kd.R_lower (Kd.R_new' (Kd.R_new' ho0 (Kd.R_lt (zO HO_9))) (Kd.R_lt (zO HO1633))) (below_size zB))
             replace HO_9 := Aside0.mk (Kd.R_elder' (zO HO_9) (Kd.R_base ho0) hb)
             replace HO1633 := Aside0.mk (Kd.R_elder' (zO HO1633) (Kd.R_base ho0) hb)
             replace BK1607 := bB BK1607 hb
             replace HB := bS hb
             (try clear hb)
             (try clear hb2)
             (try clear hk)
             (try clear hi)
             (try clear ho0)
             obtain ⟨Ao128, co128, eo128⟩ := Kd.R_slice HO1633.out
             (first | subst eo128 | (injection eo128 with f1_ f2_ f3_; have f4_ := f1_.symm; have f5_ := f3_.symm; clear f1_ f2_ f3_; subst f4_; subst f5_))
             obtain ⟨Ao129, co129, eo129⟩ := Kd.R_slice HO1636.out
             (first | subst eo129 | (injection eo129 with f1_ f2_ f3_; have f4_ := f1_.symm; have f5_ := f3_.symm; clear f1_ f2_ f3_; subst f4_; subst f5_))
             refine hK.out _ _ zS (fun hHeld => ?_)
             clear hK K
             refine nU ?_
             refine oU 9 (some 115) (fun K hK => ?_)
             refine goes_ Try.func68 (by kernel_rfl) rfl #[.agg #[.int .i64 a0_0, .int .i64 a0_1, .int .i64 a0_2], .slice Ao128 t1631.length co128, .slice Ao129 t1634.length co129] (by rfl) rfl rfl zM ?_
             with_reducible refine (polynomial_GCD.calls kj45 a0_0 a0_1 a0_2 (fun k_ => some k_ = (.slice Ao128 t1631.length co128 : Value).ownBlock) _ _ t1631 (fun k_ => some k_ = (.slice Ao129 t1634.length co129 : Value).ownBlock) _ _ t1634 t1637 t1640 _ ?side1 ?side2 A74.out).mono ?_
             (case side1 => exact Kd.R_V (Kd.R_tight rfl (Kd.R_types (HO1633.out) BK1607.out (by decide))))
             (case side2 => exact Kd.R_V (Kd.R_tight rfl (Kd.R_types (HO1636.out) BK1607.out (by decide))))
             rintro e w130 ⟨v1638, rfl, ho0, hb⟩
             refine ⟨_, rfl, ?_⟩
             have HO1639 := Aside0.mk (Kd.R_lower (Kd.R_new' (Kd.R_new' (Kd.R_new' (Kd.R_mono (ok' := fun k_ => True) ho0 (fun _ hk_ => trivial)) (Kd.R_lt (zO HO_9))) (Kd.R_lt (zO HO1633))) (Kd.R_lt (zO HO1636))) (below_size zB))
             replace HO_9 := Aside0.mk (Kd.R_elder' (zO HO_9) (Kd.R_base ho0) hb)
             replace HO1633 := Aside0.mk (Kd.R_elder' (zO HO1633) (Kd.R_base ho0) hb)
             replace HO1636 := Aside0.mk (Kd.R_elder' (zO HO1636) (Kd.R_base ho0) hb)
             replace BK1607 := bB BK1607 hb
             replace HB := bS hb
             (try clear hb)
             (try clear hb2)
             (try clear hk)
             (try clear hi)
             (try clear ho0)
             refine hK.out _ _ zS (fun hHeld => ?_)
             clear hK K
             refine nU ?_
             refine pU 10 (some 105) ?_
             refine pU 11 (some 116) ?_
             refine pU 12 (some 117) ?_
             refine pU 13 (some 13) ?_
             refine pU 14 (some 14) ?_
             refine dU ?_
             (try clear z1607_0 z1607_1 z1607_2 f1607_0 f1607_1 f1607_2)
             obtain ⟨z1607_0, z1607_1, z1607_2, f1607_0, f1607_1, f1607_2⟩ := cz3 BK1607
             obtain ⟨Ao132, co132, eo132⟩ := Kd.R_slice HO1639.out
             subst eo132
             try go_wp2_with (first | (go_at_call 52; (with_reducible refine (barscanlaw05_rest.calls kj45 a0_0 a0_1 a0_2 _ _ t1637 _ _ l3 t1641 _ ?side1 ?side2 ?side3 ?side4 A76.out).mono ?_); (case side1 => exact zN HO1639); (case side2 => exact (Kd.R_reads' HO1639.out).2.1); (case side3 => exact zN HR3); (case side4 => exact HC3.out); rintro e w133 ⟨v1642, rfl, ho0, hb⟩; have HO1643 := Aside0.mk (Kd.R_lower (Kd.R_new' (Kd.R_new' (Kd.R_new' (Kd.R_new' ho0 (Kd.R_lt (zO HO_9))) (Kd.R_lt (zO HO1633))) (Kd.R_lt (zO HO1636))) (Kd.R_lt (zO HO1639))) (below_size zB)); replace HO_9 := Aside0.mk (Kd.R_elder' (zO HO_9) (Kd.R_base ho0) hb); replace HO1633 := Aside0.mk (Kd.R_elder' (zO HO1633) (Kd.R_base ho0) hb); replace HO1636 := Aside0.mk (Kd.R_elder' (zO HO1636) (Kd.R_base ho0) hb); replace HO1639 := Aside0.mk (Kd.R_elder' (zO HO1639) (Kd.R_base ho0) hb); replace BK1607 := bB BK1607 hb; replace HB := bS hb; (try clear hb); (try clear ho0); obtain ⟨Ao134, co134, eo134⟩ := Kd.R_slice HO1643.out; subst eo134))
             go_ret
             exact ⟨zE, zB⟩
           ·rw [if_neg c75] at H
            have c75b0 := beq_eq_false_iff_ne.mpr c75
            have c75b1 := bne_iff_ne.mpr c75
            obtain rfl := Option.some.inj H
            try go_wp2
            replace HO_9 := Aside0.mk (Kd.R_drew HO_9.out)
            replace BK1607 := Aside0.mk (blk_drew BK1607.out)
            replace HB := Aside0.mk (below_drew1 HB.out)
            refine start_ (n := 15) (S := fun w' => w'.cell? ⟨gb1607, 0, none⟩ = some (.int .i64 a0_0) ∧ w'.cell? ⟨gb1607, 1, none⟩ = some (.int .i64 a0_1) ∧ w'.cell? ⟨gb1607, 2, none⟩ = some (.int .i64 a0_2)) (ds := []) #[false, false, false, false, false, false, false, false, false, false, false, false, false, false, false] (by kernel_rfl) rfl rfl zS (fun hHeld => ?_); refine with_tabW barscanlaw05_PolynomialEuclid.tab14 barscanlaw05_PolynomialEuclid.bits14 (fun HT_ HW_ => ?_)
            generalize wc.drew = w135 at HO_9 BK1607 HB hHeld ⊢
            refine pU 2 (some 108) ?_
            refine pU 3 (some 109) ?_
            refine pU 6 (some 112) ?_
            refine pU 7 (some 113) ?_
            refine tU 0 (some 106) hHeld ?_
            refine tU 1 (some 107) hHeld ?_
            refine tU 5 (some 111) hHeld ?_
            refine oU 4 (some 110) (fun K hK => ?_)
            refine goes_ Try.func54 (by kernel_rfl) rfl #[.agg #[.int .i64 a0_0, .int .i64 a0_1, .int .i64 a0_2], .slice A1 l1.length c1, .slice A3 l3.length c3] (by rfl) rfl rfl zM ?_
            with_reducible refine (barscanlaw05_mul.calls kj45 a0_0 a0_1 a0_2 _ _ l1 _ _ l3 t1631 _ ?side1 ?side2 ?side3 ?side4 A72.out).mono ?_
            (case side1 => exact zN HR1)
            (case side2 => exact HC1.out)
            (case side3 => exact zN HR3)
            (case side4 => exact HC3.out)
            rintro e w136 ⟨v1632, rfl, ho0, hb⟩
            refine ⟨_, rfl, ?_⟩
            have HO1633 := Aside0.mk (Kd.R_lower (Kd.R_new' ho0 (Kd.R_lt (zO HO_9))) (below_size zB))
            replace HO_9 := Aside0.mk (Kd.R_elder' (zO HO_9) (Kd.R_base ho0) hb)
            replace BK1607 := bB BK1607 hb
            replace HB := bS hb
            (try clear hb)
            (try clear hb2)
            (try clear hk)
            (try clear hi)
            (try clear ho0)
            refine hK.out _ _ zS (fun hHeld => ?_)
            clear hK K
            refine nU ?_
            refine oU 8 (some 114) (fun K hK => ?_)
            refine goes_ Try.func54 (by kernel_rfl) rfl #[.agg #[.int .i64 a0_0, .int .i64 a0_1, .int .i64 a0_2], .slice A2 l2.length c2, .slice A3 l3.length c3] (by rfl) rfl rfl zM ?_
            with_reducible refine (barscanlaw05_mul.calls kj45 a0_0 a0_1 a0_2 _ _ l2 _ _ l3 t1634 _ ?side1 ?side2 ?side3 ?side4 A73.out).mono ?_
            (case side1 => exact zN HR2)
            (case side2 => exact HC2.out)
            (case side3 => exact zN HR3)
            (case side4 => exact HC3.out)
            rintro e w137 ⟨v1635, rfl, ho0, hb⟩
            refine ⟨_, rfl, ?_⟩
            have HO1636 := Aside0.mk (Kd.R_lower (Kd.R_new' (Kd.R_new' ho0 (Kd.R_lt (zO HO_9))) (Kd.R_lt (zO HO1633))) (below_size zB))
            replace HO_9 := Aside0.mk (Kd.R_elder' (zO HO_9) (Kd.R_base ho0) hb)
            replace HO1633 := Aside0.mk (Kd.R_elder' (zO HO1633) (Kd.R_base ho0) hb)
            replace BK1607 := bB BK1607 hb
            replace HB := bS hb
            (try clear hb)
            (try clear hb2)
            (try clear hk)
            (try clear hi)
            (try clear ho0)
            obtain ⟨Ao138, co138, eo138⟩ := Kd.R_slice HO1633.out
            (first | subst eo138 | (injection eo138 with f1_ f2_ f3_; have f4_ := f1_.symm; have f5_ := f3_.symm; clear f1_ f2_ f3_; subst f4_; subst f5_))
            obtain ⟨Ao139, co139, eo139⟩ := Kd.R_slice HO1636.out
            (first | subst eo139 | (injection eo139 with f1_ f2_ f3_; have f4_ := f1_.symm; have f5_ := f3_.symm; clear f1_ f2_ f3_; subst f4_; subst f5_))
            refine hK.out _ _ zS (fun hHeld => ?_)
            clear hK K
            refine nU ?_
            refine oU 9 (some 115) (fun K hK => ?_)
            refine goes_ Try.func68 (by kernel_rfl) rfl #[.agg #[.int .i64 a0_0, .int .i64 a0_1, .int .i64 a0_2], .slice Ao138 t1631.length co138, .slice Ao139 t1634.length co139] (by rfl) rfl rfl zM ?_
            with_reducible refine (polynomial_GCD.calls kj45 a0_0 a0_1 a0_2 (fun k_ => some k_ = (.slice Ao138 t1631.length co138 : Value).ownBlock) _ _ t1631 (fun k_ => some k_ = (.slice Ao139 t1634.length co139 : Value).ownBlock) _ _ t1634 t1637 t1640 _ ?side1 ?side2 A74.out).mono ?_
            (case side1 => exact Kd.R_V (Kd.R_tight rfl (Kd.R_types (HO1633.out) BK1607.out (by decide))))
            (case side2 => exact Kd.R_V (Kd.R_tight rfl (Kd.R_types (HO1636.out) BK1607.out (by decide))))
            rintro e w140 ⟨v1638, rfl, ho0, hb⟩
            refine ⟨_, rfl, ?_⟩
            have HO1639 := Aside0.mk (Kd.R_lower (Kd.R_new' (Kd.R_new' (Kd.R_new' (Kd.R_mono (ok' := fun k_ => True) ho0 (fun _ hk_ => trivial)) (Kd.R_lt (zO HO_9))) (Kd.R_lt (zO HO1633))) (Kd.R_lt (zO HO1636))) (below_size zB))
            replace HO_9 := Aside0.mk (Kd.R_elder' (zO HO_9) (Kd.R_base ho0) hb)
            replace HO1633 := Aside0.mk (Kd.R_elder' (zO HO1633) (Kd.R_base ho0) hb)
            replace HO1636 := Aside0.mk (Kd.R_elder' (zO HO1636) (Kd.R_base ho0) hb)
            replace BK1607 := bB BK1607 hb
            replace HB := bS hb
            (try clear hb)
            (try clear hb2)
            (try clear hk)
            (try clear hi)
            (try clear ho0)
            refine hK.out _ _ zS (fun hHeld => ?_)
            clear hK K
            refine nU ?_
            refine pU 10 (some 105) ?_
            refine pU 11 (some 116) ?_
            refine pU 12 (some 117) ?_
            refine pU 13 (some 13) ?_
            refine pU 14 (some 14) ?_
            refine dU ?_
            try go_wp2
            go_ret
            exact ⟨zE, zB⟩
 ·replace c6 := Bool.eq_false_iff.mpr c6
  subst c6
  rw [if_neg (show ¬ (false = true) by decide)] at H
  obtain ⟨t1609, A141, H⟩ := zD H
  obtain rfl := Option.some.inj H
  go_enter Try.func16, Try.ntmps16
  go_wp2_with (first | ((with_reducible refine gate_dst (N := 4) rfl ?_); (try (refine gate_guard (by rfl) ?_; dsimp only)); refine zBox 4 #[.int .i64 a0_0, .int .i64 a0_1, .int .i64 a0_2] 23 ?_; clear HB; intro gb1607 w142 BK1607 GE1607 HB; (try clear z1607_0 z1607_1 z1607_2 f1607_0 f1607_1 f1607_2); obtain ⟨z1607_0, z1607_1, z1607_2, f1607_0, f1607_1, f1607_2⟩ := cz3 BK1607) | (go_at_call 47; (with_reducible refine (valid3.calls k a0_0 a0_1 a0_2 40 _ _ l1 _ _ l2 _ _ l3 false _ ?side1 ?side2 ?side3 ?side4 ?side5 ?side6 A5.out).mono ?_); (case side1 => exact zN HR1); (case side2 => exact HC1.out); (case side3 => exact zN HR2); (case side4 => exact HC2.out); (case side5 => exact zN HR3); (case side6 => exact HC3.out); rintro e w144 ⟨rfl, hb⟩; replace BK1607 := bB BK1607 hb; replace HB := bS hb; (try clear hb)) | ((with_reducible refine gate_callee (f := 48) rfl ?_); refine gL (some 22) Try.func48 #[] ?_; (with_reducible refine zCall (barscanlaw05_examples.calls k  t1609 _ A141.out) ?_); intro w145 hb; replace BK1607 := bB BK1607 hb; replace HB := bS hb; (try clear hb)))
  go_ret
  exact ⟨zE, zB⟩
end Go.Proofs.Ytlhaclammaaabaa.Pg
