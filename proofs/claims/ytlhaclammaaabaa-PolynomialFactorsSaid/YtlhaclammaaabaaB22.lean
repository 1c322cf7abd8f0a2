-- Written by a program of this session over the print of the kit.
import Derived.Test.YtlhaclammaaabaaY
import Derived.Test.YtlhaclammaaabaaB3
import Derived.Test.YtlhaclammaaabaaB5
import Derived.Test.YtlhaclammaaabaaB18
import Derived.Test.YtlhaclammaaabaaB19
import Derived.Test.YtlhaclammaaabaaB21
import Derived.Test.YtlhaclammaaabaaHValid
namespace Go.Proofs.Ytlhaclammaaabaa.Pg
open Go.RowKit Go.Proofs.YtlhaclammaaabaaW.PrintWords Go.Proofs.YtlhaclammaaabaaW.PrintLast Go.Proofs.YtlhaclammaaabaaW.PrintMore
attribute [local go_sem] max2_int min2_int max_two min_two max_three min_three max_four min_four
set_option linter.unusedVariables false
set_option maxHeartbeats 8000000
set_option maxRecDepth 100000
set_option linter.unusedSimpArgs false
/-! ### barscanlaw05_PolynomialFactors: function 7 -/
mutual
def barscanlaw05_PolynomialFactors.l0 : Nat → List Int → List Int → List Int → Int → Int → Int → Int → Int → Option (Bool)
 | 0, _, _, _, _, _, _, _, _ => none
 | k + 1, x1, x2, x7, x62, x63, x1115000, x1115001, x1115002 => if x63 < x62 then ((polynomial_FromRoots.f k x1115000 x1115001 x1115002 (([x63] : List Int))).bind fun bt1126 => (if bt1126.2 = 0 then (if (bt1126.1.length : Int) = 2 then ((barscanlaw05_has.f k x7 x63).bind fun t1130 => ((barscanlaw05_rest.f k x1115000 x1115001 x1115002 x1 bt1126.1).bind fun t1131 => (if (t1130 != ((t1131.length : Int) == 0)) = true then (none) else (barscanlaw05_PolynomialFactors.l0 k x1 x2 x7 x62 (wrap64 (x63 + 1)) x1115000 x1115001 x1115002)))) else (none)) else (none))) else ((polynomial_FromRoots.f k x1115000 x1115001 x1115002 x2).bind fun bt1134 => (if bt1134.2 = 0 then ((polynomial_Roots.f k x1115000 x1115001 x1115002 bt1134.1).bind fun bt1138 => (if bt1138.2 = 0 then (if (bt1134.1.length : Int) = (wrap64 ((x2.length : Int) + 1)) then (if 0 ≤ (x2.length : Int) then (if (x2.length : Int) < (bt1134.1.length : Int) then (if (rd bt1134.1 (x2.length : Int)) = 1 then (barscanlaw05_PolynomialFactors.l1 k x2 bt1138.1 x1115001 0) else (none)) else (none)) else (none)) else (none)) else (none))) else (if bt1134.2 = 1 then ((barscanlaw05_examples.f k).bind fun t1146 => (some t1146)) else (none))))
def barscanlaw05_PolynomialFactors.l1 : Nat → List Int → List Int → Int → Int → Option (Bool)
 | 0, _, _, _, _ => none
 | k + 1, x2, x14, x131, x132 => if x132 < x131 then ((barscanlaw05_has.f k x14 x132).bind fun t1143 => ((barscanlaw05_has.f k x2 x132).bind fun t1144 => (if (t1143 != t1144) = true then (none) else (barscanlaw05_PolynomialFactors.l1 k x2 x14 x131 (wrap64 (x132 + 1)))))) else ((barscanlaw05_examples.f k).bind fun t1145 => (some t1145))
end
def barscanlaw05_PolynomialFactors.f (k : Nat) (a0_0 : Int) (a0_1 : Int) (a0_2 : Int) (l1 : List Int) (l2 : List Int) : Option (Bool) := (valid1.f k a0_0 a0_1 a0_2 20 l1).bind fun t1115 => (if t1115 = true then (if a0_1 > 256 then ((barscanlaw05_examples.f k).bind fun t1116 => (some t1116)) else (if (l2.length : Int) > 20 then ((barscanlaw05_examples.f k).bind fun t1117 => (some t1117)) else ((polynomial_Roots.f k a0_0 a0_1 a0_2 l1).bind fun bt1118 => (if (l1.length : Int) = 0 then (if bt1118.2 = 12 then (if (bt1118.1.length : Int) = 0 then ((barscanlaw05_examples.f k).bind fun t1122 => (some t1122)) else (none)) else (none)) else (if bt1118.2 = 0 then (if (bt1118.1.length : Int) ≥ (l1.length : Int) then (none) else (barscanlaw05_PolynomialFactors.l0 k l1 l2 bt1118.1 a0_1 0 a0_0 a0_1 a0_2)) else (none)))))) else ((barscanlaw05_examples.f k).bind fun t1147 => (some t1147)))
theorem barscanlaw05_PolynomialFactors.mono_l : ∀ k, (∀ y0 y1 y2 y3 y4 y5 y6 y7, LeO (barscanlaw05_PolynomialFactors.l0 k y0 y1 y2 y3 y4 y5 y6 y7) (barscanlaw05_PolynomialFactors.l0 (k + 1) y0 y1 y2 y3 y4 y5 y6 y7)) ∧ (∀ y0 y1 y2 y3, LeO (barscanlaw05_PolynomialFactors.l1 k y0 y1 y2 y3) (barscanlaw05_PolynomialFactors.l1 (k + 1) y0 y1 y2 y3))
 | 0 => ⟨fun _ _ _ _ _ _ _ _ r h => by simp [barscanlaw05_PolynomialFactors.l0] at h, fun _ _ _ _ r h => by simp [barscanlaw05_PolynomialFactors.l1] at h⟩
 | k + 1 => by
  obtain ⟨ih0, ih1⟩ := barscanlaw05_PolynomialFactors.mono_l k
  refine ⟨?_, ?_⟩
  ·intro y0 y1 y2 y3 y4 y5 y6 y7
   unfold barscanlaw05_PolynomialFactors.l0
   have m0_ := @barscanlaw05_examples.mono
   have m1_ := @barscanlaw05_has.mono
   have m2_ := @barscanlaw05_rest.mono
   have m3_ := @polynomial_FromRoots.mono
   have m4_ := @polynomial_Roots.mono
   have m5_ := @valid1.mono
   exact zMo
  ·intro y0 y1 y2 y3
   unfold barscanlaw05_PolynomialFactors.l1
   have m0_ := @barscanlaw05_examples.mono
   have m1_ := @barscanlaw05_has.mono
   have m2_ := @barscanlaw05_rest.mono
   have m3_ := @polynomial_FromRoots.mono
   have m4_ := @polynomial_Roots.mono
   have m5_ := @valid1.mono
   exact zMo
theorem barscanlaw05_PolynomialFactors.mono : ∀ a0 a1 a2 a3 a4 k, LeO (barscanlaw05_PolynomialFactors.f k a0 a1 a2 a3 a4) (barscanlaw05_PolynomialFactors.f (k + 1) a0 a1 a2 a3 a4) := by
 intro a0 a1 a2 a3 a4 k
 obtain ⟨ih0, ih1⟩ := barscanlaw05_PolynomialFactors.mono_l k
 unfold barscanlaw05_PolynomialFactors.f
 have m0_ := @barscanlaw05_examples.mono
 have m1_ := @barscanlaw05_has.mono
 have m2_ := @barscanlaw05_rest.mono
 have m3_ := @polynomial_FromRoots.mono
 have m4_ := @polynomial_Roots.mono
 have m5_ := @valid1.mono
 exact zMo
def barscanlaw05_PolynomialFactors.T12 : Bool × List (List Nat × List Nat) := (true, [([], []), ([0], [0]), ([1], [1]), ([2], [2]), ([3, 2], [2, 3]), ([4, 2], [2, 4]), ([2, 5], [2, 5]), ([6, 2], [6]), ([7], [7]), ([7], [7]), ([8, 9, 7, 7], [7, 8, 9]), ([7], [7]), ([7], [7]), ([7], [7]), ([11, 12, 13, 10, 7], [7, 11, 12, 13]), ([14, 7], [7, 14]), ([15, 7], [7, 15]), ([10, 16, 7], [7, 10, 16]), ([7, 17], [7, 17])])
def barscanlaw05_PolynomialFactors.B12 : List Nat := [0, 1, 3, 7, 15, 31, 63, 127, 255, 255, 1023, 255, 255, 255, 16383, 32767, 65535, 131071, 262143]
theorem barscanlaw05_PolynomialFactors.tab12 : rtab .any (opsOf Try.f7 12) = barscanlaw05_PolynomialFactors.T12 := by kernel_rfl
theorem barscanlaw05_PolynomialFactors.bits12 : waitsOk barscanlaw05_PolynomialFactors.T12.2 barscanlaw05_PolynomialFactors.B12 = true := by kernel_rfl
theorem barscanlaw05_PolynomialFactors.calls (k : Nat) (a0_0 : Int) (a0_1 : Int) (a0_2 : Int) (A1 : Option Addr) (c1 : Nat) (l1 : List Int) (A2 : Option Addr) (c2 : Nat) (l2 : List Int) (r : Bool) (w : World) (hr1 : Kd.C (Kd.int .i64) w A1 l1.length l1) (hc1 : l1.length ≤ c1) (hr2 : Kd.C (Kd.int .i64) w A2 l2.length l2) (hc2 : l2.length ≤ c2) (h : barscanlaw05_PolynomialFactors.f k a0_0 a0_1 a0_2 l1 l2 = some r) :
  Calls Try.prog 7 #[.agg #[.int .i64 a0_0, .int .i64 a0_1, .int .i64 a0_2], .slice A1 l1.length c1, .slice A2 l2.length c2] w fun e w' => e = .returned (.bool r) ∧ Below w.heap.size w w' := by
 have hu23 := Try.underlying23
 have HR1 := Aside0.mk hr1
 have HC1 := Aside0.mk hc1
 clear hr1 hc1
 have HR2 := Aside0.mk hr2
 have HC2 := Aside0.mk hc2
 clear hr2 hc2
 have HB := Aside0.mk (Below.refl w.heap.size w)
 have H := h
 unfold barscanlaw05_PolynomialFactors.f at H
 clear h
 obtain ⟨t1115, A4, H⟩ := zD H
 by_cases c5 : t1115 = true
 ·subst c5
  rw [if_pos rfl] at H
  by_cases c6 : a0_1 > 256
  ·rw [if_pos c6] at H
   have c6b0 : decide (256 < a0_1) = true := decide_eq_true c6
   clear c6
   obtain ⟨t1116, A7, H⟩ := zD H
   obtain rfl := Option.some.inj H
   go_enter Try.func7, Try.ntmps7
   go_wp2_with (first | ((with_reducible refine gate_dst (N := 3) rfl ?_); (try (refine gate_guard (by rfl) ?_; dsimp only)); refine zBox 3 #[.int .i64 a0_0, .int .i64 a0_1, .int .i64 a0_2] 23 ?_; clear HB; intro gb1114 w8 BK1114 GE1114 HB; (try clear z1114_0 z1114_1 z1114_2 f1114_0 f1114_1 f1114_2); obtain ⟨z1114_0, z1114_1, z1114_2, f1114_0, f1114_1, f1114_2⟩ := cz3 BK1114) | (go_at_call 47; (with_reducible refine (valid1.calls k a0_0 a0_1 a0_2 20 _ _ l1 true _ ?side1 ?side2 A4.out).mono ?_); (case side1 => exact zN HR1); (case side2 => exact HC1.out); rintro e w10 ⟨rfl, hb⟩; replace BK1114 := bB BK1114 hb; replace HB := bS hb; (try clear hb); (try clear z1114_0 z1114_1 z1114_2 f1114_0 f1114_1 f1114_2); obtain ⟨z1114_0, z1114_1, z1114_2, f1114_0, f1114_1, f1114_2⟩ := cz3 BK1114) | ((with_reducible refine gate_callee (f := 48) rfl ?_); refine gL (some 32) Try.func48 #[] ?_; (with_reducible refine zCall (barscanlaw05_examples.calls k  t1116 _ A7.out) ?_); intro w12 hb; replace BK1114 := bB BK1114 hb; replace HB := bS hb; (try clear hb)))
   go_ret
   exact ⟨zE, zB⟩
  ·rw [if_neg c6] at H
   have c6b0 : decide (256 < a0_1) = false := decide_eq_false c6
   clear c6
   by_cases c13 : (l2.length : Int) > 20
   ·rw [if_pos c13] at H
    have c13b0 : decide (20 < (l2.length : Int)) = true := decide_eq_true c13
    have c13b1 : decide (20 < l2.length) = true := decide_eq_true (by omega)
    clear c13
    obtain ⟨t1117, A14, H⟩ := zD H
    obtain rfl := Option.some.inj H
    go_enter Try.func7, Try.ntmps7
    go_wp2_with (first | ((with_reducible refine gate_dst (N := 3) rfl ?_); (try (refine gate_guard (by rfl) ?_; dsimp only)); refine zBox 3 #[.int .i64 a0_0, .int .i64 a0_1, .int .i64 a0_2] 23 ?_; clear HB; intro gb1114 w15 BK1114 GE1114 HB; (try clear z1114_0 z1114_1 z1114_2 f1114_0 f1114_1 f1114_2); obtain ⟨z1114_0, z1114_1, z1114_2, f1114_0, f1114_1, f1114_2⟩ := cz3 BK1114) | (go_at_call 47; (with_reducible refine (valid1.calls k a0_0 a0_1 a0_2 20 _ _ l1 true _ ?side1 ?side2 A4.out).mono ?_); (case side1 => exact zN HR1); (case side2 => exact HC1.out); rintro e w17 ⟨rfl, hb⟩; replace BK1114 := bB BK1114 hb; replace HB := bS hb; (try clear hb); (try clear z1114_0 z1114_1 z1114_2 f1114_0 f1114_1 f1114_2); obtain ⟨z1114_0, z1114_1, z1114_2, f1114_0, f1114_1, f1114_2⟩ := cz3 BK1114) | ((with_reducible refine gate_callee (f := 48) rfl ?_); refine gL (some 32) Try.func48 #[] ?_; (with_reducible refine zCall (barscanlaw05_examples.calls k  t1117 _ A14.out) ?_); intro w19 hb; replace BK1114 := bB BK1114 hb; replace HB := bS hb; (try clear hb)))
    go_ret
    exact ⟨zE, zB⟩
   ·rw [if_neg c13] at H
    have c13b0 : decide (20 < (l2.length : Int)) = false := decide_eq_false c13
    have c13b1 : decide (20 < l2.length) = false := decide_eq_false (by omega)
    clear c13
    obtain ⟨⟨t1118, t1121⟩, A20, H⟩ := zD H
    dsimp only at H
    by_cases c21 : (l1.length : Int) = 0
    ·rw [if_pos c21] at H
     have c21b0 := beq_iff_eq.mpr c21
     have c21b1 := bne_eq_false_iff_eq.mpr c21
     clear c21
     by_cases c22 : t1121 = 12
     ·rw [if_pos c22] at H
      have c22b0 := beq_iff_eq.mpr c22
      have c22b1 := bne_eq_false_iff_eq.mpr c22
      clear c22
      by_cases c23 : (t1118.length : Int) = 0
      ·rw [if_pos c23] at H
       have c23b0 := beq_iff_eq.mpr c23
       have c23b1 := bne_eq_false_iff_eq.mpr c23
       clear c23
       obtain ⟨t1122, A24, H⟩ := zD H
       obtain rfl := Option.some.inj H
       go_enter Try.func7, Try.ntmps7
       go_wp2_with (first | ((with_reducible refine gate_dst (N := 3) rfl ?_); (try (refine gate_guard (by rfl) ?_; dsimp only)); refine zBox 3 #[.int .i64 a0_0, .int .i64 a0_1, .int .i64 a0_2] 23 ?_; clear HB; intro gb1114 w25 BK1114 GE1114 HB; (try clear z1114_0 z1114_1 z1114_2 f1114_0 f1114_1 f1114_2); obtain ⟨z1114_0, z1114_1, z1114_2, f1114_0, f1114_1, f1114_2⟩ := cz3 BK1114) | (go_at_call 47; (with_reducible refine (valid1.calls k a0_0 a0_1 a0_2 20 _ _ l1 true _ ?side1 ?side2 A4.out).mono ?_); (case side1 => exact zN HR1); (case side2 => exact HC1.out); rintro e w27 ⟨rfl, hb⟩; replace BK1114 := bB BK1114 hb; replace HB := bS hb; (try clear hb); (try clear z1114_0 z1114_1 z1114_2 f1114_0 f1114_1 f1114_2); obtain ⟨z1114_0, z1114_1, z1114_2, f1114_0, f1114_1, f1114_2⟩ := cz3 BK1114) | ((with_reducible refine gate_callee (f := 49) rfl ?_); refine gL (some 36) Try.func49 #[.agg #[.int .i64 a0_0, .int .i64 a0_1, .int .i64 a0_2], .slice A1 l1.length c1] ?_; (with_reducible refine (polynomial_Roots.calls k a0_0 a0_1 a0_2 _ _ l1 t1118 t1121 _ ?side1 ?side2 A20.out).mono ?_); (case side1 => exact zN HR1); (case side2 => exact HC1.out); rintro e w29 ⟨v1119, rfl, ho0, hb⟩; refine ⟨_, rfl, ?_⟩; have HO1120 := Aside0.mk (Kd.R_lower ho0 (below_size zB)); replace BK1114 := bB BK1114 hb; replace HB := bS hb; (try clear hb); (try clear ho0); obtain ⟨Ao30, co30, eo30⟩ := Kd.R_slice HO1120.out; subst eo30) | (go_at_call 48; (with_reducible refine (barscanlaw05_examples.calls k  t1122 _ A24.out).mono ?_); rintro e w31 ⟨rfl, hb⟩; replace HO1120 := Aside0.mk (Kd.R_below (zO HO1120) hb); replace BK1114 := bB BK1114 hb; replace HB := bS hb; (try clear hb)))
       go_ret
       exact ⟨zE, zB⟩
      ·rw [if_neg c23] at H
       exact absurd H (by simp)
     ·rw [if_neg c22] at H
      exact absurd H (by simp)
    ·rw [if_neg c21] at H
     have c21b0 := beq_eq_false_iff_ne.mpr c21
     have c21b1 := bne_iff_ne.mpr c21
     have c21b2 : ¬ (l1 = []) := fun h_ => c21 (by rw [h_]; rfl)
     by_cases c32 : t1121 = 0
     ·rw [if_pos c32] at H
      have c32b0 := beq_iff_eq.mpr c32
      have c32b1 := bne_eq_false_iff_eq.mpr c32
      clear c32
      by_cases c33 : (t1118.length : Int) ≥ (l1.length : Int)
      ·rw [if_pos c33] at H
       exact absurd H (by simp)
      ·rw [if_neg c33] at H
       have c33b0 : decide ((l1.length : Int) ≤ (t1118.length : Int)) = false := decide_eq_false c33
       have c33b1 : decide (l1.length ≤ t1118.length) = false := decide_eq_false (fun h => c33 (Int.ofNat_le.mpr h))
       clear c33
       have H' := zA H
       clear H
       go_enter Try.func7, Try.ntmps7
       go_wp2_with (first | ((with_reducible refine gate_dst (N := 3) rfl ?_); (try (refine gate_guard (by rfl) ?_; dsimp only)); refine zBox 3 #[.int .i64 a0_0, .int .i64 a0_1, .int .i64 a0_2] 23 ?_; clear HB; intro gb1114 w34 BK1114 GE1114 HB; (try clear z1114_0 z1114_1 z1114_2 f1114_0 f1114_1 f1114_2); obtain ⟨z1114_0, z1114_1, z1114_2, f1114_0, f1114_1, f1114_2⟩ := cz3 BK1114) | (go_at_call 47; (with_reducible refine (valid1.calls k a0_0 a0_1 a0_2 20 _ _ l1 true _ ?side1 ?side2 A4.out).mono ?_); (case side1 => exact zN HR1); (case side2 => exact HC1.out); rintro e w36 ⟨rfl, hb⟩; replace BK1114 := bB BK1114 hb; replace HB := bS hb; (try clear hb); (try clear z1114_0 z1114_1 z1114_2 f1114_0 f1114_1 f1114_2); obtain ⟨z1114_0, z1114_1, z1114_2, f1114_0, f1114_1, f1114_2⟩ := cz3 BK1114) | ((with_reducible refine gate_callee (f := 49) rfl ?_); refine gL (some 36) Try.func49 #[.agg #[.int .i64 a0_0, .int .i64 a0_1, .int .i64 a0_2], .slice A1 l1.length c1] ?_; (with_reducible refine (polynomial_Roots.calls k a0_0 a0_1 a0_2 _ _ l1 t1118 t1121 _ ?side1 ?side2 A20.out).mono ?_); (case side1 => exact zN HR1); (case side2 => exact HC1.out); rintro e w38 ⟨v1119, rfl, ho0, hb⟩; refine ⟨_, rfl, ?_⟩; have HO1120 := Aside0.mk (Kd.R_lower ho0 (below_size zB)); replace BK1114 := bB BK1114 hb; replace HB := bS hb; (try clear hb); (try clear ho0); obtain ⟨Ao39, co39, eo39⟩ := Kd.R_slice HO1120.out; subst eo39; (try clear z1114_0 z1114_1 z1114_2 f1114_0 f1114_1 f1114_2); obtain ⟨z1114_0, z1114_1, z1114_2, f1114_0, f1114_1, f1114_2⟩ := cz3 BK1114))
       go_loopg [63] k (fun kq v63 w' => ∃ (x63_1 : Int), v63 = .int .i64 x63_1 ∧ Aside0 (barscanlaw05_PolynomialFactors.l0 kq l1 l2 t1118 a0_1 x63_1 a0_0 a0_1 a0_2 = some r) ∧ Aside0 (kq ≤ k) ∧ Aside0 (Kd.R (Kd.int .i64) 3 w' w.heap.size (fun _ => True) (.slice Ao39 t1118.length co39) t1118) ∧ Aside0 (w'.heap[gb1114]? = some (.cells #[.int .i64 a0_0, .int .i64 a0_1, .int .i64 a0_2] 23 (0, 0))) ∧ Aside0 (Below w.heap.size w w'))
       case atStart => exact ⟨(0), zR, H', ⟨Nat.le_refl _⟩, ⟨zO HO1120⟩, ⟨zK BK1114⟩, ⟨zB⟩⟩
       case round =>
        clear H'
        try clear c1
        try clear c2
        try clear p2
        try clear c3
        try clear c4
        try clear c5
        try clear c6
        try clear c6b0
        try clear c7
        try clear c9
        try clear c13
        try clear c13b0
        try clear c13b1
        try clear c21
        try clear c21b0
        try clear c21b1
        try clear c21b2
        try clear c22
        try clear c22b0
        try clear c22b1
        try clear c23
        try clear c23b0
        try clear c23b1
        try clear c32
        try clear c32b0
        try clear c32b1
        try clear c33
        try clear c33b0
        try clear c33b1
        try clear z1114_0 z1114_1 z1114_2 f1114_0 f1114_1 f1114_2
        obtain ⟨x63_1, rfl, HA, HK1, HO_7, BK1114, HB⟩ := hrel
        cases gk with
        | zero => exact absurd HA.out (by simp [barscanlaw05_PolynomialFactors.l0])
        | succ k1 =>
         have H := HA.out
         clear HA
         simp only [barscanlaw05_PolynomialFactors.l0] at H
         by_cases c41 : x63_1 < a0_1
         ·rw [if_pos c41] at H
          have c41b0 : decide (x63_1 < a0_1) = true := decide_eq_true c41
          clear c41
          obtain ⟨y1123, hy1123⟩ : ∃ y_ : List Int, y_ = (([x63_1] : List Int)) := ⟨_, rfl⟩
          replace H : ((polynomial_FromRoots.f k1 a0_0 a0_1 a0_2 y1123).bind fun bt1126 => (if bt1126.2 = 0 then (if (bt1126.1.length : Int) = 2 then ((barscanlaw05_has.f k1 t1118 x63_1).bind fun t1130 => ((barscanlaw05_rest.f k1 a0_0 a0_1 a0_2 l1 bt1126.1).bind fun t1131 => (if (t1130 != ((t1131.length : Int) == 0)) = true then (none) else (barscanlaw05_PolynomialFactors.l0 k1 l1 l2 t1118 a0_1 (wrap64 (x63_1 + 1)) a0_0 a0_1 a0_2)))) else (none)) else (none))) = some r := by first | (rw [hy1123]; with_reducible exact H) | (have H2_ := (Option.bind_some _ _).symm.trans H; rw [hy1123]; with_reducible exact H2_) | (have H2_ := (Option.bind_some _ _).symm.trans H; with_reducible exact H2_) | with_reducible exact H | (rw [hy1123]; exact H) | exact H
          have Ny1123 := Aside0.mk hy1123
          clear hy1123
          obtain ⟨⟨t1126, t1129⟩, A42, H⟩ := zD H
          dsimp only at H
          by_cases c43 : t1129 = 0
          ·rw [if_pos c43] at H
           have c43b0 := beq_iff_eq.mpr c43
           have c43b1 := bne_eq_false_iff_eq.mpr c43
           clear c43
           by_cases c44 : (t1126.length : Int) = 2
           ·rw [if_pos c44] at H
            have c44b0 := beq_iff_eq.mpr c44
            have c44b1 := bne_eq_false_iff_eq.mpr c44
            clear c44
            obtain ⟨t1130, A45, H⟩ := zD H
            obtain ⟨t1131, A46, H⟩ := zD H
            by_cases c47 : (t1130 != ((t1131.length : Int) == 0)) = true
            ·rw [if_pos c47] at H
             exact absurd H (by simp)
            ·rw [if_neg c47] at H
             have c47b0 : (t1130 != ((t1131.length : Int) == 0)) = false := by simpa using c47
             (try (have c47b1 : decide (t1130 = ((t1131.length : Int) == 0)) = true := by simpa using c47))
             (try (have c47b2 : (t1130 == ((t1131.length : Int) == 0)) = true := by simpa using c47))
             clear c47
             have H' := zA H
             clear H
             (try clear z1114_0 z1114_1 z1114_2 f1114_0 f1114_1 f1114_2)
             obtain ⟨z1114_0, z1114_1, z1114_2, f1114_0, f1114_1, f1114_2⟩ := cz3 BK1114
             try go_wp2_with (first | ((with_reducible refine gate_dst (N := 69) rfl ?_); (try (refine gate_guard (by rfl) ?_; dsimp only)); refine Kd.R_lit (Kd.int .i64) _ 3 ?hg (N := 69) ?hd (xs := ([x63_1] : List Int)) (inner := [.int .i64 x63_1]) (ok := fun _ => True) (okp := fun _ => True) ?hr ?hp (fun _ hk => hk) trivial (Below.refl _ _) (Nat.le_refl _) (by simp) ?_; (case hd => rfl); (case hg => rfl); (case hr => first | (go_simp; done) | (go_simp; rfl)); (case hp => exact (Reps.one (show Kd.M (Kd.int .i64) _ _ _ x63_1 [.int .i64 x63_1] from rfl) (Reps.none _ _))); intro v1124 w49 ho50 hb hg_ hnew_; clear hg_ hnew_; (first | rw [← Ny1123.out] at ho50 | (simp only [Int.reduceToNat] at ho50; rw [← Ny1123.out] at ho50)); have HO1125 := Aside0.mk (Kd.R_lower (Kd.R_new' ho50 (Kd.R_lt (zO HO_7))) (below_size zB)); replace HO_7 := Aside0.mk (Kd.R_elder' (zO HO_7) (Kd.R_base ho50) hb); replace BK1114 := bB BK1114 hb; replace HB := bS hb; clear hb ho50; obtain ⟨Ao51, co51, eo51⟩ := Kd.R_slice HO1125.out; subst eo51) | ((with_reducible refine gate_callee (f := 50) rfl ?_); refine gL (some 70) Try.func50 #[.agg #[.int .i64 a0_0, .int .i64 a0_1, .int .i64 a0_2], .slice Ao51 y1123.length co51] ?_; (with_reducible refine (polynomial_FromRoots.calls k1 a0_0 a0_1 a0_2 _ _ y1123 t1126 t1129 _ ?side1 ?side2 A42.out).mono ?_); (case side1 => exact zN HO1125); (case side2 => exact (Kd.R_reads' HO1125.out).2.1); rintro e w52 ⟨v1127, rfl, ho0, hb⟩; refine ⟨_, rfl, ?_⟩; have HO1128 := Aside0.mk (Kd.R_lower (Kd.R_new' (Kd.R_new' ho0 (Kd.R_lt (zO HO_7))) (Kd.R_lt (zO HO1125))) (below_size zB)); replace HO_7 := Aside0.mk (Kd.R_elder' (zO HO_7) (Kd.R_base ho0) hb); replace HO1125 := Aside0.mk (Kd.R_elder' (zO HO1125) (Kd.R_base ho0) hb); replace BK1114 := bB BK1114 hb; replace HB := bS hb; (try clear hb); (try clear ho0)))
             replace HO_7 := Aside0.mk (Kd.R_drew HO_7.out)
             replace HO1125 := Aside0.mk (Kd.R_drew HO1125.out)
             replace HO1128 := Aside0.mk (Kd.R_drew HO1128.out)
             replace BK1114 := Aside0.mk (blk_drew BK1114.out)
             replace HB := Aside0.mk (below_drew1 HB.out)
             obtain ⟨Ao54, co54, eo54⟩ := Kd.R_slice HO1128.out
             (first | subst eo54 | (injection eo54 with f1_ f2_ f3_; have f4_ := f1_.symm; have f5_ := f3_.symm; clear f1_ f2_ f3_; subst f4_; subst f5_))
             refine start_ (n := 19) (S := fun w' => w'.cell? ⟨gb1114, 0, none⟩ = some (.int .i64 a0_0) ∧ w'.cell? ⟨gb1114, 1, none⟩ = some (.int .i64 a0_1) ∧ w'.cell? ⟨gb1114, 2, none⟩ = some (.int .i64 a0_2)) (ds := []) #[false, false, false, false, false, false, false, false, false, false, false, false, false, false, false, false, false, false, false] (by kernel_rfl) rfl rfl zS (fun hHeld => ?_); refine with_tabW barscanlaw05_PolynomialFactors.tab12 barscanlaw05_PolynomialFactors.bits12 (fun HT_ HW_ => ?_)
             generalize w52.drew = w53 at HO_7 HO1125 HO1128 BK1114 HB hHeld ⊢
             refine pU 0 (some 73) ?_
             refine pU 1 (some 74) ?_
             refine pU 2 (some 75) ?_
             refine pU 3 (some 76) ?_
             refine pU 4 (some 77) ?_
             refine pU 5 (some 78) ?_
             refine pU 6 (some 79) ?_
             refine pU 7 (some 80) ?_
             refine pU 8 (some 81) ?_
             refine pU 9 (some 82) ?_
             refine pU 12 (some 85) ?_
             refine pU 13 (some 86) ?_
             refine tU 11 (some 84) hHeld ?_
             refine oU 10 (some 83) (fun K hK => ?_)
             refine goes_ Try.func51 (by kernel_rfl) rfl #[.slice Ao39 t1118.length co39, .int .i64 x63_1] (by rfl) rfl rfl zM ?_
             with_reducible refine (barscanlaw05_has.calls k1 _ _ t1118 x63_1 t1130 _ ?side1 ?side2 A45.out).mono ?_
             (case side1 => exact zN HO_7)
             (case side2 => exact (Kd.R_reads' HO_7.out).2.1)
             rintro e w' ⟨rfl, ⟨nd, rfl⟩⟩
             refine ⟨_, rfl, ?_⟩
             refine hK.out _ _ zS (fun hHeld => ?_)
             clear hK K
             refine nU ?_
             refine oU 14 (some 87) (fun K hK => ?_)
             refine goes_ Try.func52 (by kernel_rfl) rfl #[.agg #[.int .i64 a0_0, .int .i64 a0_1, .int .i64 a0_2], .slice A1 l1.length c1, .slice Ao54 t1126.length co54] (by rfl) rfl rfl zM ?_
             with_reducible refine (barscanlaw05_rest.calls k1 a0_0 a0_1 a0_2 _ _ l1 _ _ t1126 t1131 _ ?side1 ?side2 ?side3 ?side4 A46.out).mono ?_
             (case side1 => repeat (first | exact (Kd.C_below HR1.out zB) | (with_reducible refine Kd.C_alloc ?_ _) | (with_reducible refine Kd.C_drewN ?_ _) | (with_reducible refine Kd.C_drew ?_)))
             (case side2 => exact HC1.out)
             (case side3 => exact zN HO1128)
             (case side4 => exact (Kd.R_reads' HO1128.out).2.1)
             rintro e w55 ⟨v1132, rfl, ho0, hb⟩
             refine ⟨_, rfl, ?_⟩
             have HO1133 := Aside0.mk (Kd.R_lower (Kd.R_new' (Kd.R_new' (Kd.R_new' ho0 (Kd.R_lt (zO HO_7))) (Kd.R_lt (zO HO1125))) (Kd.R_lt (zO HO1128))) (below_size zB))
             replace HO_7 := Aside0.mk (Kd.R_elder' (zO HO_7) (Kd.R_base ho0) hb)
             replace HO1125 := Aside0.mk (Kd.R_elder' (zO HO1125) (Kd.R_base ho0) hb)
             replace HO1128 := Aside0.mk (Kd.R_elder' (zO HO1128) (Kd.R_base ho0) hb)
             replace BK1114 := bB BK1114 hb
             replace HB := bS hb
             (try clear hb)
             (try clear hb2)
             (try clear hk)
             (try clear hi)
             (try clear ho0)
             obtain ⟨Ao56, co56, eo56⟩ := Kd.R_slice HO1133.out
             (first | subst eo56 | (injection eo56 with f1_ f2_ f3_; have f4_ := f1_.symm; have f5_ := f3_.symm; clear f1_ f2_ f3_; subst f4_; subst f5_))
             refine hK.out _ _ zS (fun hHeld => ?_)
             clear hK K
             refine nU ?_
             refine pU 15 (some 88) ?_
             refine pU 16 (some 89) ?_
             refine pU 17 (some 90) ?_
             refine pU 18 (some 91) ?_
             refine dU ?_
             try go_wp2
             go_roundg k1
             case measure => have := HK1.out; omega
             case rel => exact ⟨(wrap64 (x63_1 + 1)), zR, H', zH, ⟨by (with_reducible repeat (first | apply Kd.R_alloc | apply Kd.R_drewN | apply Kd.R_drew)); exact Kd.R_mono HO_7.out (fun _ hk => trivial)⟩, ⟨zK BK1114⟩, ⟨zB⟩⟩
           ·rw [if_neg c44] at H
            exact absurd H (by simp)
          ·rw [if_neg c43] at H
           exact absurd H (by simp)
         ·rw [if_neg c41] at H
          have c41b0 : decide (x63_1 < a0_1) = false := decide_eq_false c41
          clear c41
          obtain ⟨⟨t1134, t1137⟩, A57, H⟩ := zD H
          dsimp only at H
          by_cases c58 : t1137 = 0
          ·rw [if_pos c58] at H
           have c58b0 := beq_iff_eq.mpr c58
           have c58b1 := bne_eq_false_iff_eq.mpr c58
           clear c58
           obtain ⟨⟨t1138, t1141⟩, A59, H⟩ := zD H
           dsimp only at H
           by_cases c60 : t1141 = 0
           ·rw [if_pos c60] at H
            have c60b0 := beq_iff_eq.mpr c60
            have c60b1 := bne_eq_false_iff_eq.mpr c60
            clear c60
            by_cases c61 : (t1134.length : Int) = (wrap64 ((l2.length : Int) + 1))
            ·rw [if_pos c61] at H
             have c61b0 := beq_iff_eq.mpr c61
             have c61b1 := bne_eq_false_iff_eq.mpr c61
             clear c61
             by_cases c62 : 0 ≤ (l2.length : Int)
             ·rw [if_pos c62] at H
              have c62b0 : decide (0 ≤ (l2.length : Int)) = true := decide_eq_true c62
              have c62b1 : decide (0 ≤ l2.length) = true := decide_eq_true (by omega)
              clear c62
              by_cases c63 : (l2.length : Int) < (t1134.length : Int)
              ·rw [if_pos c63] at H
               have c63b0 : decide ((l2.length : Int) < (t1134.length : Int)) = true := decide_eq_true c63
               have c63b1 : decide (l2.length < t1134.length) = true := decide_eq_true (Int.ofNat_lt.mp c63)
               clear c63
               by_cases c64 : (rd t1134 (l2.length : Int)) = 1
               ·rw [if_pos c64] at H
                have c64b0 := beq_iff_eq.mpr c64
                have c64b1 := bne_eq_false_iff_eq.mpr c64
                clear c64
                have H' := zA H
                clear H
                (try clear z1114_0 z1114_1 z1114_2 f1114_0 f1114_1 f1114_2)
                obtain ⟨z1114_0, z1114_1, z1114_2, f1114_0, f1114_1, f1114_2⟩ := cz3 BK1114
                go_wp2_with (first | ((with_reducible refine gate_callee (f := 50) rfl ?_); refine gL (some 96) Try.func50 #[.agg #[.int .i64 a0_0, .int .i64 a0_1, .int .i64 a0_2], .slice A2 l2.length c2] ?_; (with_reducible refine (polynomial_FromRoots.calls k1 a0_0 a0_1 a0_2 _ _ l2 t1134 t1137 _ ?side1 ?side2 A57.out).mono ?_); (case side1 => exact zN HR2); (case side2 => exact HC2.out); rintro e w66 ⟨v1135, rfl, ho0, hb⟩; refine ⟨_, rfl, ?_⟩; have HO1136 := Aside0.mk (Kd.R_lower (Kd.R_new' ho0 (Kd.R_lt (zO HO_7))) (below_size zB)); replace HO_7 := Aside0.mk (Kd.R_elder' (zO HO_7) (Kd.R_base ho0) hb); replace BK1114 := bB BK1114 hb; replace HB := bS hb; (try clear hb); (try clear ho0); (try clear z1114_0 z1114_1 z1114_2 f1114_0 f1114_1 f1114_2); obtain ⟨z1114_0, z1114_1, z1114_2, f1114_0, f1114_1, f1114_2⟩ := cz3 BK1114; obtain ⟨Ao68, co68, eo68⟩ := Kd.R_slice HO1136.out; subst eo68) | ((with_reducible refine gate_callee (f := 49) rfl ?_); refine gL (some 109) Try.func49 #[.agg #[.int .i64 a0_0, .int .i64 a0_1, .int .i64 a0_2], .slice Ao68 t1134.length co68] ?_; (with_reducible refine (polynomial_Roots.calls k1 a0_0 a0_1 a0_2 _ _ t1134 t1138 t1141 _ ?side1 ?side2 A59.out).mono ?_); (case side1 => exact zN HO1136); (case side2 => exact (Kd.R_reads' HO1136.out).2.1); rintro e w69 ⟨v1139, rfl, ho0, hb⟩; refine ⟨_, rfl, ?_⟩; have HO1140 := Aside0.mk (Kd.R_lower (Kd.R_new' (Kd.R_new' ho0 (Kd.R_lt (zO HO_7))) (Kd.R_lt (zO HO1136))) (below_size zB)); replace HO_7 := Aside0.mk (Kd.R_elder' (zO HO_7) (Kd.R_base ho0) hb); replace HO1136 := Aside0.mk (Kd.R_elder' (zO HO1136) (Kd.R_base ho0) hb); replace BK1114 := bB BK1114 hb; replace HB := bS hb; (try clear hb); (try clear ho0); have p1142 : 0 ≤ ((l2.length : Int) : Int) := of_decide_eq_true (by first | (with_reducible assumption) | assumption); have q1142 : (l2.length : Int) < (t1134.length : Int) := of_decide_eq_true (by first | (with_reducible assumption) | assumption); obtain ⟨ad1142, e1142, hx1142_0⟩ := Kd.at_int (Kd.R_reads' HO1136.out).2.2 (l2.length : Int) p1142 q1142; cases e1142; (try simp only [Go.IntWalk.toNatUp] at hx1142_0); replace p1142 := eq_true p1142; replace q1142 := eq_true q1142; (try clear z1114_0 z1114_1 z1114_2 f1114_0 f1114_1 f1114_2); obtain ⟨z1114_0, z1114_1, z1114_2, f1114_0, f1114_1, f1114_2⟩ := cz3 BK1114))
                go_loopg [132] k1 (fun kq v132 w' => ∃ (x132_2 : Int), v132 = .int .i64 x132_2 ∧ Aside0 (barscanlaw05_PolynomialFactors.l1 kq l2 t1138 a0_1 x132_2 = some r) ∧ Aside0 (kq ≤ k1) ∧ Aside0 (Kd.R (Kd.int .i64) 3 w' w.heap.size (fun _ => True) v1139 t1138) ∧ Aside0 (w'.heap[gb1114]? = some (.cells #[.int .i64 a0_0, .int .i64 a0_1, .int .i64 a0_2] 23 (0, 0))) ∧ Aside0 (Below w.heap.size w w'))
                case atStart => exact ⟨(0), zR, H', ⟨Nat.le_refl _⟩, ⟨by (with_reducible repeat (first | apply Kd.R_alloc | apply Kd.R_drewN | apply Kd.R_drew)); exact Kd.R_mono HO1140.out (fun _ hk => trivial)⟩, ⟨zK BK1114⟩, ⟨zB⟩⟩
                case round =>
                 clear H'
                 try clear c1
                 try clear p1
                 try clear q1
                 try clear hx1
                 try clear c2
                 try clear p2
                 try clear c3
                 try clear c4
                 try clear c5
                 try clear c6
                 try clear c6b0
                 try clear p6
                 try clear c7
                 try clear c9
                 try clear p11
                 try clear q11
                 try clear hx11
                 try clear c13
                 try clear c13b0
                 try clear c13b1
                 try clear c21
                 try clear c21b0
                 try clear c21b1
                 try clear c21b2
                 try clear c22
                 try clear c22b0
                 try clear c22b1
                 try clear c23
                 try clear c23b0
                 try clear c23b1
                 try clear c32
                 try clear c32b0
                 try clear c32b1
                 try clear c33
                 try clear c33b0
                 try clear c33b1
                 try clear c41
                 try clear c41b0
                 try clear c43
                 try clear c43b0
                 try clear c43b1
                 try clear c44
                 try clear c44b0
                 try clear c44b1
                 try clear c47
                 try clear c47b0
                 try clear c47b1
                 try clear c47b2
                 try clear c48
                 try clear c49
                 try clear c50
                 try clear c51
                 try clear c52
                 try clear c58
                 try clear c58b0
                 try clear c58b1
                 try clear c60
                 try clear c60b0
                 try clear c60b1
                 try clear c61
                 try clear c61b0
                 try clear c61b1
                 try clear c62
                 try clear c62b0
                 try clear c62b1
                 try clear c63
                 try clear c63b0
                 try clear c63b1
                 try clear c64
                 try clear c64b0
                 try clear c64b1
                 try clear p64
                 try clear z1114_0 z1114_1 z1114_2 f1114_0 f1114_1 f1114_2
                 try clear hx1142_0
                 try clear p1142
                 try clear p2
                 try clear q1142
                 obtain ⟨x132_2, rfl, HA, HK2, HO_14, BK1114, HB⟩ := hrel
                 cases gk with
                 | zero => exact absurd HA.out (by simp [barscanlaw05_PolynomialFactors.l1])
                 | succ k2 =>
                  have H := HA.out
                  clear HA
                  simp only [barscanlaw05_PolynomialFactors.l1] at H
                  by_cases c71 : x132_2 < a0_1
                  ·rw [if_pos c71] at H
                   have c71b0 : decide (x132_2 < a0_1) = true := decide_eq_true c71
                   clear c71
                   obtain ⟨t1143, A72, H⟩ := zD H
                   obtain ⟨t1144, A73, H⟩ := zD H
                   by_cases c74 : (t1143 != t1144) = true
                   ·rw [if_pos c74] at H
                    exact absurd H (by simp)
                   ·rw [if_neg c74] at H
                    have c74b0 : (t1143 != t1144) = false := by simpa using c74
                    (try (have c74b1 : decide (t1143 = t1144) = true := by simpa using c74))
                    (try (have c74b2 : (t1143 == t1144) = true := by simpa using c74))
                    clear c74
                    have H' := zA H
                    clear H
                    obtain ⟨Ao75, co75, eo75⟩ := Kd.R_slice HO_14.out
                    subst eo75
                    go_wp2_with (first | ((with_reducible refine gate_callee (f := 51) rfl ?_); refine gL (some 137) Try.func51 #[.slice Ao75 t1138.length co75, .int .i64 x132_2] ?_; (with_reducible refine (barscanlaw05_has.calls k2 _ _ t1138 x132_2 t1143 _ ?side1 ?side2 A72.out).mono ?_); (case side1 => exact zN HO_14); (case side2 => exact (Kd.R_reads' HO_14.out).2.1); rintro e w' ⟨rfl, ⟨nd, rfl⟩⟩; refine ⟨_, rfl, ?_⟩) | ((with_reducible refine gate_callee (f := 51) rfl ?_); refine gL (some 140) Try.func51 #[.slice A2 l2.length c2, .int .i64 x132_2] ?_; (with_reducible refine (barscanlaw05_has.calls k2 _ _ l2 x132_2 t1144 _ ?side1 ?side2 A73.out).mono ?_); (case side1 => repeat (first | exact (Kd.C_below HR2.out zB) | (with_reducible refine Kd.C_alloc ?_ _) | (with_reducible refine Kd.C_drewN ?_ _) | (with_reducible refine Kd.C_drew ?_))); (case side2 => exact HC2.out); rintro e w' ⟨rfl, ⟨nd, rfl⟩⟩; refine ⟨_, rfl, ?_⟩))
                    go_roundg k2
                    case measure => have := HK1.out; have := HK2.out; omega
                    case rel => exact ⟨(wrap64 (x132_2 + 1)), zR, H', ⟨by have := HK1.out; have := HK2.out; omega⟩, ⟨zO HO_14⟩, ⟨zK BK1114⟩, ⟨zB⟩⟩
                  ·rw [if_neg c71] at H
                   have c71b0 : decide (x132_2 < a0_1) = false := decide_eq_false c71
                   clear c71
                   obtain ⟨t1145, A76, H⟩ := zD H
                   obtain rfl := Option.some.inj H
                   go_wp2_with (first | ((with_reducible refine gate_callee (f := 48) rfl ?_); refine gL (some 143) Try.func48 #[] ?_; (with_reducible refine zCall (barscanlaw05_examples.calls k2  t1145 _ A76.out) ?_); intro w77 hb; replace HO_14 := Aside0.mk (Kd.R_below (zO HO_14) hb); replace BK1114 := bB BK1114 hb; replace HB := bS hb; (try clear hb)))
                   go_ret
                   exact ⟨zE, zB⟩
               ·rw [if_neg c64] at H
                exact absurd H (by simp)
              ·rw [if_neg c63] at H
               exact absurd H (by simp)
             ·rw [if_neg c62] at H
              exact absurd H (by simp)
            ·rw [if_neg c61] at H
             exact absurd H (by simp)
           ·rw [if_neg c60] at H
            exact absurd H (by simp)
          ·rw [if_neg c58] at H
           have c58b0 := beq_eq_false_iff_ne.mpr c58
           have c58b1 := bne_iff_ne.mpr c58
           by_cases c78 : t1137 = 1
           ·rw [if_pos c78] at H
            have c78b0 := beq_iff_eq.mpr c78
            have c78b1 := bne_eq_false_iff_eq.mpr c78
            clear c78
            obtain ⟨t1146, A79, H⟩ := zD H
            obtain rfl := Option.some.inj H
            (try clear z1114_0 z1114_1 z1114_2 f1114_0 f1114_1 f1114_2)
            obtain ⟨z1114_0, z1114_1, z1114_2, f1114_0, f1114_1, f1114_2⟩ := cz3 BK1114
            go_wp2_with (first | ((with_reducible refine gate_callee (f := 50) rfl ?_); refine gL (some 96) Try.func50 #[.agg #[.int .i64 a0_0, .int .i64 a0_1, .int .i64 a0_2], .slice A2 l2.length c2] ?_; (with_reducible refine (polynomial_FromRoots.calls k1 a0_0 a0_1 a0_2 _ _ l2 t1134 t1137 _ ?side1 ?side2 A57.out).mono ?_); (case side1 => exact zN HR2); (case side2 => exact HC2.out); rintro e w81 ⟨v1135, rfl, ho0, hb⟩; refine ⟨_, rfl, ?_⟩; have HO1136 := Aside0.mk (Kd.R_lower (Kd.R_new' ho0 (Kd.R_lt (zO HO_7))) (below_size zB)); replace HO_7 := Aside0.mk (Kd.R_elder' (zO HO_7) (Kd.R_base ho0) hb); replace BK1114 := bB BK1114 hb; replace HB := bS hb; (try clear hb); (try clear ho0)) | (go_at_call 48; (with_reducible refine (barscanlaw05_examples.calls k1  t1146 _ A79.out).mono ?_); rintro e w82 ⟨rfl, hb⟩; replace HO_7 := Aside0.mk (Kd.R_below (zO HO_7) hb); replace HO1136 := Aside0.mk (Kd.R_below (zO HO1136) hb); replace BK1114 := bB BK1114 hb; replace HB := bS hb; (try clear hb)))
            go_ret
            exact ⟨zE, zB⟩
           ·rw [if_neg c78] at H
            exact absurd H (by simp)
     ·rw [if_neg c32] at H
      exact absurd H (by simp)
 ·replace c5 := Bool.eq_false_iff.mpr c5
  subst c5
  rw [if_neg (show ¬ (false = true) by decide)] at H
  obtain ⟨t1147, A83, H⟩ := zD H
  obtain rfl := Option.some.inj H
  go_enter Try.func7, Try.ntmps7
  go_wp2_with (first | ((with_reducible refine gate_dst (N := 3) rfl ?_); (try (refine gate_guard (by rfl) ?_; dsimp only)); refine zBox 3 #[.int .i64 a0_0, .int .i64 a0_1, .int .i64 a0_2] 23 ?_; clear HB; intro gb1114 w84 BK1114 GE1114 HB; (try clear z1114_0 z1114_1 z1114_2 f1114_0 f1114_1 f1114_2); obtain ⟨z1114_0, z1114_1, z1114_2, f1114_0, f1114_1, f1114_2⟩ := cz3 BK1114) | (go_at_call 47; (with_reducible refine (valid1.calls k a0_0 a0_1 a0_2 20 _ _ l1 false _ ?side1 ?side2 A4.out).mono ?_); (case side1 => exact zN HR1); (case side2 => exact HC1.out); rintro e w86 ⟨rfl, hb⟩; replace BK1114 := bB BK1114 hb; replace HB := bS hb; (try clear hb)) | ((with_reducible refine gate_callee (f := 48) rfl ?_); refine gL (some 32) Try.func48 #[] ?_; (with_reducible refine zCall (barscanlaw05_examples.calls k  t1147 _ A83.out) ?_); intro w87 hb; replace BK1114 := bB BK1114 hb; replace HB := bS hb; (try clear hb)))
  go_ret
  exact ⟨zE, zB⟩
end Go.Proofs.Ytlhaclammaaabaa.Pg
