-- Written by a program of this session over the print of the kit.
import Derived.Test.YtlhaclammaaabaaY
import Derived.Test.YtlhaclammaaabaaB1
import Derived.Test.YtlhaclammaaabaaB4
import Derived.Test.YtlhaclammaaabaaB5
import Derived.Test.YtlhaclammaaabaaB34
namespace Go.Proofs.Ytlhaclammaaabaa.Pg
open Go.RowKit Go.Proofs.YtlhaclammaaabaaW.PrintWords Go.Proofs.YtlhaclammaaabaaW.PrintLast Go.Proofs.YtlhaclammaaabaaW.PrintMore
attribute [local go_sem] max2_int min2_int max_two min_two max_three min_three max_four min_four
set_option linter.unusedVariables false
set_option maxHeartbeats 8000000
set_option maxRecDepth 100000
set_option linter.unusedSimpArgs false
/-! ### barscanlaw05_PolynomialInterpolates: function 13 -/
def barscanlaw05_PolynomialInterpolates.f (k : Nat) (a0_0 : Int) (a0_1 : Int) (a0_2 : Int) (l1 : List Int) (l2 : List Int) : Option (Bool) := if (l1.length : Int) > 30 then ((barscanlaw05_examples.f k).bind fun t1496 => (some t1496)) else (if (l2.length : Int) > 30 then ((barscanlaw05_examples.f k).bind fun t1497 => (some t1497)) else ((polynomial_Interpolate.f k a0_0 a0_1 a0_2 l1 l2).bind fun bt1498 => ((barscanref05_Interpolate.f k a0_0 a0_1 a0_2 l1 l2).bind fun bt1502 => ((barscanlaw05_same.f k bt1498.1 bt1502.1).bind fun t1506 => (if t1506 = true then (if bt1498.2 = bt1502.2 then ((barscanlaw05_examples.f k).bind fun t1507 => (some t1507)) else (none)) else (none))))))
theorem barscanlaw05_PolynomialInterpolates.mono : ∀ a0 a1 a2 a3 a4 k, LeO (barscanlaw05_PolynomialInterpolates.f k a0 a1 a2 a3 a4) (barscanlaw05_PolynomialInterpolates.f (k + 1) a0 a1 a2 a3 a4) := by
 intro a0 a1 a2 a3 a4 k
 unfold barscanlaw05_PolynomialInterpolates.f
 have m0_ := @barscanlaw05_examples.mono
 have m1_ := @barscanlaw05_same.mono
 have m2_ := @barscanref05_Interpolate.mono
 have m3_ := @polynomial_Interpolate.mono
 exact zMo
theorem barscanlaw05_PolynomialInterpolates.calls (k : Nat) (a0_0 : Int) (a0_1 : Int) (a0_2 : Int) (A1 : Option Addr) (c1 : Nat) (l1 : List Int) (A2 : Option Addr) (c2 : Nat) (l2 : List Int) (r : Bool) (w : World) (hr1 : Kd.C (Kd.int .i64) w A1 l1.length l1) (hc1 : l1.length ≤ c1) (hr2 : Kd.C (Kd.int .i64) w A2 l2.length l2) (hc2 : l2.length ≤ c2) (h : barscanlaw05_PolynomialInterpolates.f k a0_0 a0_1 a0_2 l1 l2 = some r) :
  Calls Try.prog 13 #[.agg #[.int .i64 a0_0, .int .i64 a0_1, .int .i64 a0_2], .slice A1 l1.length c1, .slice A2 l2.length c2] w fun e w' => e = .returned (.bool r) ∧ Below w.heap.size w w' := by
 have hu23 := Try.underlying23
 have HR1 := Aside0.mk hr1
 have HC1 := Aside0.mk hc1
 clear hr1 hc1
 have HR2 := Aside0.mk hr2
 have HC2 := Aside0.mk hc2
 clear hr2 hc2
 have HB := Aside0.mk (Below.refl w.heap.size w)
 have H := h
 unfold barscanlaw05_PolynomialInterpolates.f at H
 clear h
 by_cases c4 : (l1.length : Int) > 30
 ·rw [if_pos c4] at H
  have c4b0 : decide (30 < (l1.length : Int)) = true := decide_eq_true c4
  have c4b1 : decide (30 < l1.length) = true := decide_eq_true (by omega)
  clear c4
  obtain ⟨t1496, A5, H⟩ := zD H
  obtain rfl := Option.some.inj H
  go_enter Try.func13, Try.ntmps13
  go_wp2_with (first | ((with_reducible refine gate_dst (N := 3) rfl ?_); (try (refine gate_guard (by rfl) ?_; dsimp only)); refine zBox 3 #[.int .i64 a0_0, .int .i64 a0_1, .int .i64 a0_2] 23 ?_; clear HB; intro gb1495 w6 BK1495 GE1495 HB) | ((with_reducible refine gate_callee (f := 48) rfl ?_); refine gL (some 19) Try.func48 #[] ?_; (with_reducible refine zCall (barscanlaw05_examples.calls k  t1496 _ A5.out) ?_); intro w7 hb; replace BK1495 := bB BK1495 hb; replace HB := bS hb; (try clear hb)))
  go_ret
  exact ⟨zE, zB⟩
 ·rw [if_neg c4] at H
  have c4b0 : decide (30 < (l1.length : Int)) = false := decide_eq_false c4
  have c4b1 : decide (30 < l1.length) = false := decide_eq_false (by omega)
  clear c4
  by_cases c8 : (l2.length : Int) > 30
  ·rw [if_pos c8] at H
   have c8b0 : decide (30 < (l2.length : Int)) = true := decide_eq_true c8
   have c8b1 : decide (30 < l2.length) = true := decide_eq_true (by omega)
   clear c8
   obtain ⟨t1497, A9, H⟩ := zD H
   obtain rfl := Option.some.inj H
   go_enter Try.func13, Try.ntmps13
   go_wp2_with (first | ((with_reducible refine gate_dst (N := 3) rfl ?_); (try (refine gate_guard (by rfl) ?_; dsimp only)); refine zBox 3 #[.int .i64 a0_0, .int .i64 a0_1, .int .i64 a0_2] 23 ?_; clear HB; intro gb1495 w10 BK1495 GE1495 HB) | ((with_reducible refine gate_callee (f := 48) rfl ?_); refine gL (some 19) Try.func48 #[] ?_; (with_reducible refine zCall (barscanlaw05_examples.calls k  t1497 _ A9.out) ?_); intro w11 hb; replace BK1495 := bB BK1495 hb; replace HB := bS hb; (try clear hb)))
   go_ret
   exact ⟨zE, zB⟩
  ·rw [if_neg c8] at H
   have c8b0 : decide (30 < (l2.length : Int)) = false := decide_eq_false c8
   have c8b1 : decide (30 < l2.length) = false := decide_eq_false (by omega)
   clear c8
   obtain ⟨⟨t1498, t1501⟩, A12, H⟩ := zD H
   dsimp only at H
   obtain ⟨⟨t1502, t1505⟩, A13, H⟩ := zD H
   dsimp only at H
   obtain ⟨t1506, A14, H⟩ := zD H
   by_cases c15 : t1506 = true
   ·subst c15
    rw [if_pos rfl] at H
    by_cases c16 : t1501 = t1505
    ·rw [if_pos c16] at H
     have c16b0 := beq_iff_eq.mpr c16
     have c16b1 := bne_eq_false_iff_eq.mpr c16
     clear c16
     obtain ⟨t1507, A17, H⟩ := zD H
     obtain rfl := Option.some.inj H
     go_enter Try.func13, Try.ntmps13
     go_wp2_with (first | ((with_reducible refine gate_dst (N := 3) rfl ?_); (try (refine gate_guard (by rfl) ?_; dsimp only)); refine zBox 3 #[.int .i64 a0_0, .int .i64 a0_1, .int .i64 a0_2] 23 ?_; clear HB; intro gb1495 w18 BK1495 GE1495 HB; (try clear z1495_0 z1495_1 z1495_2 f1495_0 f1495_1 f1495_2); obtain ⟨z1495_0, z1495_1, z1495_2, f1495_0, f1495_1, f1495_2⟩ := cz3 BK1495) | ((with_reducible refine gate_callee (f := 64) rfl ?_); refine gL (some 24) Try.func64 #[.agg #[.int .i64 a0_0, .int .i64 a0_1, .int .i64 a0_2], .slice A1 l1.length c1, .slice A2 l2.length c2] ?_; (with_reducible refine (polynomial_Interpolate.calls k a0_0 a0_1 a0_2 _ _ l1 _ _ l2 t1498 t1501 _ ?side1 ?side2 ?side3 ?side4 A12.out).mono ?_); (case side1 => exact zN HR1); (case side2 => exact HC1.out); (case side3 => exact zN HR2); (case side4 => exact HC2.out); rintro e w20 ⟨v1499, rfl, ho0, hb⟩; refine ⟨_, rfl, ?_⟩; have HO1500 := Aside0.mk (Kd.R_lower ho0 (below_size zB)); replace BK1495 := bB BK1495 hb; replace HB := bS hb; (try clear hb); (try clear ho0); (try clear z1495_0 z1495_1 z1495_2 f1495_0 f1495_1 f1495_2); obtain ⟨z1495_0, z1495_1, z1495_2, f1495_0, f1495_1, f1495_2⟩ := cz3 BK1495) | ((with_reducible refine gate_callee (f := 65) rfl ?_); refine gL (some 31) Try.func65 #[.agg #[.int .i64 a0_0, .int .i64 a0_1, .int .i64 a0_2], .slice A1 l1.length c1, .slice A2 l2.length c2] ?_; (with_reducible refine (barscanref05_Interpolate.calls k a0_0 a0_1 a0_2 _ _ l1 _ _ l2 t1502 t1505 _ ?side1 ?side2 ?side3 ?side4 A13.out).mono ?_); (case side1 => exact zN HR1); (case side2 => exact HC1.out); (case side3 => exact zN HR2); (case side4 => exact HC2.out); rintro e w22 ⟨v1503, rfl, ho0, hb⟩; refine ⟨_, rfl, ?_⟩; have HO1504 := Aside0.mk (Kd.R_lower (Kd.R_new' ho0 (Kd.R_lt (zO HO1500))) (below_size zB)); replace HO1500 := Aside0.mk (Kd.R_elder' (zO HO1500) (Kd.R_base ho0) hb); replace BK1495 := bB BK1495 hb; replace HB := bS hb; (try clear hb); (try clear ho0); obtain ⟨Ao23, co23, eo23⟩ := Kd.R_slice HO1500.out; subst eo23; obtain ⟨Ao24, co24, eo24⟩ := Kd.R_slice HO1504.out; subst eo24) | ((with_reducible refine gate_callee (f := 55) rfl ?_); refine gL (some 36) Try.func55 #[.slice Ao23 t1498.length co23, .slice Ao24 t1502.length co24] ?_; (with_reducible refine (barscanlaw05_same.calls k _ _ t1498 _ _ t1502 true _ ?side1 ?side2 ?side3 ?side4 A14.out).mono ?_); (case side1 => exact zN HO1500); (case side2 => exact (Kd.R_reads' HO1500.out).2.1); (case side3 => exact zN HO1504); (case side4 => exact (Kd.R_reads' HO1504.out).2.1); rintro e w' ⟨rfl, ⟨nd, rfl⟩⟩; refine ⟨_, rfl, ?_⟩) | (go_at_call 48; (with_reducible refine (barscanlaw05_examples.calls k  t1507 _ A17.out).mono ?_); rintro e w25 ⟨rfl, hb⟩; replace HO1500 := Aside0.mk (Kd.R_below (zO HO1500) hb); replace HO1504 := Aside0.mk (Kd.R_below (zO HO1504) hb); replace BK1495 := bB BK1495 hb; replace HB := bS hb; (try clear hb)))
     go_ret
     exact ⟨zE, zB⟩
    ·rw [if_neg c16] at H
     exact absurd H (by simp)
   ·replace c15 := Bool.eq_false_iff.mpr c15
    subst c15
    rw [if_neg (show ¬ (false = true) by decide)] at H
    exact absurd H (by simp)
end Go.Proofs.Ytlhaclammaaabaa.Pg
