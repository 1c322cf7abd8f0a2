-- Written by a program of this session over the print of the kit.
import Derived.Test.YtlhaclammaaabaaY
import Derived.Test.YtlhaclammaaabaaB1
import Derived.Test.YtlhaclammaaabaaB2
import Derived.Test.YtlhaclammaaabaaB3
import Derived.Test.YtlhaclammaaabaaB5
namespace Go.Proofs.Ytlhaclammaaabaa.Pg
open Go.RowKit Go.Proofs.YtlhaclammaaabaaW.PrintWords Go.Proofs.YtlhaclammaaabaaW.PrintLast Go.Proofs.YtlhaclammaaabaaW.PrintMore
attribute [local go_sem] max2_int min2_int max_two min_two max_three min_three max_four min_four
set_option linter.unusedVariables false
set_option maxHeartbeats 8000000
set_option maxRecDepth 100000
set_option linter.unusedSimpArgs false
/-! ### barscanlaw05_PolynomialMultiplies: function 12 -/
def barscanlaw05_PolynomialMultiplies.j0 : Nat → List Int → List Int → Bool → Int → Int → Int → Option (Bool)
 | 0, _, _, _, _, _, _ => none
 | k + 1, x1, x2, x34, x1411000, x1411001, x1411002 => if x34 = true then ((barscanlaw05_examples.f k).bind fun t1411 => (some t1411)) else ((polynomial_Mul.f k x1411000 x1411001 x1411002 x1 x2).bind fun bt1412 => ((barscanref05_Mul.f k x1411000 x1411001 x1411002 x1 x2).bind fun bt1416 => ((barscanlaw05_same.f k bt1412.1 bt1416.1).bind fun t1420 => (if t1420 = true then (if bt1412.2 = bt1416.2 then ((barscanlaw05_examples.f k).bind fun t1421 => (some t1421)) else (some false)) else (some false)))))
def barscanlaw05_PolynomialMultiplies.f (k : Nat) (a0_0 : Int) (a0_1 : Int) (a0_2 : Int) (l1 : List Int) (l2 : List Int) : Option (Bool) := if (l1.length : Int) ≤ 5000 then (if (l2.length : Int) ≤ 5000 then (if (wrap64 ((l1.length : Int) * (l2.length : Int))) > 10000 then (barscanlaw05_PolynomialMultiplies.j0 k l1 l2 (decide ((wrap64 ((l1.length : Int) + (l2.length : Int))) ≤ 4098)) a0_0 a0_1 a0_2) else (barscanlaw05_PolynomialMultiplies.j0 k l1 l2 false a0_0 a0_1 a0_2)) else (barscanlaw05_PolynomialMultiplies.j0 k l1 l2 false a0_0 a0_1 a0_2)) else (barscanlaw05_PolynomialMultiplies.j0 k l1 l2 false a0_0 a0_1 a0_2)
theorem barscanlaw05_PolynomialMultiplies.mono_l : ∀ k, (∀ y0 y1 y2 y3 y4 y5, LeO (barscanlaw05_PolynomialMultiplies.j0 k y0 y1 y2 y3 y4 y5) (barscanlaw05_PolynomialMultiplies.j0 (k + 1) y0 y1 y2 y3 y4 y5))
 | 0 => fun _ _ _ _ _ _ r h => by simp [barscanlaw05_PolynomialMultiplies.j0] at h
 | k + 1 => by
  have ih0 := barscanlaw05_PolynomialMultiplies.mono_l k
  ·intro y0 y1 y2 y3 y4 y5
   unfold barscanlaw05_PolynomialMultiplies.j0
   have m0_ := @barscanlaw05_examples.mono
   have m1_ := @barscanlaw05_same.mono
   have m2_ := @barscanref05_Mul.mono
   have m3_ := @polynomial_Mul.mono
   exact zMo
theorem barscanlaw05_PolynomialMultiplies.mono : ∀ a0 a1 a2 a3 a4 k, LeO (barscanlaw05_PolynomialMultiplies.f k a0 a1 a2 a3 a4) (barscanlaw05_PolynomialMultiplies.f (k + 1) a0 a1 a2 a3 a4) := by
 intro a0 a1 a2 a3 a4 k
 have ih0 := barscanlaw05_PolynomialMultiplies.mono_l k
 unfold barscanlaw05_PolynomialMultiplies.f
 have m0_ := @barscanlaw05_examples.mono
 have m1_ := @barscanlaw05_same.mono
 have m2_ := @barscanref05_Mul.mono
 have m3_ := @polynomial_Mul.mono
 exact zMo
theorem barscanlaw05_PolynomialMultiplies.calls (k : Nat) (a0_0 : Int) (a0_1 : Int) (a0_2 : Int) (A1 : Option Addr) (c1 : Nat) (l1 : List Int) (A2 : Option Addr) (c2 : Nat) (l2 : List Int) (r : Bool) (w : World) (hr1 : Kd.C (Kd.int .i64) w A1 l1.length l1) (hc1 : l1.length ≤ c1) (hr2 : Kd.C (Kd.int .i64) w A2 l2.length l2) (hc2 : l2.length ≤ c2) (h : barscanlaw05_PolynomialMultiplies.f k a0_0 a0_1 a0_2 l1 l2 = some r) :
  Calls Try.prog 12 #[.agg #[.int .i64 a0_0, .int .i64 a0_1, .int .i64 a0_2], .slice A1 l1.length c1, .slice A2 l2.length c2] w fun e w' => e = .returned (.bool r) ∧ Below w.heap.size w w' := by
 have hu23 := Try.underlying23
 have HR1 := Aside0.mk hr1
 have HC1 := Aside0.mk hc1
 clear hr1 hc1
 have HR2 := Aside0.mk hr2
 have HC2 := Aside0.mk hc2
 clear hr2 hc2
 have HB := Aside0.mk (Below.refl w.heap.size w)
 have H := h
 unfold barscanlaw05_PolynomialMultiplies.f at H
 clear h
 have HC4 := Aside0.mk H
 clear H
 go_enter Try.func12, Try.ntmps12
 go_upto_region 1 with (first | ((with_reducible refine gate_dst (N := 3) rfl ?_); (try (refine gate_guard (by rfl) ?_; dsimp only)); refine zBox 3 #[.int .i64 a0_0, .int .i64 a0_1, .int .i64 a0_2] 23 ?_; clear HB; intro gb1410 w5 BK1410 GE1410 HB))
 (try simp only [Act.put, List.setIfInBounds_toArray, List.set_cons_zero, List.set_cons_succ])
 go_cut [34] (fun v34 wc => ∃ (kq : Nat) (x34_3 : Bool), v34 = .bool x34_3 ∧ Aside0 (barscanlaw05_PolynomialMultiplies.j0 kq l1 l2 x34_3 a0_0 a0_1 a0_2 = some r) ∧ Aside0 (kq ≤ k) ∧ Aside0 (wc.heap[gb1410]? = some (.cells #[.int .i64 a0_0, .int .i64 a0_1, .int .i64 a0_2] 23 (0, 0))) ∧ Aside0 (Below w.heap.size w wc))
 case first =>
  have H := HC4.out
  clear HC4
  by_cases c6 : (l1.length : Int) ≤ 5000
  ·rw [if_pos c6] at H
   have c6b0 : decide ((l1.length : Int) ≤ 5000) = true := decide_eq_true c6
   have c6b1 : decide (l1.length ≤ 5000) = true := decide_eq_true (by omega)
   clear c6
   (first | rw [c6b0] | (simp only [i64_w, i32_w]; rw [c6b0]) | rw [c6b1] | skip)
   by_cases c7 : (l2.length : Int) ≤ 5000
   ·rw [if_pos c7] at H
    have c7b0 : decide ((l2.length : Int) ≤ 5000) = true := decide_eq_true c7
    have c7b1 : decide (l2.length ≤ 5000) = true := decide_eq_true (by omega)
    clear c7
    by_cases c8 : (wrap64 ((l1.length : Int) * (l2.length : Int))) > 10000
    ·rw [if_pos c8] at H
     have c8b0 : decide (10000 < (wrap64 ((l1.length : Int) * (l2.length : Int)))) = true := decide_eq_true c8
     clear c8
     have H' := zA H
     clear H
     go_wp2
     go_meet
     case rel => exact ⟨_, (decide ((wrap64 ((l1.length : Int) + (l2.length : Int))) ≤ 4098)), zR, H', zL, ⟨zK BK1410⟩, ⟨zB⟩⟩
    ·rw [if_neg c8] at H
     have c8b0 : decide (10000 < (wrap64 ((l1.length : Int) * (l2.length : Int)))) = false := decide_eq_false c8
     clear c8
     have H' := zA H
     clear H
     go_wp2
     go_meet
     case rel => exact ⟨_, (false), zR, H', zL, ⟨zK BK1410⟩, ⟨zB⟩⟩
   ·rw [if_neg c7] at H
    have c7b0 : decide ((l2.length : Int) ≤ 5000) = false := decide_eq_false c7
    have c7b1 : decide (l2.length ≤ 5000) = false := decide_eq_false (by omega)
    clear c7
    have H' := zA H
    clear H
    go_wp2
    go_meet
    case rel => exact ⟨_, (false), zR, H', zL, ⟨zK BK1410⟩, ⟨zB⟩⟩
  ·rw [if_neg c6] at H
   have c6b0 : decide ((l1.length : Int) ≤ 5000) = false := decide_eq_false c6
   have c6b1 : decide (l1.length ≤ 5000) = false := decide_eq_false (by omega)
   clear c6
   (first | rw [c6b0] | (simp only [i64_w, i32_w]; rw [c6b0]) | rw [c6b1] | skip)
   have H' := zA H
   clear H
   go_wp2
   go_meet
   case rel => exact ⟨_, (false), zR, H', zL, ⟨zK BK1410⟩, ⟨zB⟩⟩
 case rest =>
  clear HC4
  try clear c1
  try clear c2
  try clear p2
  try clear c6
  try clear c6b0
  try clear c6b1
  try clear p6
  try clear c7
  try clear c7b0
  try clear c7b1
  try clear c8
  try clear c8b0
  obtain ⟨kq, x34_3, rfl, HA, HJ3, BK1410, HB⟩ := hcut
  cases kq with
  | zero => exact absurd HA.out (by simp [barscanlaw05_PolynomialMultiplies.j0])
  | succ kj3 =>
   have H := HA.out
   clear HA
   simp only [barscanlaw05_PolynomialMultiplies.j0] at H
   by_cases c9 : x34_3 = true
   ·subst c9
    rw [if_pos rfl] at H
    obtain ⟨t1411, A10, H⟩ := zD H
    obtain rfl := Option.some.inj H
    go_wp2_with (first | ((with_reducible refine gate_callee (f := 48) rfl ?_); refine gL (some 35) Try.func48 #[] ?_; (with_reducible refine zCall (barscanlaw05_examples.calls kj3  t1411 _ A10.out) ?_); intro w11 hb; replace BK1410 := bB BK1410 hb; replace HB := bS hb; (try clear hb)))
    go_ret
    exact ⟨zE, zB⟩
   ·replace c9 := Bool.eq_false_iff.mpr c9
    subst c9
    rw [if_neg (show ¬ (false = true) by decide)] at H
    obtain ⟨⟨t1412, t1415⟩, A12, H⟩ := zD H
    dsimp only at H
    obtain ⟨⟨t1416, t1419⟩, A13, H⟩ := zD H
    dsimp only at H
    obtain ⟨t1420, A14, H⟩ := zD H
    by_cases c15 : t1420 = true
    ·subst c15
     rw [if_pos rfl] at H
     by_cases c16 : t1415 = t1419
     ·rw [if_pos c16] at H
      have c16b0 := beq_iff_eq.mpr c16
      have c16b1 := bne_eq_false_iff_eq.mpr c16
      clear c16
      obtain ⟨t1421, A17, H⟩ := zD H
      obtain rfl := Option.some.inj H
      (try clear z1410_0 z1410_1 z1410_2 f1410_0 f1410_1 f1410_2)
      obtain ⟨z1410_0, z1410_1, z1410_2, f1410_0, f1410_1, f1410_2⟩ := cz3 BK1410
      go_wp2_with (first | ((with_reducible refine gate_callee (f := 62) rfl ?_); refine gL (some 40) Try.func62 #[.agg #[.int .i64 a0_0, .int .i64 a0_1, .int .i64 a0_2], .slice A1 l1.length c1, .slice A2 l2.length c2] ?_; (with_reducible refine (polynomial_Mul.calls kj3 a0_0 a0_1 a0_2 _ _ l1 _ _ l2 t1412 t1415 _ ?side1 ?side2 ?side3 ?side4 A12.out).mono ?_); (case side1 => exact zN HR1); (case side2 => exact HC1.out); (case side3 => exact zN HR2); (case side4 => exact HC2.out); rintro e w19 ⟨v1413, rfl, ho0, hb⟩; refine ⟨_, rfl, ?_⟩; have HO1414 := Aside0.mk (Kd.R_lower ho0 (below_size zB)); replace BK1410 := bB BK1410 hb; replace HB := bS hb; (try clear hb); (try clear ho0); (try clear z1410_0 z1410_1 z1410_2 f1410_0 f1410_1 f1410_2); obtain ⟨z1410_0, z1410_1, z1410_2, f1410_0, f1410_1, f1410_2⟩ := cz3 BK1410) | ((with_reducible refine gate_callee (f := 63) rfl ?_); refine gL (some 47) Try.func63 #[.agg #[.int .i64 a0_0, .int .i64 a0_1, .int .i64 a0_2], .slice A1 l1.length c1, .slice A2 l2.length c2] ?_; (with_reducible refine (barscanref05_Mul.calls kj3 a0_0 a0_1 a0_2 _ _ l1 _ _ l2 t1416 t1419 _ ?side1 ?side2 ?side3 ?side4 A13.out).mono ?_); (case side1 => exact zN HR1); (case side2 => exact HC1.out); (case side3 => exact zN HR2); (case side4 => exact HC2.out); rintro e w21 ⟨v1417, rfl, ho0, hb⟩; refine ⟨_, rfl, ?_⟩; have HO1418 := Aside0.mk (Kd.R_lower (Kd.R_new' ho0 (Kd.R_lt (zO HO1414))) (below_size zB)); replace HO1414 := Aside0.mk (Kd.R_elder' (zO HO1414) (Kd.R_base ho0) hb); replace BK1410 := bB BK1410 hb; replace HB := bS hb; (try clear hb); (try clear ho0); obtain ⟨Ao22, co22, eo22⟩ := Kd.R_slice HO1414.out; subst eo22; obtain ⟨Ao23, co23, eo23⟩ := Kd.R_slice HO1418.out; subst eo23) | ((with_reducible refine gate_callee (f := 55) rfl ?_); refine gL (some 52) Try.func55 #[.slice Ao22 t1412.length co22, .slice Ao23 t1416.length co23] ?_; (with_reducible refine (barscanlaw05_same.calls kj3 _ _ t1412 _ _ t1416 true _ ?side1 ?side2 ?side3 ?side4 A14.out).mono ?_); (case side1 => exact zN HO1414); (case side2 => exact (Kd.R_reads' HO1414.out).2.1); (case side3 => exact zN HO1418); (case side4 => exact (Kd.R_reads' HO1418.out).2.1); rintro e w' ⟨rfl, ⟨nd, rfl⟩⟩; refine ⟨_, rfl, ?_⟩) | (go_at_call 48; (with_reducible refine (barscanlaw05_examples.calls kj3  t1421 _ A17.out).mono ?_); rintro e w24 ⟨rfl, hb⟩; replace HO1414 := Aside0.mk (Kd.R_below (zO HO1414) hb); replace HO1418 := Aside0.mk (Kd.R_below (zO HO1418) hb); replace BK1410 := bB BK1410 hb; replace HB := bS hb; (try clear hb)))
      go_ret
      exact ⟨zE, zB⟩
     ·rw [if_neg c16] at H
      have c16b0 := beq_eq_false_iff_ne.mpr c16
      have c16b1 := bne_iff_ne.mpr c16
      obtain rfl := Option.some.inj H
      (try clear z1410_0 z1410_1 z1410_2 f1410_0 f1410_1 f1410_2)
      obtain ⟨z1410_0, z1410_1, z1410_2, f1410_0, f1410_1, f1410_2⟩ := cz3 BK1410
      go_wp2_with (first | ((with_reducible refine gate_callee (f := 62) rfl ?_); refine gL (some 40) Try.func62 #[.agg #[.int .i64 a0_0, .int .i64 a0_1, .int .i64 a0_2], .slice A1 l1.length c1, .slice A2 l2.length c2] ?_; (with_reducible refine (polynomial_Mul.calls kj3 a0_0 a0_1 a0_2 _ _ l1 _ _ l2 t1412 t1415 _ ?side1 ?side2 ?side3 ?side4 A12.out).mono ?_); (case side1 => exact zN HR1); (case side2 => exact HC1.out); (case side3 => exact zN HR2); (case side4 => exact HC2.out); rintro e w26 ⟨v1413, rfl, ho0, hb⟩; refine ⟨_, rfl, ?_⟩; have HO1414 := Aside0.mk (Kd.R_lower ho0 (below_size zB)); replace BK1410 := bB BK1410 hb; replace HB := bS hb; (try clear hb); (try clear ho0); (try clear z1410_0 z1410_1 z1410_2 f1410_0 f1410_1 f1410_2); obtain ⟨z1410_0, z1410_1, z1410_2, f1410_0, f1410_1, f1410_2⟩ := cz3 BK1410) | ((with_reducible refine gate_callee (f := 63) rfl ?_); refine gL (some 47) Try.func63 #[.agg #[.int .i64 a0_0, .int .i64 a0_1, .int .i64 a0_2], .slice A1 l1.length c1, .slice A2 l2.length c2] ?_; (with_reducible refine (barscanref05_Mul.calls kj3 a0_0 a0_1 a0_2 _ _ l1 _ _ l2 t1416 t1419 _ ?side1 ?side2 ?side3 ?side4 A13.out).mono ?_); (case side1 => exact zN HR1); (case side2 => exact HC1.out); (case side3 => exact zN HR2); (case side4 => exact HC2.out); rintro e w28 ⟨v1417, rfl, ho0, hb⟩; refine ⟨_, rfl, ?_⟩; have HO1418 := Aside0.mk (Kd.R_lower (Kd.R_new' ho0 (Kd.R_lt (zO HO1414))) (below_size zB)); replace HO1414 := Aside0.mk (Kd.R_elder' (zO HO1414) (Kd.R_base ho0) hb); replace BK1410 := bB BK1410 hb; replace HB := bS hb; (try clear hb); (try clear ho0); obtain ⟨Ao29, co29, eo29⟩ := Kd.R_slice HO1414.out; subst eo29; obtain ⟨Ao30, co30, eo30⟩ := Kd.R_slice HO1418.out; subst eo30) | ((with_reducible refine gate_callee (f := 55) rfl ?_); refine gL (some 52) Try.func55 #[.slice Ao29 t1412.length co29, .slice Ao30 t1416.length co30] ?_; (with_reducible refine (barscanlaw05_same.calls kj3 _ _ t1412 _ _ t1416 true _ ?side1 ?side2 ?side3 ?side4 A14.out).mono ?_); (case side1 => exact zN HO1414); (case side2 => exact (Kd.R_reads' HO1414.out).2.1); (case side3 => exact zN HO1418); (case side4 => exact (Kd.R_reads' HO1418.out).2.1); rintro e w' ⟨rfl, ⟨nd, rfl⟩⟩; refine ⟨_, rfl, ?_⟩))
      go_ret
      exact ⟨zE, zB⟩
    ·replace c15 := Bool.eq_false_iff.mpr c15
     subst c15
     rw [if_neg (show ¬ (false = true) by decide)] at H
     obtain rfl := Option.some.inj H
     (try clear z1410_0 z1410_1 z1410_2 f1410_0 f1410_1 f1410_2)
     obtain ⟨z1410_0, z1410_1, z1410_2, f1410_0, f1410_1, f1410_2⟩ := cz3 BK1410
     go_wp2_with (first | ((with_reducible refine gate_callee (f := 62) rfl ?_); refine gL (some 40) Try.func62 #[.agg #[.int .i64 a0_0, .int .i64 a0_1, .int .i64 a0_2], .slice A1 l1.length c1, .slice A2 l2.length c2] ?_; (with_reducible refine (polynomial_Mul.calls kj3 a0_0 a0_1 a0_2 _ _ l1 _ _ l2 t1412 t1415 _ ?side1 ?side2 ?side3 ?side4 A12.out).mono ?_); (case side1 => exact zN HR1); (case side2 => exact HC1.out); (case side3 => exact zN HR2); (case side4 => exact HC2.out); rintro e w32 ⟨v1413, rfl, ho0, hb⟩; refine ⟨_, rfl, ?_⟩; have HO1414 := Aside0.mk (Kd.R_lower ho0 (below_size zB)); replace BK1410 := bB BK1410 hb; replace HB := bS hb; (try clear hb); (try clear ho0); (try clear z1410_0 z1410_1 z1410_2 f1410_0 f1410_1 f1410_2); obtain ⟨z1410_0, z1410_1, z1410_2, f1410_0, f1410_1, f1410_2⟩ := cz3 BK1410) | ((with_reducible refine gate_callee (f := 63) rfl ?_); refine gL (some 47) Try.func63 #[.agg #[.int .i64 a0_0, .int .i64 a0_1, .int .i64 a0_2], .slice A1 l1.length c1, .slice A2 l2.length c2] ?_; (with_reducible refine (barscanref05_Mul.calls kj3 a0_0 a0_1 a0_2 _ _ l1 _ _ l2 t1416 t1419 _ ?side1 ?side2 ?side3 ?side4 A13.out).mono ?_); (case side1 => exact zN HR1); (case side2 => exact HC1.out); (case side3 => exact zN HR2); (case side4 => exact HC2.out); rintro e w34 ⟨v1417, rfl, ho0, hb⟩; refine ⟨_, rfl, ?_⟩; have HO1418 := Aside0.mk (Kd.R_lower (Kd.R_new' ho0 (Kd.R_lt (zO HO1414))) (below_size zB)); replace HO1414 := Aside0.mk (Kd.R_elder' (zO HO1414) (Kd.R_base ho0) hb); replace BK1410 := bB BK1410 hb; replace HB := bS hb; (try clear hb); (try clear ho0); obtain ⟨Ao35, co35, eo35⟩ := Kd.R_slice HO1414.out; subst eo35; obtain ⟨Ao36, co36, eo36⟩ := Kd.R_slice HO1418.out; subst eo36) | ((with_reducible refine gate_callee (f := 55) rfl ?_); refine gL (some 52) Try.func55 #[.slice Ao35 t1412.length co35, .slice Ao36 t1416.length co36] ?_; (with_reducible refine (barscanlaw05_same.calls kj3 _ _ t1412 _ _ t1416 false _ ?side1 ?side2 ?side3 ?side4 A14.out).mono ?_); (case side1 => exact zN HO1414); (case side2 => exact (Kd.R_reads' HO1414.out).2.1); (case side3 => exact zN HO1418); (case side4 => exact (Kd.R_reads' HO1418.out).2.1); rintro e w' ⟨rfl, ⟨nd, rfl⟩⟩; refine ⟨_, rfl, ?_⟩))
     go_ret
     exact ⟨zE, zB⟩
end Go.Proofs.Ytlhaclammaaabaa.Pg
