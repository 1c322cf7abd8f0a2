-- Written by a program of this session over the print of the kit.
import Derived.Test.YtlhaclammaaabaaY
import Derived.Test.YtlhaclammaaabaaB1
import Derived.Test.YtlhaclammaaabaaB4
import Derived.Test.YtlhaclammaaabaaB5
import Derived.Test.YtlhaclammaaabaaB20
import Derived.Test.YtlhaclammaaabaaB37
namespace Go.Proofs.Ytlhaclammaaabaa.Pg
open Go.RowKit Go.Proofs.YtlhaclammaaabaaW.PrintWords Go.Proofs.YtlhaclammaaabaaW.PrintLast Go.Proofs.YtlhaclammaaabaaW.PrintMore
attribute [local go_sem] max2_int min2_int max_two min_two max_three min_three max_four min_four
set_option linter.unusedVariables false
set_option maxHeartbeats 8000000
set_option maxRecDepth 100000
set_option linter.unusedSimpArgs false
/-! ### barscanlaw05_PolynomialDivides: function 15 -/
def barscanlaw05_PolynomialDivides.f (k : Nat) (a0_0 : Int) (a0_1 : Int) (a0_2 : Int) (l1 : List Int) (l2 : List Int) : Option (Bool) := if (l1.length : Int) > 100 then ((barscanlaw05_examples.f k).bind fun t1579 => (some t1579)) else (if (l2.length : Int) > 100 then ((barscanlaw05_examples.f k).bind fun t1580 => (some t1580)) else ((polynomial_DivMod.f k a0_0 a0_1 a0_2 l1 l2).bind fun bt1581 => ((barscanref05_DivMod.f k a0_0 a0_1 a0_2 l1 l2).bind fun bt1588 => ((polynomial_GCD.f k a0_0 a0_1 a0_2 l1 l2).bind fun bt1595 => ((barscanref05_GCD.f k a0_0 a0_1 a0_2 l1 l2).bind fun bt1599 => ((barscanlaw05_same.f k bt1581.1 bt1588.1).bind fun t1603 => (if t1603 = true then ((barscanlaw05_same.f k bt1581.2.1 bt1588.2.1).bind fun t1604 => (if t1604 = true then (if bt1581.2.2 = bt1588.2.2 then ((barscanlaw05_same.f k bt1595.1 bt1599.1).bind fun t1605 => (if t1605 = true then (if bt1595.2 = bt1599.2 then ((barscanlaw05_examples.f k).bind fun t1606 => (some t1606)) else (none)) else (none))) else (none)) else (none))) else (none))))))))
theorem barscanlaw05_PolynomialDivides.mono : ∀ a0 a1 a2 a3 a4 k, LeO (barscanlaw05_PolynomialDivides.f k a0 a1 a2 a3 a4) (barscanlaw05_PolynomialDivides.f (k + 1) a0 a1 a2 a3 a4) := by
 intro a0 a1 a2 a3 a4 k
 unfold barscanlaw05_PolynomialDivides.f
 have m0_ := @barscanlaw05_examples.mono
 have m1_ := @barscanlaw05_same.mono
 have m2_ := @barscanref05_DivMod.mono
 have m3_ := @barscanref05_GCD.mono
 have m4_ := @polynomial_DivMod.mono
 have m5_ := @polynomial_GCD.mono
 exact zMo
theorem barscanlaw05_PolynomialDivides.calls (k : Nat) (a0_0 : Int) (a0_1 : Int) (a0_2 : Int) (A1 : Option Addr) (c1 : Nat) (l1 : List Int) (A2 : Option Addr) (c2 : Nat) (l2 : List Int) (r : Bool) (w : World) (hr1 : Kd.C (Kd.int .i64) w A1 l1.length l1) (hc1 : l1.length ≤ c1) (hr2 : Kd.C (Kd.int .i64) w A2 l2.length l2) (hc2 : l2.length ≤ c2) (h : barscanlaw05_PolynomialDivides.f k a0_0 a0_1 a0_2 l1 l2 = some r) :
  Calls Try.prog 15 #[.agg #[.int .i64 a0_0, .int .i64 a0_1, .int .i64 a0_2], .slice A1 l1.length c1, .slice A2 l2.length c2] w fun e w' => e = .returned (.bool r) ∧ Below w.heap.size w w' := by
 have hu23 := Try.underlying23
 have HR1 := Aside0.mk hr1
 have HC1 := Aside0.mk hc1
 clear hr1 hc1
 have HR2 := Aside0.mk hr2
 have HC2 := Aside0.mk hc2
 clear hr2 hc2
 have HB := Aside0.mk (Below.refl w.heap.size w)
 have H := h
 unfold barscanlaw05_PolynomialDivides.f at H
 clear h
 by_cases c4 : (l1.length : Int) > 100
 ·rw [if_pos c4] at H
  have c4b0 : decide (100 < (l1.length : Int)) = true := decide_eq_true c4
  have c4b1 : decide (100 < l1.length) = true := decide_eq_true (by omega)
  clear c4
  obtain ⟨t1579, A5, H⟩ := zD H
  obtain rfl := Option.some.inj H
  go_enter Try.func15, Try.ntmps15
  go_wp2_with (first | ((with_reducible refine gate_dst (N := 3) rfl ?_); (try (refine gate_guard (by rfl) ?_; dsimp only)); refine zBox 3 #[.int .i64 a0_0, .int .i64 a0_1, .int .i64 a0_2] 23 ?_; clear HB; intro gb1578 w6 BK1578 GE1578 HB) | ((with_reducible refine gate_callee (f := 48) rfl ?_); refine gL (some 25) Try.func48 #[] ?_; (with_reducible refine zCall (barscanlaw05_examples.calls k  t1579 _ A5.out) ?_); intro w7 hb; replace BK1578 := bB BK1578 hb; replace HB := bS hb; (try clear hb)))
  go_ret
  exact ⟨zE, zB⟩
 ·rw [if_neg c4] at H
  have c4b0 : decide (100 < (l1.length : Int)) = false := decide_eq_false c4
  have c4b1 : decide (100 < l1.length) = false := decide_eq_false (by omega)
  clear c4
  by_cases c8 : (l2.length : Int) > 100
  ·rw [if_pos c8] at H
   have c8b0 : decide (100 < (l2.length : Int)) = true := decide_eq_true c8
   have c8b1 : decide (100 < l2.length) = true := decide_eq_true (by omega)
   clear c8
   obtain ⟨t1580, A9, H⟩ := zD H
   obtain rfl := Option.some.inj H
   go_enter Try.func15, Try.ntmps15
   go_wp2_with (first | ((with_reducible refine gate_dst (N := 3) rfl ?_); (try (refine gate_guard (by rfl) ?_; dsimp only)); refine zBox 3 #[.int .i64 a0_0, .int .i64 a0_1, .int .i64 a0_2] 23 ?_; clear HB; intro gb1578 w10 BK1578 GE1578 HB) | ((with_reducible refine gate_callee (f := 48) rfl ?_); refine gL (some 25) Try.func48 #[] ?_; (with_reducible refine zCall (barscanlaw05_examples.calls k  t1580 _ A9.out) ?_); intro w11 hb; replace BK1578 := bB BK1578 hb; replace HB := bS hb; (try clear hb)))
   go_ret
   exact ⟨zE, zB⟩
  ·rw [if_neg c8] at H
   have c8b0 : decide (100 < (l2.length : Int)) = false := decide_eq_false c8
   have c8b1 : decide (100 < l2.length) = false := decide_eq_false (by omega)
   clear c8
   obtain ⟨⟨t1581, t1584, t1587⟩, A12, H⟩ := zD H
   dsimp only at H
   obtain ⟨⟨t1588, t1591, t1594⟩, A13, H⟩ := zD H
   dsimp only at H
   obtain ⟨⟨t1595, t1598⟩, A14, H⟩ := zD H
   dsimp only at H
   obtain ⟨⟨t1599, t1602⟩, A15, H⟩ := zD H
   dsimp only at H
   obtain ⟨t1603, A16, H⟩ := zD H
   by_cases c17 : t1603 = true
   ·subst c17
    rw [if_pos rfl] at H
    obtain ⟨t1604, A18, H⟩ := zD H
    by_cases c19 : t1604 = true
    ·subst c19
     rw [if_pos rfl] at H
     by_cases c20 : t1587 = t1594
     ·rw [if_pos c20] at H
      have c20b0 := beq_iff_eq.mpr c20
      have c20b1 := bne_eq_false_iff_eq.mpr c20
      clear c20
      obtain ⟨t1605, A21, H⟩ := zD H
      by_cases c22 : t1605 = true
      ·subst c22
       rw [if_pos rfl] at H
       by_cases c23 : t1598 = t1602
       ·rw [if_pos c23] at H
        have c23b0 := beq_iff_eq.mpr c23
        have c23b1 := bne_eq_false_iff_eq.mpr c23
        clear c23
        obtain ⟨t1606, A24, H⟩ := zD H
        obtain rfl := Option.some.inj H
        go_enter Try.func15, Try.ntmps15
        go_wp2_with (first | ((with_reducible refine gate_dst (N := 3) rfl ?_); (try (refine gate_guard (by rfl) ?_; dsimp only)); refine zBox 3 #[.int .i64 a0_0, .int .i64 a0_1, .int .i64 a0_2] 23 ?_; clear HB; intro gb1578 w25 BK1578 GE1578 HB; (try clear z1578_0 z1578_1 z1578_2 f1578_0 f1578_1 f1578_2); obtain ⟨z1578_0, z1578_1, z1578_2, f1578_0, f1578_1, f1578_2⟩ := cz3 BK1578) | ((with_reducible refine gate_callee (f := 66) rfl ?_); refine gL (some 30) Try.func66 #[.agg #[.int .i64 a0_0, .int .i64 a0_1, .int .i64 a0_2], .slice A1 l1.length c1, .slice A2 l2.length c2] ?_; (with_reducible refine (polynomial_DivMod.calls k a0_0 a0_1 a0_2 _ _ l1 _ _ l2 t1581 t1584 t1587 _ ?side1 ?side2 ?side3 ?side4 A12.out).mono ?_); (case side1 => exact zN HR1); (case side2 => exact HC1.out); (case side3 => exact zN HR2); (case side4 => exact HC2.out); rintro e w27 ⟨v1582, v1585, rfl, ho0, ho1, hb⟩; refine ⟨_, rfl, ?_⟩; have HO1583 := Aside0.mk (Kd.R_lower ho0 (below_size zB)); have HO1586 := Aside0.mk (Kd.R_lower ho1 (below_size zB)); replace BK1578 := bB BK1578 hb; replace HB := bS hb; (try clear hb); (try clear ho0); (try clear ho1); (try clear z1578_0 z1578_1 z1578_2 f1578_0 f1578_1 f1578_2); obtain ⟨z1578_0, z1578_1, z1578_2, f1578_0, f1578_1, f1578_2⟩ := cz3 BK1578) | ((with_reducible refine gate_callee (f := 67) rfl ?_); refine gL (some 38) Try.func67 #[.agg #[.int .i64 a0_0, .int .i64 a0_1, .int .i64 a0_2], .slice A1 l1.length c1, .slice A2 l2.length c2] ?_; (with_reducible refine (barscanref05_DivMod.calls k a0_0 a0_1 a0_2 _ _ l1 _ _ l2 t1588 t1591 t1594 _ ?side1 ?side2 ?side3 ?side4 A13.out).mono ?_); (case side1 => exact zN HR1); (case side2 => exact HC1.out); (case side3 => exact zN HR2); (case side4 => exact HC2.out); rintro e w29 ⟨v1589, v1592, rfl, ho0, ho1, hb⟩; refine ⟨_, rfl, ?_⟩; have HO1590 := Aside0.mk (Kd.R_lower (Kd.R_new' (Kd.R_new' ho0 (Kd.R_lt (zO HO1583))) (Kd.R_lt (zO HO1586))) (below_size zB)); have HO1593 := Aside0.mk (Kd.R_lower (Kd.R_new' (Kd.R_new' ho1 (Kd.R_lt (zO HO1583))) (Kd.R_lt (zO HO1586))) (below_size zB)); replace HO1583 := Aside0.mk (Kd.R_mono (Kd.R_told (Kd.R_told (Kd.R_old (zO HO1583) hb) (Kd.R_base ho0)) (Kd.R_base ho1)) (fun _ h_ => h_.1)); replace HO1586 := Aside0.mk (Kd.R_mono (Kd.R_told (Kd.R_told (Kd.R_old (zO HO1586) hb) (Kd.R_base ho0)) (Kd.R_base ho1)) (fun _ h_ => h_.1)); replace BK1578 := bB BK1578 hb; replace HB := bS hb; (try clear hb); (try clear ho0); (try clear ho1); (try clear z1578_0 z1578_1 z1578_2 f1578_0 f1578_1 f1578_2); obtain ⟨z1578_0, z1578_1, z1578_2, f1578_0, f1578_1, f1578_2⟩ := cz3 BK1578) | ((with_reducible refine gate_callee (f := 68) rfl ?_); refine gL (some 46) Try.func68 #[.agg #[.int .i64 a0_0, .int .i64 a0_1, .int .i64 a0_2], .slice A1 l1.length c1, .slice A2 l2.length c2] ?_; (with_reducible refine (polynomial_GCD.calls k a0_0 a0_1 a0_2 (fun k_ => k_ < w.heap.size) _ _ l1 (fun k_ => k_ < w.heap.size) _ _ l2 t1595 t1598 _ ?side1 ?side2 A14.out).mono ?_); (case side1 => exact Kd.V_mk HC1.out (Kd.F_below (Kd.C_F (Kd.heap_int .i64) HR1.out) zB)); (case side2 => exact Kd.V_mk HC2.out (Kd.F_below (Kd.C_F (Kd.heap_int .i64) HR2.out) zB)); rintro e w31 ⟨v1596, rfl, ho0, hb⟩; refine ⟨_, rfl, ?_⟩; have HO1597 := Aside0.mk (Kd.R_lower (Kd.R_new' (Kd.R_new' (Kd.R_new' (Kd.R_new' (Kd.R_mono (ok' := fun k_ => True) ho0 (fun _ hk_ => trivial)) (Kd.R_lt (zO HO1583))) (Kd.R_lt (zO HO1586))) (Kd.R_lt (zO HO1590))) (Kd.R_lt (zO HO1593))) (below_size zB)); replace HO1583 := Aside0.mk (Kd.R_elder' (zO HO1583) (Kd.R_base ho0) hb); replace HO1586 := Aside0.mk (Kd.R_elder' (zO HO1586) (Kd.R_base ho0) hb); replace HO1590 := Aside0.mk (Kd.R_elder' (zO HO1590) (Kd.R_base ho0) hb); replace HO1593 := Aside0.mk (Kd.R_elder' (zO HO1593) (Kd.R_base ho0) hb); replace BK1578 := bB BK1578 hb; replace HB := bS hb; (try clear hb); (try clear ho0); (try clear z1578_0 z1578_1 z1578_2 f1578_0 f1578_1 f1578_2); obtain ⟨z1578_0, z1578_1, z1578_2, f1578_0, f1578_1, f1578_2⟩ := cz3 BK1578) | ((with_reducible refine gate_callee (f := 69) rfl ?_); refine gL (some 53) Try.func69 #[.agg #[.int .i64 a0_0, .int .i64 a0_1, .int .i64 a0_2], .slice A1 l1.length c1, .slice A2 l2.length c2] ?_; (with_reducible refine (barscanref05_GCD.calls k a0_0 a0_1 a0_2 (fun k_ => k_ < w.heap.size) _ _ l1 (fun k_ => k_ < w.heap.size) _ _ l2 t1599 t1602 _ ?side1 ?side2 A15.out).mono ?_); (case side1 => exact Kd.V_mk HC1.out (Kd.F_below (Kd.C_F (Kd.heap_int .i64) HR1.out) zB)); (case side2 => exact Kd.V_mk HC2.out (Kd.F_below (Kd.C_F (Kd.heap_int .i64) HR2.out) zB)); rintro e w33 ⟨v1600, rfl, ho0, hb⟩; refine ⟨_, rfl, ?_⟩; have HO1601 := Aside0.mk (Kd.R_lower (Kd.R_new' (Kd.R_new' (Kd.R_new' (Kd.R_new' (Kd.R_new' (Kd.R_mono (ok' := fun k_ => True) ho0 (fun _ hk_ => trivial)) (Kd.R_lt (zO HO1583))) (Kd.R_lt (zO HO1586))) (Kd.R_lt (zO HO1590))) (Kd.R_lt (zO HO1593))) (Kd.R_lt (zO HO1597))) (below_size zB)); replace HO1583 := Aside0.mk (Kd.R_elder' (zO HO1583) (Kd.R_base ho0) hb); replace HO1586 := Aside0.mk (Kd.R_elder' (zO HO1586) (Kd.R_base ho0) hb); replace HO1590 := Aside0.mk (Kd.R_elder' (zO HO1590) (Kd.R_base ho0) hb); replace HO1593 := Aside0.mk (Kd.R_elder' (zO HO1593) (Kd.R_base ho0) hb); replace HO1597 := Aside0.mk (Kd.R_elder' (zO HO1597) (Kd.R_base ho0) hb); replace BK1578 := bB BK1578 hb; replace HB := bS hb; (try clear hb); (try clear ho0); obtain ⟨Ao34, co34, eo34⟩ := Kd.R_slice HO1583.out; subst eo34; obtain ⟨Ao35, co35, eo35⟩ := Kd.R_slice HO1590.out; subst eo35) | ((with_reducible refine gate_callee (f := 55) rfl ?_); refine gL (some 58) Try.func55 #[.slice Ao34 t1581.length co34, .slice Ao35 t1588.length co35] ?_; (with_reducible refine (barscanlaw05_same.calls k _ _ t1581 _ _ t1588 true _ ?side1 ?side2 ?side3 ?side4 A16.out).mono ?_); (case side1 => exact zN HO1583); (case side2 => exact (Kd.R_reads' HO1583.out).2.1); (case side3 => exact zN HO1590); (case side4 => exact (Kd.R_reads' HO1590.out).2.1); rintro e w' ⟨rfl, ⟨nd, rfl⟩⟩; refine ⟨_, rfl, ?_⟩; obtain ⟨Ao36, co36, eo36⟩ := Kd.R_slice HO1586.out; subst eo36; obtain ⟨Ao37, co37, eo37⟩ := Kd.R_slice HO1593.out; subst eo37) | (go_at_call 55; (with_reducible refine (barscanlaw05_same.calls k _ _ t1584 _ _ t1591 true _ ?side1 ?side2 ?side3 ?side4 A18.out).mono ?_); (case side1 => exact zN HO1586); (case side2 => exact (Kd.R_reads' HO1586.out).2.1); (case side3 => exact zN HO1593); (case side4 => exact (Kd.R_reads' HO1593.out).2.1); rintro e w' ⟨rfl, ⟨nd, rfl⟩⟩; obtain ⟨Ao38, co38, eo38⟩ := Kd.R_slice HO1597.out; subst eo38; obtain ⟨Ao39, co39, eo39⟩ := Kd.R_slice HO1601.out; subst eo39) | (go_at_call 55; (with_reducible refine (barscanlaw05_same.calls k _ _ t1595 _ _ t1599 true _ ?side1 ?side2 ?side3 ?side4 A21.out).mono ?_); (case side1 => exact zN HO1597); (case side2 => exact (Kd.R_reads' HO1597.out).2.1); (case side3 => exact zN HO1601); (case side4 => exact (Kd.R_reads' HO1601.out).2.1); rintro e w' ⟨rfl, ⟨nd, rfl⟩⟩) | (go_at_call 48; (with_reducible refine (barscanlaw05_examples.calls k  t1606 _ A24.out).mono ?_); rintro e w40 ⟨rfl, hb⟩; replace HO1583 := Aside0.mk (Kd.R_below (zO HO1583) hb); replace HO1586 := Aside0.mk (Kd.R_below (zO HO1586) hb); replace HO1590 := Aside0.mk (Kd.R_below (zO HO1590) hb); replace HO1593 := Aside0.mk (Kd.R_below (zO HO1593) hb); replace HO1597 := Aside0.mk (Kd.R_below (zO HO1597) hb); replace HO1601 := Aside0.mk (Kd.R_below (zO HO1601) hb); replace BK1578 := bB BK1578 hb; replace HB := bS hb; (try clear hb)))
        go_ret
        exact ⟨zE, zB⟩
       ·rw [if_neg c23] at H
        exact absurd H (by simp)
      ·replace c22 := Bool.eq_false_iff.mpr c22
       subst c22
       rw [if_neg (show ¬ (false = true) by decide)] at H
       exact absurd H (by simp)
     ·rw [if_neg c20] at H
      exact absurd H (by simp)
    ·replace c19 := Bool.eq_false_iff.mpr c19
     subst c19
     rw [if_neg (show ¬ (false = true) by decide)] at H
     exact absurd H (by simp)
   ·replace c17 := Bool.eq_false_iff.mpr c17
    subst c17
    rw [if_neg (show ¬ (false = true) by decide)] at H
    exact absurd H (by simp)
end Go.Proofs.Ytlhaclammaaabaa.Pg
