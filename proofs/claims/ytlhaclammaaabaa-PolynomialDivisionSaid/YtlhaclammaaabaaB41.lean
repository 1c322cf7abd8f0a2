-- Written by a program of this session over the print of the kit.
import Derived.Test.YtlhaclammaaabaaY
import Derived.Test.YtlhaclammaaabaaB1
import Derived.Test.YtlhaclammaaabaaB5
import Derived.Test.YtlhaclammaaabaaB20
import Derived.Test.YtlhaclammaaabaaB26
import Derived.Test.YtlhaclammaaabaaB40
import Derived.Test.YtlhaclammaaabaaHValid
namespace Go.Proofs.Ytlhaclammaaabaa.Pg
open Go.RowKit Go.Proofs.YtlhaclammaaabaaW.PrintWords Go.Proofs.YtlhaclammaaabaaW.PrintLast Go.Proofs.YtlhaclammaaabaaW.PrintMore
attribute [local go_sem] max2_int min2_int max_two min_two max_three min_three max_four min_four
set_option linter.unusedVariables false
set_option maxHeartbeats 8000000
set_option maxRecDepth 100000
set_option linter.unusedSimpArgs false
/-! ### barscanlaw05_PolynomialDivision: function 17 -/
def barscanlaw05_PolynomialDivision.f (k : Nat) (a0_0 : Int) (a0_1 : Int) (a0_2 : Int) (l1 : List Int) (l2 : List Int) (l3 : List Int) : Option (Bool) := (valid3.f k a0_0 a0_1 a0_2 100 l1 l2 l3).bind fun t1652 => (if t1652 = true then (if (l2.length : Int) = 0 then ((barscanlaw05_examples.f k).bind fun t1653 => (some t1653)) else (if 0 ≤ (mn (l3.length : Int) (wrap64 ((l2.length : Int) - 1))) then (if (mn (l3.length : Int) (wrap64 ((l2.length : Int) - 1))) ≤ (l3.length : Int) then ((polynomial_Trim.f k (l3.take ((mn (l3.length : Int) (wrap64 ((l2.length : Int) - 1))) : Int).toNat)).bind fun t1655 => ((barscanlaw05_mul.f k a0_0 a0_1 a0_2 l1 l2).bind fun t1658 => ((polynomial_Add.f k a0_0 a0_1 a0_2 t1658 t1655).bind fun bt1661 => ((polynomial_DivMod.f k a0_0 a0_1 a0_2 bt1661.1 l2).bind fun bt1665 => ((polynomial_DivMod.f k a0_0 a0_1 a0_2 bt1661.1 ([] : List Int)).bind fun bt1672 => (if bt1661.2 = 0 then (if bt1665.2.2 = 0 then ((barscanlaw05_same.f k bt1665.1 l1).bind fun t1679 => (if t1679 = true then ((barscanlaw05_same.f k bt1665.2.1 t1655).bind fun t1680 => (if t1680 = true then (if bt1672.2.2 = 12 then ((barscanlaw05_examples.f k).bind fun t1681 => (some t1681)) else (none)) else (none))) else (none))) else (none)) else (none))))))) else (none)) else (none))) else ((barscanlaw05_examples.f k).bind fun t1682 => (some t1682)))
theorem barscanlaw05_PolynomialDivision.mono : ∀ a0 a1 a2 a3 a4 a5 k, LeO (barscanlaw05_PolynomialDivision.f k a0 a1 a2 a3 a4 a5) (barscanlaw05_PolynomialDivision.f (k + 1) a0 a1 a2 a3 a4 a5) := by
 intro a0 a1 a2 a3 a4 a5 k
 unfold barscanlaw05_PolynomialDivision.f
 have m0_ := @barscanlaw05_examples.mono
 have m1_ := @barscanlaw05_mul.mono
 have m2_ := @barscanlaw05_same.mono
 have m3_ := @polynomial_Add.mono
 have m4_ := @polynomial_DivMod.mono
 have m5_ := @polynomial_Trim.mono
 have m6_ := @valid3.mono
 exact zMo
def barscanlaw05_PolynomialDivision.T5 : Bool × List (List Nat × List Nat) := (true, [([], []), ([], []), ([], []), ([], []), ([1, 2, 3], [1, 2, 3]), ([], []), ([0, 4, 5, 4], [0, 4, 5]), ([6], [6]), ([7], [7]), ([7], [7]), ([8, 6, 0, 1, 2, 3, 4, 5, 6, 7, 8], [8]), ([9, 10, 0, 1, 2, 3, 4, 5, 6, 7, 8, 9, 10], [9])])
def barscanlaw05_PolynomialDivision.B5 : List Nat := [0, 0, 0, 0, 14, 0, 63, 127, 255, 255, 511, 2047]
theorem barscanlaw05_PolynomialDivision.tab5 : rtab .any (opsOf Try.f17 5) = barscanlaw05_PolynomialDivision.T5 := by kernel_rfl
theorem barscanlaw05_PolynomialDivision.bits5 : waitsOk barscanlaw05_PolynomialDivision.T5.2 barscanlaw05_PolynomialDivision.B5 = true := by kernel_rfl
theorem barscanlaw05_PolynomialDivision.calls (k : Nat) (a0_0 : Int) (a0_1 : Int) (a0_2 : Int) (A1 : Option Addr) (c1 : Nat) (l1 : List Int) (A2 : Option Addr) (c2 : Nat) (l2 : List Int) (A3 : Option Addr) (c3 : Nat) (l3 : List Int) (r : Bool) (w : World) (hr1 : Kd.C (Kd.int .i64) w A1 l1.length l1) (hc1 : l1.length ≤ c1) (hr2 : Kd.C (Kd.int .i64) w A2 l2.length l2) (hc2 : l2.length ≤ c2) (hr3 : Kd.C (Kd.int .i64) w A3 l3.length l3) (hc3 : l3.length ≤ c3) (h : barscanlaw05_PolynomialDivision.f k a0_0 a0_1 a0_2 l1 l2 l3 = some r) :
  Calls Try.prog 17 #[.agg #[.int .i64 a0_0, .int .i64 a0_1, .int .i64 a0_2], .slice A1 l1.length c1, .slice A2 l2.length c2, .slice A3 l3.length c3] w fun e w' => e = .returned (.bool r) ∧ Below w.heap.size w w' := by
 have hu23 := Try.underlying23
 have HR1 := Aside0.mk hr1
 have HC1 := Aside0.mk hc1
 clear hr1 hc1
 have HR2 := Aside0.mk hr2
 have HC2 := Aside0.mk hc2
 clear hr2 hc2
 have HR3 := Aside0.mk hr3
 have HC3 := Aside0.mk hc3
 clear hr3 hc3
 have HB := Aside0.mk (Below.refl w.heap.size w)
 have H := h
 unfold barscanlaw05_PolynomialDivision.f at H
 clear h
 obtain ⟨t1652, A5, H⟩ := zD H
 by_cases c6 : t1652 = true
 ·subst c6
  rw [if_pos rfl] at H
  by_cases c7 : (l2.length : Int) = 0
  ·rw [if_pos c7] at H
   have c7b0 := beq_iff_eq.mpr c7
   have c7b1 := bne_eq_false_iff_eq.mpr c7
   clear c7
   obtain ⟨t1653, A8, H⟩ := zD H
   obtain rfl := Option.some.inj H
   go_enter Try.func17, Try.ntmps17
   go_wp2_with (first | ((with_reducible refine gate_dst (N := 4) rfl ?_); (try (refine gate_guard (by rfl) ?_; dsimp only)); refine zBox 4 #[.int .i64 a0_0, .int .i64 a0_1, .int .i64 a0_2] 23 ?_; clear HB; intro gb1651 w9 BK1651 GE1651 HB; (try clear z1651_0 z1651_1 z1651_2 f1651_0 f1651_1 f1651_2); obtain ⟨z1651_0, z1651_1, z1651_2, f1651_0, f1651_1, f1651_2⟩ := cz3 BK1651) | (go_at_call 47; (with_reducible refine (valid3.calls k a0_0 a0_1 a0_2 100 _ _ l1 _ _ l2 _ _ l3 true _ ?side1 ?side2 ?side3 ?side4 ?side5 ?side6 A5.out).mono ?_); (case side1 => exact zN HR1); (case side2 => exact HC1.out); (case side3 => exact zN HR2); (case side4 => exact HC2.out); (case side5 => exact zN HR3); (case side6 => exact HC3.out); rintro e w11 ⟨rfl, hb⟩; replace BK1651 := bB BK1651 hb; replace HB := bS hb; (try clear hb)) | ((with_reducible refine gate_callee (f := 48) rfl ?_); refine gL (some 29) Try.func48 #[] ?_; (with_reducible refine zCall (barscanlaw05_examples.calls k  t1653 _ A8.out) ?_); intro w12 hb; replace BK1651 := bB BK1651 hb; replace HB := bS hb; (try clear hb)))
   go_ret
   exact ⟨zE, zB⟩
  ·rw [if_neg c7] at H
   have c7b0 := beq_eq_false_iff_ne.mpr c7
   have c7b1 := bne_iff_ne.mpr c7
   have c7b2 : ¬ (l2 = []) := fun h_ => c7 (by rw [h_]; rfl)
   obtain ⟨ji13, hji13⟩ : ∃ j_ : Int, (mn (l3.length : Int) (wrap64 ((l2.length : Int) - 1))) = j_ := ⟨_, rfl⟩
   first | rw [hji13] at H | simp only [hji13] at H
   (try rw [hji13] at A5)
   have hji13_ : (if (wrap64 ((l2.length : Int) - 1)) < (l3.length : Int) then (wrap64 ((l2.length : Int) - 1)) else (l3.length : Int)) = ji13 := hji13
   by_cases c14 : 0 ≤ (ji13)
   ·rw [if_pos c14] at H
    have c14b0 := eq_true c14
    have c14b1 : decide (0 ≤ (ji13)) = true := decide_eq_true c14
    clear c14
    by_cases c15 : (ji13) ≤ (l3.length : Int)
    ·rw [if_pos c15] at H
     have c15b0 := eq_true c15
     have c15b1 : decide ((ji13) ≤ (l3.length : Int)) = true := decide_eq_true c15
     clear c15
     obtain ⟨t1655, A16, H⟩ := zD H
     obtain ⟨t1658, A17, H⟩ := zD H
     obtain ⟨⟨t1661, t1664⟩, A18, H⟩ := zD H
     dsimp only at H
     obtain ⟨⟨t1665, t1668, t1671⟩, A19, H⟩ := zD H
     dsimp only at H
     obtain ⟨⟨t1672, t1675, t1678⟩, A20, H⟩ := zD H
     dsimp only at H
     by_cases c21 : t1664 = 0
     ·rw [if_pos c21] at H
      have c21b0 := beq_iff_eq.mpr c21
      have c21b1 := bne_eq_false_iff_eq.mpr c21
      clear c21
      by_cases c22 : t1671 = 0
      ·rw [if_pos c22] at H
       have c22b0 := beq_iff_eq.mpr c22
       have c22b1 := bne_eq_false_iff_eq.mpr c22
       clear c22
       obtain ⟨t1679, A23, H⟩ := zD H
       by_cases c24 : t1679 = true
       ·subst c24
        rw [if_pos rfl] at H
        obtain ⟨t1680, A25, H⟩ := zD H
        by_cases c26 : t1680 = true
        ·subst c26
         rw [if_pos rfl] at H
         by_cases c27 : t1678 = 12
         ·rw [if_pos c27] at H
          have c27b0 := beq_iff_eq.mpr c27
          have c27b1 := bne_eq_false_iff_eq.mpr c27
          clear c27
          obtain ⟨t1681, A28, H⟩ := zD H
          obtain rfl := Option.some.inj H
          go_enter Try.func17, Try.ntmps17
          try go_wp2_with (first | ((with_reducible refine gate_dst (N := 4) rfl ?_); (try (refine gate_guard (by rfl) ?_; dsimp only)); refine zBox 4 #[.int .i64 a0_0, .int .i64 a0_1, .int .i64 a0_2] 23 ?_; clear HB; intro gb1651 w29 BK1651 GE1651 HB; (try clear z1651_0 z1651_1 z1651_2 f1651_0 f1651_1 f1651_2); obtain ⟨z1651_0, z1651_1, z1651_2, f1651_0, f1651_1, f1651_2⟩ := cz3 BK1651) | (go_at_call 47; (with_reducible refine (valid3.calls k a0_0 a0_1 a0_2 100 _ _ l1 _ _ l2 _ _ l3 true _ ?side1 ?side2 ?side3 ?side4 ?side5 ?side6 A5.out).mono ?_); (case side1 => exact zN HR1); (case side2 => exact HC1.out); (case side3 => exact zN HR2); (case side4 => exact HC2.out); (case side5 => exact zN HR3); (case side6 => exact HC3.out); rintro e w31 ⟨rfl, hb⟩; replace BK1651 := bB BK1651 hb; replace HB := bS hb; (try clear hb); obtain ⟨i032, hi032, _, hsz32, _⟩ := info_parts info3; obtain ⟨hcut32, hA32, hC32⟩ := print_take_of (P := Try.prog) (Value.int .i64) 0 45 3 .i64 Try.underlying45 hi032 hsz32 A3 c3 l3 (ji13) (of_decide_eq_true (by first | (with_reducible assumption) | assumption)) (of_decide_eq_true (by first | (with_reducible assumption) | assumption)) HC3.out; have HR1654 := Aside0.mk (show Kd.C (Kd.int .i64) _ _ _ _ from Kd.C_of_reads (h1 := fun _ => rfl) (hA32 _ (Kd.reads_of_C HR3.out))); have HC1654 := Aside0.mk hC32; clear hA32 hC32 hi032 hsz32) | ((with_reducible refine gate_callee (f := 70) rfl ?_); refine goesL_ (some 39) rfl rfl Try.func70 (by kernel_rfl) rfl #[.slice A3 (l3.take ((ji13) : Int).toNat).length c3] rfl (by (try simp only [List.map_toArray, List.map_cons, List.map_nil]); first | done | (rw [show (l3.take ((ji13) : Int).toNat).length = (ji13).toNat from (by rw [List.length_take]; have h_ : ((ji13) : Int) ≤ (l3.length : Int) := of_decide_eq_true (by first | (with_reducible assumption) | assumption); omega)] <;> rfl) | (simp only [hji13]; rfl) | rfl | (simp only [List.length_drop, List.length_take]; rfl)) ?_; (with_reducible refine (polynomial_Trim.calls k _ _ (l3.take ((ji13) : Int).toNat) t1655 _ ?side1 ?side2 A16.out).mono ?_); (case side1 => exact zN HR1654); (case side2 => exact HC1654.out); rintro e w33 ⟨v1656, rfl, ho0, hb⟩; refine ⟨_, rfl, ?_⟩; have HO1657 := Aside0.mk (Kd.R_lower ho0 (below_size zB)); replace BK1651 := bB BK1651 hb; replace HB := bS hb; (try clear hb); (try clear ho0)))
          replace HO1657 := Aside0.mk (Kd.R_drew HO1657.out)
          replace BK1651 := Aside0.mk (blk_drew BK1651.out)
          replace HB := Aside0.mk (below_drew1 HB.out)
          refine start_ (n := 12) (S := fun w' => w'.cell? ⟨gb1651, 0, none⟩ = some (.int .i64 a0_0) ∧ w'.cell? ⟨gb1651, 1, none⟩ = some (.int .i64 a0_1) ∧ w'.cell? ⟨gb1651, 2, none⟩ = some (.int .i64 a0_2)) (ds := []) #[false, false, false, false, false, false, false, false, false, false, false, false] (by kernel_rfl) rfl rfl zS (fun hHeld => ?_); refine with_tabW barscanlaw05_PolynomialDivision.tab5 barscanlaw05_PolynomialDivision.bits5 (fun HT_ HW_ => ?_)
          generalize w33.drew = w34 at HO1657 BK1651 HB hHeld ⊢
          refine pU 2 (some 43) ?_
          refine pU 3 (some 44) ?_
          refine pU 5 (some 46) ?_
          refine tU 0 (some 41) hHeld ?_
          refine tU 1 (some 42) hHeld ?_
          refine oU 4 (some 45) (fun K hK => ?_)
          refine goes_ Try.func54 (by kernel_rfl) rfl #[.agg #[.int .i64 a0_0, .int .i64 a0_1, .int .i64 a0_2], .slice A1 l1.length c1, .slice A2 l2.length c2] (by rfl) rfl rfl zM ?_
          with_reducible refine (barscanlaw05_mul.calls k a0_0 a0_1 a0_2 _ _ l1 _ _ l2 t1658 _ ?side1 ?side2 ?side3 ?side4 A17.out).mono ?_
          (case side1 => exact zN HR1)
          (case side2 => exact HC1.out)
          (case side3 => exact zN HR2)
          (case side4 => exact HC2.out)
          rintro e w35 ⟨v1659, rfl, ho0, hb⟩
          refine ⟨_, rfl, ?_⟩
          have HO1660 := Aside0.mk (Kd.R_lower (Kd.R_new' ho0 (Kd.R_lt (zO HO1657))) (below_size zB))
          replace HO1657 := Aside0.mk (Kd.R_elder' (zO HO1657) (Kd.R_base ho0) hb)
          replace BK1651 := bB BK1651 hb
          replace HB := bS hb
          (try clear hb)
          (try clear hb2)
          (try clear hk)
          (try clear hi)
          (try clear ho0)
          obtain ⟨Ao36, co36, eo36⟩ := Kd.R_slice HO1660.out
          (first | subst eo36 | (injection eo36 with f1_ f2_ f3_; have f4_ := f1_.symm; have f5_ := f3_.symm; clear f1_ f2_ f3_; subst f4_; subst f5_))
          obtain ⟨Ao37, co37, eo37⟩ := Kd.R_slice HO1657.out
          (first | subst eo37 | (injection eo37 with f1_ f2_ f3_; have f4_ := f1_.symm; have f5_ := f3_.symm; clear f1_ f2_ f3_; subst f4_; subst f5_))
          refine hK.out _ _ zS (fun hHeld => ?_)
          clear hK K
          refine nU ?_
          refine oU 6 (some 47) (fun K hK => ?_)
          refine goes_ Try.func71 (by kernel_rfl) rfl #[.agg #[.int .i64 a0_0, .int .i64 a0_1, .int .i64 a0_2], .slice Ao36 t1658.length co36, .slice Ao37 t1655.length co37] (by rfl) rfl rfl zM ?_
          with_reducible refine (polynomial_Add.calls k a0_0 a0_1 a0_2 _ _ t1658 _ _ t1655 t1661 t1664 _ ?side1 ?side2 ?side3 ?side4 A18.out).mono ?_
          (case side1 => exact zN HO1660)
          (case side2 => exact (Kd.R_reads' HO1660.out).2.1)
          (case side3 => exact zN HO1657)
          (case side4 => exact (Kd.R_reads' HO1657.out).2.1)
          rintro e w38 ⟨v1662, rfl, ho0, hb⟩
          refine ⟨_, rfl, ?_⟩
          have HO1663 := Aside0.mk (Kd.R_lower (Kd.R_new' (Kd.R_new' ho0 (Kd.R_lt (zO HO1657))) (Kd.R_lt (zO HO1660))) (below_size zB))
          replace HO1657 := Aside0.mk (Kd.R_elder' (zO HO1657) (Kd.R_base ho0) hb)
          replace HO1660 := Aside0.mk (Kd.R_elder' (zO HO1660) (Kd.R_base ho0) hb)
          replace BK1651 := bB BK1651 hb
          replace HB := bS hb
          (try clear hb)
          (try clear hb2)
          (try clear hk)
          (try clear hi)
          (try clear ho0)
          refine hK.out _ _ zS (fun hHeld => ?_)
          clear hK K
          refine nU ?_
          refine pU 7 (some 40) ?_
          refine pU 8 (some 48) ?_
          refine pU 9 (some 49) ?_
          refine pU 10 (some 9) ?_
          refine pU 11 (some 10) ?_
          refine dU ?_
          (try clear z1651_0 z1651_1 z1651_2 f1651_0 f1651_1 f1651_2)
          obtain ⟨z1651_0, z1651_1, z1651_2, f1651_0, f1651_1, f1651_2⟩ := cz3 BK1651
          obtain ⟨Ao40, co40, eo40⟩ := Kd.R_slice HO1663.out
          subst eo40
          try go_wp2_with (first | ((with_reducible refine gate_callee (f := 66) rfl ?_); refine gL (some 54) Try.func66 #[.agg #[.int .i64 a0_0, .int .i64 a0_1, .int .i64 a0_2], .slice Ao40 t1661.length co40, .slice A2 l2.length c2] ?_; (with_reducible refine (polynomial_DivMod.calls k a0_0 a0_1 a0_2 _ _ t1661 _ _ l2 t1665 t1668 t1671 _ ?side1 ?side2 ?side3 ?side4 A19.out).mono ?_); (case side1 => exact zN HO1663); (case side2 => exact (Kd.R_reads' HO1663.out).2.1); (case side3 => exact zN HR2); (case side4 => exact HC2.out); rintro e w41 ⟨v1666, v1669, rfl, ho0, ho1, hb⟩; refine ⟨_, rfl, ?_⟩; have HO1667 := Aside0.mk (Kd.R_lower (Kd.R_new' (Kd.R_new' (Kd.R_new' ho0 (Kd.R_lt (zO HO1657))) (Kd.R_lt (zO HO1660))) (Kd.R_lt (zO HO1663))) (below_size zB)); have HO1670 := Aside0.mk (Kd.R_lower (Kd.R_new' (Kd.R_new' (Kd.R_new' ho1 (Kd.R_lt (zO HO1657))) (Kd.R_lt (zO HO1660))) (Kd.R_lt (zO HO1663))) (below_size zB)); replace HO1657 := Aside0.mk (Kd.R_mono (Kd.R_told (Kd.R_told (Kd.R_old (zO HO1657) hb) (Kd.R_base ho0)) (Kd.R_base ho1)) (fun _ h_ => h_.1)); replace HO1660 := Aside0.mk (Kd.R_mono (Kd.R_told (Kd.R_told (Kd.R_old (zO HO1660) hb) (Kd.R_base ho0)) (Kd.R_base ho1)) (fun _ h_ => h_.1)); replace HO1663 := Aside0.mk (Kd.R_mono (Kd.R_told (Kd.R_told (Kd.R_old (zO HO1663) hb) (Kd.R_base ho0)) (Kd.R_base ho1)) (fun _ h_ => h_.1)); replace BK1651 := bB BK1651 hb; replace HB := bS hb; (try clear hb); (try clear ho0); (try clear ho1); (try clear z1651_0 z1651_1 z1651_2 f1651_0 f1651_1 f1651_2); obtain ⟨z1651_0, z1651_1, z1651_2, f1651_0, f1651_1, f1651_2⟩ := cz3 BK1651) | ((with_reducible refine gate_callee (f := 66) rfl ?_); refine gL (some 61) Try.func66 #[.agg #[.int .i64 a0_0, .int .i64 a0_1, .int .i64 a0_2], .slice Ao40 t1661.length co40, .slice none 0 0] ?_; (refine (polynomial_DivMod.calls k a0_0 a0_1 a0_2 _ _ t1661 _ _ ([] : List Int) t1672 t1675 t1678 _ ?side1 ?side2 ?side3 ?side4 A20.out).mono ?_); (case side1 => exact zN HO1663); (case side2 => exact (Kd.R_reads' HO1663.out).2.1); (case side3 => exact Kd.C_nil _ _); (case side4 => exact Nat.le_refl _); rintro e w43 ⟨v1673, v1676, rfl, ho0, ho1, hb⟩; refine ⟨_, rfl, ?_⟩; have HO1674 := Aside0.mk (Kd.R_lower (Kd.R_new' (Kd.R_new' (Kd.R_new' (Kd.R_new' (Kd.R_new' ho0 (Kd.R_lt (zO HO1657))) (Kd.R_lt (zO HO1660))) (Kd.R_lt (zO HO1663))) (Kd.R_lt (zO HO1667))) (Kd.R_lt (zO HO1670))) (below_size zB)); have HO1677 := Aside0.mk (Kd.R_lower (Kd.R_new' (Kd.R_new' (Kd.R_new' (Kd.R_new' (Kd.R_new' ho1 (Kd.R_lt (zO HO1657))) (Kd.R_lt (zO HO1660))) (Kd.R_lt (zO HO1663))) (Kd.R_lt (zO HO1667))) (Kd.R_lt (zO HO1670))) (below_size zB)); replace HO1657 := Aside0.mk (Kd.R_mono (Kd.R_told (Kd.R_told (Kd.R_old (zO HO1657) hb) (Kd.R_base ho0)) (Kd.R_base ho1)) (fun _ h_ => h_.1)); replace HO1660 := Aside0.mk (Kd.R_mono (Kd.R_told (Kd.R_told (Kd.R_old (zO HO1660) hb) (Kd.R_base ho0)) (Kd.R_base ho1)) (fun _ h_ => h_.1)); replace HO1663 := Aside0.mk (Kd.R_mono (Kd.R_told (Kd.R_told (Kd.R_old (zO HO1663) hb) (Kd.R_base ho0)) (Kd.R_base ho1)) (fun _ h_ => h_.1)); replace HO1667 := Aside0.mk (Kd.R_mono (Kd.R_told (Kd.R_told (Kd.R_old (zO HO1667) hb) (Kd.R_base ho0)) (Kd.R_base ho1)) (fun _ h_ => h_.1)); replace HO1670 := Aside0.mk (Kd.R_mono (Kd.R_told (Kd.R_told (Kd.R_old (zO HO1670) hb) (Kd.R_base ho0)) (Kd.R_base ho1)) (fun _ h_ => h_.1)); replace BK1651 := bB BK1651 hb; replace HB := bS hb; (try clear hb); (try clear ho0); (try clear ho1); obtain ⟨Ao44, co44, eo44⟩ := Kd.R_slice HO1667.out; subst eo44) | (go_at_call 55; (with_reducible refine (barscanlaw05_same.calls k _ _ t1665 _ _ l1 true _ ?side1 ?side2 ?side3 ?side4 A23.out).mono ?_); (case side1 => exact zN HO1667); (case side2 => exact (Kd.R_reads' HO1667.out).2.1); (case side3 => exact zN HR1); (case side4 => exact HC1.out); rintro e w' ⟨rfl, ⟨nd, rfl⟩⟩; obtain ⟨Ao45, co45, eo45⟩ := Kd.R_slice HO1670.out; subst eo45) | (go_at_call 55; (with_reducible refine (barscanlaw05_same.calls k _ _ t1668 _ _ t1655 true _ ?side1 ?side2 ?side3 ?side4 A25.out).mono ?_); (case side1 => exact zN HO1670); (case side2 => exact (Kd.R_reads' HO1670.out).2.1); (case side3 => exact zN HO1657); (case side4 => exact (Kd.R_reads' HO1657.out).2.1); rintro e w' ⟨rfl, ⟨nd, rfl⟩⟩) | (go_at_call 48; (with_reducible refine (barscanlaw05_examples.calls k  t1681 _ A28.out).mono ?_); rintro e w46 ⟨rfl, hb⟩; replace HO1657 := Aside0.mk (Kd.R_below (zO HO1657) hb); replace HO1660 := Aside0.mk (Kd.R_below (zO HO1660) hb); replace HO1663 := Aside0.mk (Kd.R_below (zO HO1663) hb); replace HO1667 := Aside0.mk (Kd.R_below (zO HO1667) hb); replace HO1670 := Aside0.mk (Kd.R_below (zO HO1670) hb); replace HO1674 := Aside0.mk (Kd.R_below (zO HO1674) hb); replace HO1677 := Aside0.mk (Kd.R_below (zO HO1677) hb); replace BK1651 := bB BK1651 hb; replace HB := bS hb; (try clear hb)))
          go_ret
          exact ⟨by first | rfl | (simp [errW_none, errW_some] <;> rfl) | (simp only [← hji13]; first | rfl | (simp [errW_none, errW_some] <;> rfl)) | (simp [*, errW_none, errW_some] <;> rfl), zB⟩
         ·rw [if_neg c27] at H
          exact absurd H (by simp)
        ·replace c26 := Bool.eq_false_iff.mpr c26
         subst c26
         rw [if_neg (show ¬ (false = true) by decide)] at H
         exact absurd H (by simp)
       ·replace c24 := Bool.eq_false_iff.mpr c24
        subst c24
        rw [if_neg (show ¬ (false = true) by decide)] at H
        exact absurd H (by simp)
      ·rw [if_neg c22] at H
       exact absurd H (by simp)
     ·rw [if_neg c21] at H
      exact absurd H (by simp)
    ·rw [if_neg c15] at H
     exact absurd H (by simp)
   ·rw [if_neg c14] at H
    exact absurd H (by simp)
 ·replace c6 := Bool.eq_false_iff.mpr c6
  subst c6
  rw [if_neg (show ¬ (false = true) by decide)] at H
  obtain ⟨t1682, A47, H⟩ := zD H
  obtain rfl := Option.some.inj H
  go_enter Try.func17, Try.ntmps17
  go_wp2_with (first | ((with_reducible refine gate_dst (N := 4) rfl ?_); (try (refine gate_guard (by rfl) ?_; dsimp only)); refine zBox 4 #[.int .i64 a0_0, .int .i64 a0_1, .int .i64 a0_2] 23 ?_; clear HB; intro gb1651 w48 BK1651 GE1651 HB; (try clear z1651_0 z1651_1 z1651_2 f1651_0 f1651_1 f1651_2); obtain ⟨z1651_0, z1651_1, z1651_2, f1651_0, f1651_1, f1651_2⟩ := cz3 BK1651) | (go_at_call 47; (with_reducible refine (valid3.calls k a0_0 a0_1 a0_2 100 _ _ l1 _ _ l2 _ _ l3 false _ ?side1 ?side2 ?side3 ?side4 ?side5 ?side6 A5.out).mono ?_); (case side1 => exact zN HR1); (case side2 => exact HC1.out); (case side3 => exact zN HR2); (case side4 => exact HC2.out); (case side5 => exact zN HR3); (case side6 => exact HC3.out); rintro e w50 ⟨rfl, hb⟩; replace BK1651 := bB BK1651 hb; replace HB := bS hb; (try clear hb)) | ((with_reducible refine gate_callee (f := 48) rfl ?_); refine gL (some 29) Try.func48 #[] ?_; (with_reducible refine zCall (barscanlaw05_examples.calls k  t1682 _ A47.out) ?_); intro w51 hb; replace BK1651 := bB BK1651 hb; replace HB := bS hb; (try clear hb)))
  go_ret
  exact ⟨zE, zB⟩
end Go.Proofs.Ytlhaclammaaabaa.Pg
