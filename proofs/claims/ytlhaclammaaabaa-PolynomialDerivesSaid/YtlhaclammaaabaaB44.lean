-- Written by a program of this session over the print of the kit.
import Derived.Test.YtlhaclammaaabaaY
import Derived.Test.YtlhaclammaaabaaB1
import Derived.Test.YtlhaclammaaabaaB5
import Derived.Test.YtlhaclammaaabaaB26
import Derived.Test.YtlhaclammaaabaaB27
import Derived.Test.YtlhaclammaaabaaB43
import Derived.Test.YtlhaclammaaabaaHValid
namespace Go.Proofs.Ytlhaclammaaabaa.Pg
open Go.RowKit Go.Proofs.YtlhaclammaaabaaW.PrintWords Go.Proofs.YtlhaclammaaabaaW.PrintLast Go.Proofs.YtlhaclammaaabaaW.PrintMore
attribute [local go_sem] max2_int min2_int max_two min_two max_three min_three max_four min_four
set_option linter.unusedVariables false
set_option maxHeartbeats 8000000
set_option maxRecDepth 100000
set_option linter.unusedSimpArgs false
/-! ### barscanlaw05_PolynomialDerives: function 18 -/
def barscanlaw05_PolynomialDerives.f (k : Nat) (a0_0 : Int) (a0_1 : Int) (a0_2 : Int) (l1 : List Int) (l2 : List Int) : Option (Bool) := (valid2.f k a0_0 a0_1 a0_2 40 l1 l2).bind fun t1699 => (if t1699 = true then ((barscanlaw05_derive.f k a0_0 a0_1 a0_2 l1).bind fun t1700 => ((barscanlaw05_derive.f k a0_0 a0_1 a0_2 l2).bind fun t1703 => ((barscanlaw05_add.f k a0_0 a0_1 a0_2 t1700 t1703).bind fun t1706 => ((barscanlaw05_derive.f k a0_0 a0_1 a0_2 l1).bind fun t1709 => ((barscanlaw05_mul.f k a0_0 a0_1 a0_2 t1709 l2).bind fun t1712 => ((barscanlaw05_derive.f k a0_0 a0_1 a0_2 l2).bind fun t1715 => ((barscanlaw05_mul.f k a0_0 a0_1 a0_2 l1 t1715).bind fun t1718 => ((barscanlaw05_add.f k a0_0 a0_1 a0_2 t1712 t1718).bind fun t1721 => ((barscanlaw05_add.f k a0_0 a0_1 a0_2 l1 l2).bind fun t1724 => ((barscanlaw05_derive.f k a0_0 a0_1 a0_2 t1724).bind fun t1727 => ((barscanlaw05_same.f k t1727 t1706).bind fun t1730 => (if t1730 = true then ((barscanlaw05_mul.f k a0_0 a0_1 a0_2 l1 l2).bind fun t1731 => ((barscanlaw05_derive.f k a0_0 a0_1 a0_2 t1731).bind fun t1734 => ((barscanlaw05_same.f k t1734 t1721).bind fun t1737 => (if t1737 = true then ((barscanlaw05_derive.f k a0_0 a0_1 a0_2 (([1] : List Int))).bind fun t1741 => (if (t1741.length : Int) = 0 then ((barscanlaw05_examples.f k).bind fun t1744 => (some t1744)) else (none))) else (none))))) else (none))))))))))))) else ((barscanlaw05_examples.f k).bind fun t1745 => (some t1745)))
theorem barscanlaw05_PolynomialDerives.mono : ∀ a0 a1 a2 a3 a4 k, LeO (barscanlaw05_PolynomialDerives.f k a0 a1 a2 a3 a4) (barscanlaw05_PolynomialDerives.f (k + 1) a0 a1 a2 a3 a4) := by
 intro a0 a1 a2 a3 a4 k
 unfold barscanlaw05_PolynomialDerives.f
 have m0_ := @barscanlaw05_add.mono
 have m1_ := @barscanlaw05_derive.mono
 have m2_ := @barscanlaw05_examples.mono
 have m3_ := @barscanlaw05_mul.mono
 have m4_ := @barscanlaw05_same.mono
 have m5_ := @valid2.mono
 exact zMo
def barscanlaw05_PolynomialDerives.T3 : Bool × List (List Nat × List Nat) := (true, [([], []), ([], []), ([], []), ([1, 2], [1, 2]), ([], []), ([], []), ([4, 5, 3], [4, 5]), ([0, 3, 6, 6], [0, 3, 6]), ([7, 7, 0, 1, 2, 3, 4, 5, 6, 7], [7])])
def barscanlaw05_PolynomialDerives.B3 : List Nat := [0, 0, 0, 6, 0, 0, 62, 127, 255]
theorem barscanlaw05_PolynomialDerives.tab3 : rtab .any (opsOf Try.f18 3) = barscanlaw05_PolynomialDerives.T3 := by kernel_rfl
theorem barscanlaw05_PolynomialDerives.bits3 : waitsOk barscanlaw05_PolynomialDerives.T3.2 barscanlaw05_PolynomialDerives.B3 = true := by kernel_rfl
def barscanlaw05_PolynomialDerives.T4 : Bool × List (List Nat × List Nat) := (true, [([], []), ([], []), ([], []), ([], []), ([2, 3], [2, 3]), ([], []), ([1, 4, 5, 4], [1, 4, 5]), ([], []), ([], []), ([], []), ([], []), ([9, 10, 6], [9, 10]), ([7, 8, 11, 11], [7, 8, 11]), ([0, 6, 12, 12], [0, 6, 12]), ([13, 13, 0, 1, 2, 3, 4, 5, 6, 7, 8, 9, 10, 11, 12, 13], [13])])
def barscanlaw05_PolynomialDerives.B4 : List Nat := [0, 0, 0, 0, 12, 0, 62, 0, 0, 0, 0, 1662, 4094, 8191, 16383]
theorem barscanlaw05_PolynomialDerives.tab4 : rtab .any (opsOf Try.f18 4) = barscanlaw05_PolynomialDerives.T4 := by kernel_rfl
theorem barscanlaw05_PolynomialDerives.bits4 : waitsOk barscanlaw05_PolynomialDerives.T4.2 barscanlaw05_PolynomialDerives.B4 = true := by kernel_rfl
def barscanlaw05_PolynomialDerives.T5 : Bool × List (List Nat × List Nat) := (true, [([], []), ([], []), ([], []), ([], []), ([1, 2, 3], [1, 2, 3]), ([0, 4, 4], [0, 4]), ([], []), ([5, 6, 5], [5, 6]), ([7, 7], [7]), ([8], [8]), ([8], [8]), ([8], [8]), ([8], [8]), ([10, 11, 12, 8, 8], [8, 10, 11, 12]), ([9, 13, 13, 8], [8, 9, 13]), ([8], [8]), ([14, 15, 14, 8], [8, 14, 15]), ([8, 16], [8, 16]), ([17, 16], [17]), ([18], [18]), ([18], [18]), ([19, 20, 18, 18], [18, 19, 20]), ([21, 18], [18, 21]), ([22, 18], [18, 22]), ([18, 23], [18, 23]), ([24, 21], [24]), ([25, 25], [25]), ([25, 26], [25, 26]), ([27, 26, 0, 1, 2, 3, 4, 5, 6, 7, 8, 9, 10, 11, 12, 13, 14, 15, 16, 17, 18, 19, 20, 21, 22, 23, 24, 25, 26, 27], [27])])
def barscanlaw05_PolynomialDerives.B5 : List Nat := [0, 0, 0, 0, 14, 31, 0, 127, 255, 511, 511, 511, 511, 7679, 16383, 511, 65535, 131071, 262143, 524287, 524287, 2097151, 4194303, 8388607, 16777215, 33554431, 67108863, 134217727, 268435455]
theorem barscanlaw05_PolynomialDerives.tab5 : rtab .any (opsOf Try.f18 5) = barscanlaw05_PolynomialDerives.T5 := by kernel_rfl
theorem barscanlaw05_PolynomialDerives.bits5 : waitsOk barscanlaw05_PolynomialDerives.T5.2 barscanlaw05_PolynomialDerives.B5 = true := by kernel_rfl
theorem barscanlaw05_PolynomialDerives.calls (k : Nat) (a0_0 : Int) (a0_1 : Int) (a0_2 : Int) (A1 : Option Addr) (c1 : Nat) (l1 : List Int) (A2 : Option Addr) (c2 : Nat) (l2 : List Int) (r : Bool) (w : World) (hr1 : Kd.C (Kd.int .i64) w A1 l1.length l1) (hc1 : l1.length ≤ c1) (hr2 : Kd.C (Kd.int .i64) w A2 l2.length l2) (hc2 : l2.length ≤ c2) (h : barscanlaw05_PolynomialDerives.f k a0_0 a0_1 a0_2 l1 l2 = some r) :
  Calls Try.prog 18 #[.agg #[.int .i64 a0_0, .int .i64 a0_1, .int .i64 a0_2], .slice A1 l1.length c1, .slice A2 l2.length c2] w fun e w' => e = .returned (.bool r) ∧ Below w.heap.size w w' := by
 have hu23 := Try.underlying23
 have HR1 := Aside0.mk hr1
 have HC1 := Aside0.mk hc1
 clear hr1 hc1
 have HR2 := Aside0.mk hr2
 have HC2 := Aside0.mk hc2
 clear hr2 hc2
 have HB := Aside0.mk (Below.refl w.heap.size w)
 have H := h
 unfold barscanlaw05_PolynomialDerives.f at H
 clear h
 obtain ⟨t1699, A4, H⟩ := zD H
 by_cases c5 : t1699 = true
 ·subst c5
  rw [if_pos rfl] at H
  obtain ⟨t1700, A6, H⟩ := zD H
  obtain ⟨t1703, A7, H⟩ := zD H
  obtain ⟨t1706, A8, H⟩ := zD H
  obtain ⟨t1709, A9, H⟩ := zD H
  obtain ⟨t1712, A10, H⟩ := zD H
  obtain ⟨t1715, A11, H⟩ := zD H
  obtain ⟨t1718, A12, H⟩ := zD H
  obtain ⟨t1721, A13, H⟩ := zD H
  obtain ⟨t1724, A14, H⟩ := zD H
  obtain ⟨t1727, A15, H⟩ := zD H
  obtain ⟨t1730, A16, H⟩ := zD H
  by_cases c17 : t1730 = true
  ·subst c17
   rw [if_pos rfl] at H
   obtain ⟨t1731, A18, H⟩ := zD H
   obtain ⟨t1734, A19, H⟩ := zD H
   obtain ⟨t1737, A20, H⟩ := zD H
   by_cases c21 : t1737 = true
   ·subst c21
    rw [if_pos rfl] at H
    obtain ⟨y1738, hy1738⟩ : ∃ y_ : List Int, y_ = (([1] : List Int)) := ⟨_, rfl⟩
    replace H : ((barscanlaw05_derive.f k a0_0 a0_1 a0_2 y1738).bind fun t1741 => (if (t1741.length : Int) = 0 then ((barscanlaw05_examples.f k).bind fun t1744 => (some t1744)) else (none))) = some r := by first | (rw [hy1738]; with_reducible exact H) | (have H2_ := (Option.bind_some _ _).symm.trans H; rw [hy1738]; with_reducible exact H2_) | (have H2_ := (Option.bind_some _ _).symm.trans H; with_reducible exact H2_) | with_reducible exact H | (rw [hy1738]; exact H) | exact H
    have Ny1738 := Aside0.mk hy1738
    clear hy1738
    obtain ⟨t1741, A22, H⟩ := zD H
    by_cases c23 : (t1741.length : Int) = 0
    ·rw [if_pos c23] at H
     have c23b0 := beq_iff_eq.mpr c23
     have c23b1 := bne_eq_false_iff_eq.mpr c23
     clear c23
     obtain ⟨t1744, A24, H⟩ := zD H
     obtain rfl := Option.some.inj H
     go_enter Try.func18, Try.ntmps18
     try go_wp2_with (first | ((with_reducible refine gate_dst (N := 3) rfl ?_); (try (refine gate_guard (by rfl) ?_; dsimp only)); refine zBox 3 #[.int .i64 a0_0, .int .i64 a0_1, .int .i64 a0_2] 23 ?_; clear HB; intro gb1698 w25 BK1698 GE1698 HB; (try clear z1698_0 z1698_1 z1698_2 f1698_0 f1698_1 f1698_2); obtain ⟨z1698_0, z1698_1, z1698_2, f1698_0, f1698_1, f1698_2⟩ := cz3 BK1698) | (go_at_call 47; (with_reducible refine (valid2.calls k a0_0 a0_1 a0_2 40 _ _ l1 _ _ l2 true _ ?side1 ?side2 ?side3 ?side4 A4.out).mono ?_); (case side1 => exact zN HR1); (case side2 => exact HC1.out); (case side3 => exact zN HR2); (case side4 => exact HC2.out); rintro e w27 ⟨rfl, hb⟩; replace BK1698 := bB BK1698 hb; replace HB := bS hb; (try clear hb)))
     replace BK1698 := Aside0.mk (blk_drew BK1698.out)
     replace HB := Aside0.mk (below_drew1 HB.out)
     refine start_ (n := 9) (S := fun w' => w'.cell? ⟨gb1698, 0, none⟩ = some (.int .i64 a0_0) ∧ w'.cell? ⟨gb1698, 1, none⟩ = some (.int .i64 a0_1) ∧ w'.cell? ⟨gb1698, 2, none⟩ = some (.int .i64 a0_2)) (ds := []) #[false, false, false, false, false, false, false, false, false] (by kernel_rfl) rfl rfl zS (fun hHeld => ?_); refine with_tabW barscanlaw05_PolynomialDerives.tab3 barscanlaw05_PolynomialDerives.bits3 (fun HT_ HW_ => ?_)
     generalize w27.drew = w28 at BK1698 HB hHeld ⊢
     refine pU 2 (some 18) ?_
     refine pU 5 (some 21) ?_
     refine tU 0 (some 16) hHeld ?_
     refine tU 1 (some 17) hHeld ?_
     refine tU 4 (some 20) hHeld ?_
     refine oU 3 (some 19) (fun K hK => ?_)
     refine goes_ Try.func72 (by kernel_rfl) rfl #[.agg #[.int .i64 a0_0, .int .i64 a0_1, .int .i64 a0_2], .slice A1 l1.length c1] (by rfl) rfl rfl zM ?_
     with_reducible refine (barscanlaw05_derive.calls k a0_0 a0_1 a0_2 _ _ l1 t1700 _ ?side1 ?side2 A6.out).mono ?_
     (case side1 => exact zN HR1)
     (case side2 => exact HC1.out)
     rintro e w29 ⟨v1701, rfl, ho0, hb⟩
     refine ⟨_, rfl, ?_⟩
     have HO1702 := Aside0.mk (Kd.R_lower ho0 (below_size zB))
     replace BK1698 := bB BK1698 hb
     replace HB := bS hb
     (try clear hb)
     (try clear hb2)
     (try clear hk)
     (try clear hi)
     (try clear ho0)
     refine hK.out _ _ zS (fun hHeld => ?_)
     clear hK K
     refine nU ?_
     refine oU 6 (some 22) (fun K hK => ?_)
     refine goes_ Try.func72 (by kernel_rfl) rfl #[.agg #[.int .i64 a0_0, .int .i64 a0_1, .int .i64 a0_2], .slice A2 l2.length c2] (by rfl) rfl rfl zM ?_
     with_reducible refine (barscanlaw05_derive.calls k a0_0 a0_1 a0_2 _ _ l2 t1703 _ ?side1 ?side2 A7.out).mono ?_
     (case side1 => exact zN HR2)
     (case side2 => exact HC2.out)
     rintro e w30 ⟨v1704, rfl, ho0, hb⟩
     refine ⟨_, rfl, ?_⟩
     have HO1705 := Aside0.mk (Kd.R_lower (Kd.R_new' ho0 (Kd.R_lt (zO HO1702))) (below_size zB))
     replace HO1702 := Aside0.mk (Kd.R_elder' (zO HO1702) (Kd.R_base ho0) hb)
     replace BK1698 := bB BK1698 hb
     replace HB := bS hb
     (try clear hb)
     (try clear hb2)
     (try clear hk)
     (try clear hi)
     (try clear ho0)
     obtain ⟨Ao31, co31, eo31⟩ := Kd.R_slice HO1702.out
     (first | subst eo31 | (injection eo31 with f1_ f2_ f3_; have f4_ := f1_.symm; have f5_ := f3_.symm; clear f1_ f2_ f3_; subst f4_; subst f5_))
     obtain ⟨Ao32, co32, eo32⟩ := Kd.R_slice HO1705.out
     (first | subst eo32 | (injection eo32 with f1_ f2_ f3_; have f4_ := f1_.symm; have f5_ := f3_.symm; clear f1_ f2_ f3_; subst f4_; subst f5_))
     refine hK.out _ _ zS (fun hHeld => ?_)
     clear hK K
     refine nU ?_
     refine oU 7 (some 23) (fun K hK => ?_)
     refine goes_ Try.func56 (by kernel_rfl) rfl #[.agg #[.int .i64 a0_0, .int .i64 a0_1, .int .i64 a0_2], .slice Ao31 t1700.length co31, .slice Ao32 t1703.length co32] (by rfl) rfl rfl zM ?_
     with_reducible refine (barscanlaw05_add.calls k a0_0 a0_1 a0_2 _ _ t1700 _ _ t1703 t1706 _ ?side1 ?side2 ?side3 ?side4 A8.out).mono ?_
     (case side1 => exact zN HO1702)
     (case side2 => exact (Kd.R_reads' HO1702.out).2.1)
     (case side3 => exact zN HO1705)
     (case side4 => exact (Kd.R_reads' HO1705.out).2.1)
     rintro e w33 ⟨v1707, rfl, ho0, hb⟩
     refine ⟨_, rfl, ?_⟩
     have HO1708 := Aside0.mk (Kd.R_lower (Kd.R_new' (Kd.R_new' ho0 (Kd.R_lt (zO HO1702))) (Kd.R_lt (zO HO1705))) (below_size zB))
     replace HO1702 := Aside0.mk (Kd.R_elder' (zO HO1702) (Kd.R_base ho0) hb)
     replace HO1705 := Aside0.mk (Kd.R_elder' (zO HO1705) (Kd.R_base ho0) hb)
     replace BK1698 := bB BK1698 hb
     replace HB := bS hb
     (try clear hb)
     (try clear hb2)
     (try clear hk)
     (try clear hi)
     (try clear ho0)
     refine hK.out _ _ zS (fun hHeld => ?_)
     clear hK K
     refine nU ?_
     refine pU 8 (some 7) ?_
     refine dU ?_
     try go_wp2
     replace HO1702 := Aside0.mk (Kd.R_drew HO1702.out)
     replace HO1705 := Aside0.mk (Kd.R_drew HO1705.out)
     replace HO1708 := Aside0.mk (Kd.R_drew HO1708.out)
     replace BK1698 := Aside0.mk (blk_drew BK1698.out)
     replace HB := Aside0.mk (below_drew1 HB.out)
     refine start_ (n := 15) (S := fun w' => w'.cell? ⟨gb1698, 0, none⟩ = some (.int .i64 a0_0) ∧ w'.cell? ⟨gb1698, 1, none⟩ = some (.int .i64 a0_1) ∧ w'.cell? ⟨gb1698, 2, none⟩ = some (.int .i64 a0_2)) (ds := []) #[false, false, false, false, false, false, false, false, false, false, false, false, false, false, false] (by kernel_rfl) rfl rfl zS (fun hHeld => ?_); refine with_tabW barscanlaw05_PolynomialDerives.tab4 barscanlaw05_PolynomialDerives.bits4 (fun HT_ HW_ => ?_)
     generalize w33.drew = w34 at HO1702 HO1705 HO1708 BK1698 HB hHeld ⊢
     refine pU 3 (some 27) ?_
     refine pU 5 (some 29) ?_
     refine pU 8 (some 32) ?_
     refine pU 10 (some 34) ?_
     refine tU 0 (some 24) hHeld ?_
     refine tU 1 (some 25) hHeld ?_
     refine tU 2 (some 26) hHeld ?_
     refine tU 7 (some 31) hHeld ?_
     refine tU 9 (some 33) hHeld ?_
     refine oU 4 (some 28) (fun K hK => ?_)
     refine goes_ Try.func72 (by kernel_rfl) rfl #[.agg #[.int .i64 a0_0, .int .i64 a0_1, .int .i64 a0_2], .slice A1 l1.length c1] (by rfl) rfl rfl zM ?_
     with_reducible refine (barscanlaw05_derive.calls k a0_0 a0_1 a0_2 _ _ l1 t1709 _ ?side1 ?side2 A9.out).mono ?_
     (case side1 => exact zN HR1)
     (case side2 => exact HC1.out)
     rintro e w35 ⟨v1710, rfl, ho0, hb⟩
     refine ⟨_, rfl, ?_⟩
     have HO1711 := Aside0.mk (Kd.R_lower (Kd.R_new' (Kd.R_new' (Kd.R_new' ho0 (Kd.R_lt (zO HO1702))) (Kd.R_lt (zO HO1705))) (Kd.R_lt (zO HO1708))) (below_size zB))
     replace HO1702 := Aside0.mk (Kd.R_elder' (zO HO1702) (Kd.R_base ho0) hb)
     replace HO1705 := Aside0.mk (Kd.R_elder' (zO HO1705) (Kd.R_base ho0) hb)
     replace HO1708 := Aside0.mk (Kd.R_elder' (zO HO1708) (Kd.R_base ho0) hb)
     replace BK1698 := bB BK1698 hb
     replace HB := bS hb
     (try clear hb)
     (try clear hb2)
     (try clear hk)
     (try clear hi)
     (try clear ho0)
     obtain ⟨Ao36, co36, eo36⟩ := Kd.R_slice HO1711.out
     (first | subst eo36 | (injection eo36 with f1_ f2_ f3_; have f4_ := f1_.symm; have f5_ := f3_.symm; clear f1_ f2_ f3_; subst f4_; subst f5_))
     refine hK.out _ _ zS (fun hHeld => ?_)
     clear hK K
     refine nU ?_
     refine oU 6 (some 30) (fun K hK => ?_)
     refine goes_ Try.func54 (by kernel_rfl) rfl #[.agg #[.int .i64 a0_0, .int .i64 a0_1, .int .i64 a0_2], .slice Ao36 t1709.length co36, .slice A2 l2.length c2] (by rfl) rfl rfl zM ?_
     with_reducible refine (barscanlaw05_mul.calls k a0_0 a0_1 a0_2 _ _ t1709 _ _ l2 t1712 _ ?side1 ?side2 ?side3 ?side4 A10.out).mono ?_
     (case side1 => exact zN HO1711)
     (case side2 => exact (Kd.R_reads' HO1711.out).2.1)
     (case side3 => exact zN HR2)
     (case side4 => exact HC2.out)
     rintro e w37 ⟨v1713, rfl, ho0, hb⟩
     refine ⟨_, rfl, ?_⟩
     have HO1714 := Aside0.mk (Kd.R_lower (Kd.R_new' (Kd.R_new' (Kd.R_new' (Kd.R_new' ho0 (Kd.R_lt (zO HO1702))) (Kd.R_lt (zO HO1705))) (Kd.R_lt (zO HO1708))) (Kd.R_lt (zO HO1711))) (below_size zB))
     replace HO1702 := Aside0.mk (Kd.R_elder' (zO HO1702) (Kd.R_base ho0) hb)
     replace HO1705 := Aside0.mk (Kd.R_elder' (zO HO1705) (Kd.R_base ho0) hb)
     replace HO1708 := Aside0.mk (Kd.R_elder' (zO HO1708) (Kd.R_base ho0) hb)
     replace HO1711 := Aside0.mk (Kd.R_elder' (zO HO1711) (Kd.R_base ho0) hb)
     replace BK1698 := bB BK1698 hb
     replace HB := bS hb
     (try clear hb)
     (try clear hb2)
     (try clear hk)
     (try clear hi)
     (try clear ho0)
     refine hK.out _ _ zS (fun hHeld => ?_)
     clear hK K
     refine nU ?_
     refine oU 11 (some 35) (fun K hK => ?_)
     refine goes_ Try.func72 (by kernel_rfl) rfl #[.agg #[.int .i64 a0_0, .int .i64 a0_1, .int .i64 a0_2], .slice A2 l2.length c2] (by rfl) rfl rfl zM ?_
     with_reducible refine (barscanlaw05_derive.calls k a0_0 a0_1 a0_2 _ _ l2 t1715 _ ?side1 ?side2 A11.out).mono ?_
     (case side1 => exact zN HR2)
     (case side2 => exact HC2.out)
     rintro e w38 ⟨v1716, rfl, ho0, hb⟩
     refine ⟨_, rfl, ?_⟩
     have HO1717 := Aside0.mk (Kd.R_lower (Kd.R_new' (Kd.R_new' (Kd.R_new' (Kd.R_new' (Kd.R_new' ho0 (Kd.R_lt (zO HO1702))) (Kd.R_lt (zO HO1705))) (Kd.R_lt (zO HO1708))) (Kd.R_lt (zO HO1711))) (Kd.R_lt (zO HO1714))) (below_size zB))
     replace HO1702 := Aside0.mk (Kd.R_elder' (zO HO1702) (Kd.R_base ho0) hb)
     replace HO1705 := Aside0.mk (Kd.R_elder' (zO HO1705) (Kd.R_base ho0) hb)
     replace HO1708 := Aside0.mk (Kd.R_elder' (zO HO1708) (Kd.R_base ho0) hb)
     replace HO1711 := Aside0.mk (Kd.R_elder' (zO HO1711) (Kd.R_base ho0) hb)
     replace HO1714 := Aside0.mk (Kd.R_elder' (zO HO1714) (Kd.R_base ho0) hb)
     replace BK1698 := bB BK1698 hb
     replace HB := bS hb
     (try clear hb)
     (try clear hb2)
     (try clear hk)
     (try clear hi)
     (try clear ho0)
     obtain ⟨Ao39, co39, eo39⟩ := Kd.R_slice HO1717.out
     (first | subst eo39 | (injection eo39 with f1_ f2_ f3_; have f4_ := f1_.symm; have f5_ := f3_.symm; clear f1_ f2_ f3_; subst f4_; subst f5_))
     refine hK.out _ _ zS (fun hHeld => ?_)
     clear hK K
     refine nU ?_
     refine oU 12 (some 36) (fun K hK => ?_)
     refine goes_ Try.func54 (by kernel_rfl) rfl #[.agg #[.int .i64 a0_0, .int .i64 a0_1, .int .i64 a0_2], .slice A1 l1.length c1, .slice Ao39 t1715.length co39] (by rfl) rfl rfl zM ?_
     with_reducible refine (barscanlaw05_mul.calls k a0_0 a0_1 a0_2 _ _ l1 _ _ t1715 t1718 _ ?side1 ?side2 ?side3 ?side4 A12.out).mono ?_
     (case side1 => exact zN HR1)
     (case side2 => exact HC1.out)
     (case side3 => exact zN HO1717)
     (case side4 => exact (Kd.R_reads' HO1717.out).2.1)
     rintro e w40 ⟨v1719, rfl, ho0, hb⟩
     refine ⟨_, rfl, ?_⟩
     have HO1720 := Aside0.mk (Kd.R_lower (Kd.R_new' (Kd.R_new' (Kd.R_new' (Kd.R_new' (Kd.R_new' (Kd.R_new' ho0 (Kd.R_lt (zO HO1702))) (Kd.R_lt (zO HO1705))) (Kd.R_lt (zO HO1708))) (Kd.R_lt (zO HO1711))) (Kd.R_lt (zO HO1714))) (Kd.R_lt (zO HO1717))) (below_size zB))
     replace HO1702 := Aside0.mk (Kd.R_elder' (zO HO1702) (Kd.R_base ho0) hb)
     replace HO1705 := Aside0.mk (Kd.R_elder' (zO HO1705) (Kd.R_base ho0) hb)
     replace HO1708 := Aside0.mk (Kd.R_elder' (zO HO1708) (Kd.R_base ho0) hb)
     replace HO1711 := Aside0.mk (Kd.R_elder' (zO HO1711) (Kd.R_base ho0) hb)
     replace HO1714 := Aside0.mk (Kd.R_elder' (zO HO1714) (Kd.R_base ho0) hb)
     replace HO1717 := Aside0.mk (Kd.R_elder' (zO HO1717) (Kd.R_base ho0) hb)
     replace BK1698 := bB BK1698 hb
     replace HB := bS hb
     (try clear hb)
     (try clear hb2)
     (try clear hk)
     (try clear hi)
     (try clear ho0)
     obtain ⟨Ao41, co41, eo41⟩ := Kd.R_slice HO1714.out
     (first | subst eo41 | (injection eo41 with f1_ f2_ f3_; have f4_ := f1_.symm; have f5_ := f3_.symm; clear f1_ f2_ f3_; subst f4_; subst f5_))
     obtain ⟨Ao42, co42, eo42⟩ := Kd.R_slice HO1720.out
     (first | subst eo42 | (injection eo42 with f1_ f2_ f3_; have f4_ := f1_.symm; have f5_ := f3_.symm; clear f1_ f2_ f3_; subst f4_; subst f5_))
     refine hK.out _ _ zS (fun hHeld => ?_)
     clear hK K
     refine nU ?_
     refine oU 13 (some 37) (fun K hK => ?_)
     refine goes_ Try.func56 (by kernel_rfl) rfl #[.agg #[.int .i64 a0_0, .int .i64 a0_1, .int .i64 a0_2], .slice Ao41 t1712.length co41, .slice Ao42 t1718.length co42] (by rfl) rfl rfl zM ?_
     with_reducible refine (barscanlaw05_add.calls k a0_0 a0_1 a0_2 _ _ t1712 _ _ t1718 t1721 _ ?side1 ?side2 ?side3 ?side4 A13.out).mono ?_
     (case side1 => exact zN HO1714)
     (case side2 => exact (Kd.R_reads' HO1714.out).2.1)
     (case side3 => exact zN HO1720)
     (case side4 => exact (Kd.R_reads' HO1720.out).2.1)
     rintro e w43 ⟨v1722, rfl, ho0, hb⟩
     refine ⟨_, rfl, ?_⟩
     have HO1723 := Aside0.mk (Kd.R_lower (Kd.R_new' (Kd.R_new' (Kd.R_new' (Kd.R_new' (Kd.R_new' (Kd.R_new' (Kd.R_new' ho0 (Kd.R_lt (zO HO1702))) (Kd.R_lt (zO HO1705))) (Kd.R_lt (zO HO1708))) (Kd.R_lt (zO HO1711))) (Kd.R_lt (zO HO1714))) (Kd.R_lt (zO HO1717))) (Kd.R_lt (zO HO1720))) (below_size zB))
     replace HO1702 := Aside0.mk (Kd.R_elder' (zO HO1702) (Kd.R_base ho0) hb)
     replace HO1705 := Aside0.mk (Kd.R_elder' (zO HO1705) (Kd.R_base ho0) hb)
     replace HO1708 := Aside0.mk (Kd.R_elder' (zO HO1708) (Kd.R_base ho0) hb)
     replace HO1711 := Aside0.mk (Kd.R_elder' (zO HO1711) (Kd.R_base ho0) hb)
     replace HO1714 := Aside0.mk (Kd.R_elder' (zO HO1714) (Kd.R_base ho0) hb)
     replace HO1717 := Aside0.mk (Kd.R_elder' (zO HO1717) (Kd.R_base ho0) hb)
     replace HO1720 := Aside0.mk (Kd.R_elder' (zO HO1720) (Kd.R_base ho0) hb)
     replace BK1698 := bB BK1698 hb
     replace HB := bS hb
     (try clear hb)
     (try clear hb2)
     (try clear hk)
     (try clear hi)
     (try clear ho0)
     refine hK.out _ _ zS (fun hHeld => ?_)
     clear hK K
     refine nU ?_
     refine pU 14 (some 8) ?_
     refine dU ?_
     try go_wp2
     replace HO1702 := Aside0.mk (Kd.R_drew HO1702.out)
     replace HO1705 := Aside0.mk (Kd.R_drew HO1705.out)
     replace HO1708 := Aside0.mk (Kd.R_drew HO1708.out)
     replace HO1711 := Aside0.mk (Kd.R_drew HO1711.out)
     replace HO1714 := Aside0.mk (Kd.R_drew HO1714.out)
     replace HO1717 := Aside0.mk (Kd.R_drew HO1717.out)
     replace HO1720 := Aside0.mk (Kd.R_drew HO1720.out)
     replace HO1723 := Aside0.mk (Kd.R_drew HO1723.out)
     replace BK1698 := Aside0.mk (blk_drew BK1698.out)
     replace HB := Aside0.mk (below_drew1 HB.out)
     refine start_ (n := 29) (S := fun w' => w'.cell? ⟨gb1698, 0, none⟩ = some (.int .i64 a0_0) ∧ w'.cell? ⟨gb1698, 1, none⟩ = some (.int .i64 a0_1) ∧ w'.cell? ⟨gb1698, 2, none⟩ = some (.int .i64 a0_2)) (ds := []) #[false, false, false, false, false, false, false, false, false, false, false, false, false, false, false, false, false, false, false, false, false, false, false, false, false, false, false, false, false] (by kernel_rfl) rfl rfl zS (fun hHeld => ?_); refine with_tabW barscanlaw05_PolynomialDerives.tab5 barscanlaw05_PolynomialDerives.bits5 (fun HT_ HW_ => ?_)
     generalize w43.drew = w44 at HO1702 HO1705 HO1708 HO1711 HO1714 HO1717 HO1720 HO1723 BK1698 HB hHeld ⊢
     refine pU 2 (some 40) ?_
     refine pU 3 (some 41) ?_
     refine pU 6 (some 44) ?_
     refine tU 0 (some 38) hHeld ?_
     refine tU 1 (some 39) hHeld ?_
     refine oU 4 (some 42) (fun K hK => ?_)
     refine goes_ Try.func56 (by kernel_rfl) rfl #[.agg #[.int .i64 a0_0, .int .i64 a0_1, .int .i64 a0_2], .slice A1 l1.length c1, .slice A2 l2.length c2] (by rfl) rfl rfl zM ?_
     with_reducible refine (barscanlaw05_add.calls k a0_0 a0_1 a0_2 _ _ l1 _ _ l2 t1724 _ ?side1 ?side2 ?side3 ?side4 A14.out).mono ?_
     (case side1 => exact zN HR1)
     (case side2 => exact HC1.out)
     (case side3 => exact zN HR2)
     (case side4 => exact HC2.out)
     rintro e w45 ⟨v1725, rfl, ho0, hb⟩
     refine ⟨_, rfl, ?_⟩
     have HO1726 := Aside0.mk (Kd.R_lower (Kd.R_new' (Kd.R_new' (Kd.R_new' (Kd.R_new' (Kd.R_new' (Kd.R_new' (Kd.R_new' (Kd.R_new' ho0 (Kd.R_lt (zO HO1702))) (Kd.R_lt (zO HO1705))) (Kd.R_lt (zO HO1708))) (Kd.R_lt (zO HO1711))) (Kd.R_lt (zO HO1714))) (Kd.R_lt (zO HO1717))) (Kd.R_lt (zO HO1720))) (Kd.R_lt (zO HO1723))) (below_size zB))
     replace HO1702 := Aside0.mk (Kd.R_elder' (zO HO1702) (Kd.R_base ho0) hb)
     replace HO1705 := Aside0.mk (Kd.R_elder' (zO HO1705) (Kd.R_base ho0) hb)
     replace HO1708 := Aside0.mk (Kd.R_elder' (zO HO1708) (Kd.R_base ho0) hb)
     replace HO1711 := Aside0.mk (Kd.R_elder' (zO HO1711) (Kd.R_base ho0) hb)
     replace HO1714 := Aside0.mk (Kd.R_elder' (zO HO1714) (Kd.R_base ho0) hb)
     replace HO1717 := Aside0.mk (Kd.R_elder' (zO HO1717) (Kd.R_base ho0) hb)
     replace HO1720 := Aside0.mk (Kd.R_elder' (zO HO1720) (Kd.R_base ho0) hb)
     replace HO1723 := Aside0.mk (Kd.R_elder' (zO HO1723) (Kd.R_base ho0) hb)
     replace BK1698 := bB BK1698 hb
     replace HB := bS hb
     (try clear hb)
     (try clear hb2)
     (try clear hk)
     (try clear hi)
     (try clear ho0)
     obtain ⟨Ao46, co46, eo46⟩ := Kd.R_slice HO1726.out
     (first | subst eo46 | (injection eo46 with f1_ f2_ f3_; have f4_ := f1_.symm; have f5_ := f3_.symm; clear f1_ f2_ f3_; subst f4_; subst f5_))
     refine hK.out _ _ zS (fun hHeld => ?_)
     clear hK K
     refine nU ?_
     refine oU 5 (some 43) (fun K hK => ?_)
     refine goes_ Try.func72 (by kernel_rfl) rfl #[.agg #[.int .i64 a0_0, .int .i64 a0_1, .int .i64 a0_2], .slice Ao46 t1724.length co46] (by rfl) rfl rfl zM ?_
     with_reducible refine (barscanlaw05_derive.calls k a0_0 a0_1 a0_2 _ _ t1724 t1727 _ ?side1 ?side2 A15.out).mono ?_
     (case side1 => exact zN HO1726)
     (case side2 => exact (Kd.R_reads' HO1726.out).2.1)
     rintro e w47 ⟨v1728, rfl, ho0, hb⟩
     refine ⟨_, rfl, ?_⟩
     have HO1729 := Aside0.mk (Kd.R_lower (Kd.R_new' (Kd.R_new' (Kd.R_new' (Kd.R_new' (Kd.R_new' (Kd.R_new' (Kd.R_new' (Kd.R_new' (Kd.R_new' ho0 (Kd.R_lt (zO HO1702))) (Kd.R_lt (zO HO1705))) (Kd.R_lt (zO HO1708))) (Kd.R_lt (zO HO1711))) (Kd.R_lt (zO HO1714))) (Kd.R_lt (zO HO1717))) (Kd.R_lt (zO HO1720))) (Kd.R_lt (zO HO1723))) (Kd.R_lt (zO HO1726))) (below_size zB))
     replace HO1702 := Aside0.mk (Kd.R_elder' (zO HO1702) (Kd.R_base ho0) hb)
     replace HO1705 := Aside0.mk (Kd.R_elder' (zO HO1705) (Kd.R_base ho0) hb)
     replace HO1708 := Aside0.mk (Kd.R_elder' (zO HO1708) (Kd.R_base ho0) hb)
     replace HO1711 := Aside0.mk (Kd.R_elder' (zO HO1711) (Kd.R_base ho0) hb)
     replace HO1714 := Aside0.mk (Kd.R_elder' (zO HO1714) (Kd.R_base ho0) hb)
     replace HO1717 := Aside0.mk (Kd.R_elder' (zO HO1717) (Kd.R_base ho0) hb)
     replace HO1720 := Aside0.mk (Kd.R_elder' (zO HO1720) (Kd.R_base ho0) hb)
     replace HO1723 := Aside0.mk (Kd.R_elder' (zO HO1723) (Kd.R_base ho0) hb)
     replace HO1726 := Aside0.mk (Kd.R_elder' (zO HO1726) (Kd.R_base ho0) hb)
     replace BK1698 := bB BK1698 hb
     replace HB := bS hb
     (try clear hb)
     (try clear hb2)
     (try clear hk)
     (try clear hi)
     (try clear ho0)
     obtain ⟨Ao48, co48, eo48⟩ := Kd.R_slice HO1729.out
     (first | subst eo48 | (injection eo48 with f1_ f2_ f3_; have f4_ := f1_.symm; have f5_ := f3_.symm; clear f1_ f2_ f3_; subst f4_; subst f5_))
     obtain ⟨Ao49, co49, eo49⟩ := Kd.R_slice HO1708.out
     (first | subst eo49 | (injection eo49 with f1_ f2_ f3_; have f4_ := f1_.symm; have f5_ := f3_.symm; clear f1_ f2_ f3_; subst f4_; subst f5_))
     refine hK.out _ _ zS (fun hHeld => ?_)
     clear hK K
     refine nU ?_
     refine oU 7 (some 45) (fun K hK => ?_)
     refine goes_ Try.func55 (by kernel_rfl) rfl #[.slice Ao48 t1727.length co48, .slice Ao49 t1706.length co49] (by rfl) rfl rfl zM ?_
     with_reducible refine (barscanlaw05_same.calls k _ _ t1727 _ _ t1706 true _ ?side1 ?side2 ?side3 ?side4 A16.out).mono ?_
     (case side1 => exact zN HO1729)
     (case side2 => exact (Kd.R_reads' HO1729.out).2.1)
     (case side3 => exact zN HO1708)
     (case side4 => exact (Kd.R_reads' HO1708.out).2.1)
     rintro e w' ⟨rfl, ⟨nd, rfl⟩⟩
     refine ⟨_, rfl, ?_⟩
     refine hK.out _ _ zS (fun hHeld => ?_)
     clear hK K
     refine nU ?_
     refine pU 8 (some 46) ?_
     refine pU 11 (some 49) ?_
     refine pU 12 (some 50) ?_
     refine pU 15 (some 53) ?_
     refine tU 9 (some 47) hHeld ?_
     refine tU 10 (some 48) hHeld ?_
     refine oU 13 (some 51) (fun K hK => ?_)
     refine goes_ Try.func54 (by kernel_rfl) rfl #[.agg #[.int .i64 a0_0, .int .i64 a0_1, .int .i64 a0_2], .slice A1 l1.length c1, .slice A2 l2.length c2] (by rfl) rfl rfl zM ?_
     with_reducible refine (barscanlaw05_mul.calls k a0_0 a0_1 a0_2 _ _ l1 _ _ l2 t1731 _ ?side1 ?side2 ?side3 ?side4 A18.out).mono ?_
     (case side1 => repeat (first | exact (Kd.C_below HR1.out zB) | (with_reducible refine Kd.C_alloc ?_ _) | (with_reducible refine Kd.C_drewN ?_ _) | (with_reducible refine Kd.C_drew ?_)))
     (case side2 => exact HC1.out)
     (case side3 => repeat (first | exact (Kd.C_below HR2.out zB) | (with_reducible refine Kd.C_alloc ?_ _) | (with_reducible refine Kd.C_drewN ?_ _) | (with_reducible refine Kd.C_drew ?_)))
     (case side4 => exact HC2.out)
     rintro e w50 ⟨v1732, rfl, ho0, hb⟩
     refine ⟨_, rfl, ?_⟩
     have HO1733 := Aside0.mk (Kd.R_lower (Kd.R_new' (Kd.R_new' (Kd.R_new' (Kd.R_new' (Kd.R_new' (Kd.R_new' (Kd.R_new' (Kd.R_new' (Kd.R_new' (Kd.R_new' ho0 (Kd.R_lt (zO HO1702))) (Kd.R_lt (zO HO1705))) (Kd.R_lt (zO HO1708))) (Kd.R_lt (zO HO1711))) (Kd.R_lt (zO HO1714))) (Kd.R_lt (zO HO1717))) (Kd.R_lt (zO HO1720))) (Kd.R_lt (zO HO1723))) (Kd.R_lt (zO HO1726))) (Kd.R_lt (zO HO1729))) (below_size zB))
     replace HO1702 := Aside0.mk (Kd.R_elder' (zO HO1702) (Kd.R_base ho0) hb)
     replace HO1705 := Aside0.mk (Kd.R_elder' (zO HO1705) (Kd.R_base ho0) hb)
     replace HO1708 := Aside0.mk (Kd.R_elder' (zO HO1708) (Kd.R_base ho0) hb)
     replace HO1711 := Aside0.mk (Kd.R_elder' (zO HO1711) (Kd.R_base ho0) hb)
     replace HO1714 := Aside0.mk (Kd.R_elder' (zO HO1714) (Kd.R_base ho0) hb)
     replace HO1717 := Aside0.mk (Kd.R_elder' (zO HO1717) (Kd.R_base ho0) hb)
     replace HO1720 := Aside0.mk (Kd.R_elder' (zO HO1720) (Kd.R_base ho0) hb)
     replace HO1723 := Aside0.mk (Kd.R_elder' (zO HO1723) (Kd.R_base ho0) hb)
     replace HO1726 := Aside0.mk (Kd.R_elder' (zO HO1726) (Kd.R_base ho0) hb)
     replace HO1729 := Aside0.mk (Kd.R_elder' (zO HO1729) (Kd.R_base ho0) hb)
     replace BK1698 := bB BK1698 hb
     replace HB := bS hb
     (try clear hb)
     (try clear hb2)
     (try clear hk)
     (try clear hi)
     (try clear ho0)
     obtain ⟨Ao51, co51, eo51⟩ := Kd.R_slice HO1733.out
     (first | subst eo51 | (injection eo51 with f1_ f2_ f3_; have f4_ := f1_.symm; have f5_ := f3_.symm; clear f1_ f2_ f3_; subst f4_; subst f5_))
     refine hK.out _ _ zS (fun hHeld => ?_)
     clear hK K
     refine nU ?_
     refine oU 14 (some 52) (fun K hK => ?_)
     refine goes_ Try.func72 (by kernel_rfl) rfl #[.agg #[.int .i64 a0_0, .int .i64 a0_1, .int .i64 a0_2], .slice Ao51 t1731.length co51] (by rfl) rfl rfl zM ?_
     with_reducible refine (barscanlaw05_derive.calls k a0_0 a0_1 a0_2 _ _ t1731 t1734 _ ?side1 ?side2 A19.out).mono ?_
     (case side1 => exact zN HO1733)
     (case side2 => exact (Kd.R_reads' HO1733.out).2.1)
     rintro e w52 ⟨v1735, rfl, ho0, hb⟩
     refine ⟨_, rfl, ?_⟩
     have HO1736 := Aside0.mk (Kd.R_lower (Kd.R_new' (Kd.R_new' (Kd.R_new' (Kd.R_new' (Kd.R_new' (Kd.R_new' (Kd.R_new' (Kd.R_new' (Kd.R_new' (Kd.R_new' (Kd.R_new' ho0 (Kd.R_lt (zO HO1702))) (Kd.R_lt (zO HO1705))) (Kd.R_lt (zO HO1708))) (Kd.R_lt (zO HO1711))) (Kd.R_lt (zO HO1714))) (Kd.R_lt (zO HO1717))) (Kd.R_lt (zO HO1720))) (Kd.R_lt (zO HO1723))) (Kd.R_lt (zO HO1726))) (Kd.R_lt (zO HO1729))) (Kd.R_lt (zO HO1733))) (below_size zB))
     replace HO1702 := Aside0.mk (Kd.R_elder' (zO HO1702) (Kd.R_base ho0) hb)
     replace HO1705 := Aside0.mk (Kd.R_elder' (zO HO1705) (Kd.R_base ho0) hb)
     replace HO1708 := Aside0.mk (Kd.R_elder' (zO HO1708) (Kd.R_base ho0) hb)
     replace HO1711 := Aside0.mk (Kd.R_elder' (zO HO1711) (Kd.R_base ho0) hb)
     replace HO1714 := Aside0.mk (Kd.R_elder' (zO HO1714) (Kd.R_base ho0) hb)
     replace HO1717 := Aside0.mk (Kd.R_elder' (zO HO1717) (Kd.R_base ho0) hb)
     replace HO1720 := Aside0.mk (Kd.R_elder' (zO HO1720) (Kd.R_base ho0) hb)
     replace HO1723 := Aside0.mk (Kd.R_elder' (zO HO1723) (Kd.R_base ho0) hb)
     replace HO1726 := Aside0.mk (Kd.R_elder' (zO HO1726) (Kd.R_base ho0) hb)
     replace HO1729 := Aside0.mk (Kd.R_elder' (zO HO1729) (Kd.R_base ho0) hb)
     replace HO1733 := Aside0.mk (Kd.R_elder' (zO HO1733) (Kd.R_base ho0) hb)
     replace BK1698 := bB BK1698 hb
     replace HB := bS hb
     (try clear hb)
     (try clear hb2)
     (try clear hk)
     (try clear hi)
     (try clear ho0)
     obtain ⟨Ao53, co53, eo53⟩ := Kd.R_slice HO1736.out
     (first | subst eo53 | (injection eo53 with f1_ f2_ f3_; have f4_ := f1_.symm; have f5_ := f3_.symm; clear f1_ f2_ f3_; subst f4_; subst f5_))
     obtain ⟨Ao54, co54, eo54⟩ := Kd.R_slice HO1723.out
     (first | subst eo54 | (injection eo54 with f1_ f2_ f3_; have f4_ := f1_.symm; have f5_ := f3_.symm; clear f1_ f2_ f3_; subst f4_; subst f5_))
     refine hK.out _ _ zS (fun hHeld => ?_)
     clear hK K
     refine nU ?_
     refine oU 16 (some 54) (fun K hK => ?_)
     refine goes_ Try.func55 (by kernel_rfl) rfl #[.slice Ao53 t1734.length co53, .slice Ao54 t1721.length co54] (by rfl) rfl rfl zM ?_
     with_reducible refine (barscanlaw05_same.calls k _ _ t1734 _ _ t1721 true _ ?side1 ?side2 ?side3 ?side4 A20.out).mono ?_
     (case side1 => exact zN HO1736)
     (case side2 => exact (Kd.R_reads' HO1736.out).2.1)
     (case side3 => exact zN HO1723)
     (case side4 => exact (Kd.R_reads' HO1723.out).2.1)
     rintro e w' ⟨rfl, ⟨nd, rfl⟩⟩
     refine ⟨_, rfl, ?_⟩
     refine hK.out _ _ zS (fun hHeld => ?_)
     clear hK K
     refine nU ?_
     refine pU 17 (some 55) ?_
     refine pU 18 (some 56) ?_
     refine tU 19 (some 57) hHeld ?_
     refine oU 20 (some 58) (fun K hK => ?_)
     refine Kd.R_lit_step (Kd.int .i64) _ 3 ?hg (N := 58) ?hd (xs := ([1] : List Int)) (inner := [.int .i64 1]) (ok := fun _ => True) (okp := fun _ => True) ?hr ?hp (fun _ hk => hk) trivial (Below.refl _ _) (Nat.le_refl _) (by simp) ?_; (case hd => rfl); (case hg => rfl); (case hr => first | (go_simp; done) | (go_simp; rfl)); (case hp => exact (Reps.one (show Kd.M (Kd.int .i64) _ _ _ 1 [.int .i64 1] from rfl) (Reps.none _ _)))
     intro v1739 w55 ho56 hb hg_ hnew_
     clear hg_ hnew_
     (first | rw [← Ny1738.out] at ho56 | (simp only [Int.reduceToNat] at ho56; rw [← Ny1738.out] at ho56))
     have HO1740 := Aside0.mk (Kd.R_lower (Kd.R_new' (Kd.R_new' (Kd.R_new' (Kd.R_new' (Kd.R_new' (Kd.R_new' (Kd.R_new' (Kd.R_new' (Kd.R_new' (Kd.R_new' (Kd.R_new' (Kd.R_new' ho56 (Kd.R_lt (zO HO1702))) (Kd.R_lt (zO HO1705))) (Kd.R_lt (zO HO1708))) (Kd.R_lt (zO HO1711))) (Kd.R_lt (zO HO1714))) (Kd.R_lt (zO HO1717))) (Kd.R_lt (zO HO1720))) (Kd.R_lt (zO HO1723))) (Kd.R_lt (zO HO1726))) (Kd.R_lt (zO HO1729))) (Kd.R_lt (zO HO1733))) (Kd.R_lt (zO HO1736))) (below_size zB))
     replace HO1702 := Aside0.mk (Kd.R_elder' (zO HO1702) (Kd.R_base ho56) hb)
     replace HO1705 := Aside0.mk (Kd.R_elder' (zO HO1705) (Kd.R_base ho56) hb)
     replace HO1708 := Aside0.mk (Kd.R_elder' (zO HO1708) (Kd.R_base ho56) hb)
     replace HO1711 := Aside0.mk (Kd.R_elder' (zO HO1711) (Kd.R_base ho56) hb)
     replace HO1714 := Aside0.mk (Kd.R_elder' (zO HO1714) (Kd.R_base ho56) hb)
     replace HO1717 := Aside0.mk (Kd.R_elder' (zO HO1717) (Kd.R_base ho56) hb)
     replace HO1720 := Aside0.mk (Kd.R_elder' (zO HO1720) (Kd.R_base ho56) hb)
     replace HO1723 := Aside0.mk (Kd.R_elder' (zO HO1723) (Kd.R_base ho56) hb)
     replace HO1726 := Aside0.mk (Kd.R_elder' (zO HO1726) (Kd.R_base ho56) hb)
     replace HO1729 := Aside0.mk (Kd.R_elder' (zO HO1729) (Kd.R_base ho56) hb)
     replace HO1733 := Aside0.mk (Kd.R_elder' (zO HO1733) (Kd.R_base ho56) hb)
     replace HO1736 := Aside0.mk (Kd.R_elder' (zO HO1736) (Kd.R_base ho56) hb)
     replace BK1698 := bB BK1698 hb
     replace HB := bS hb
     clear hb ho56
     obtain ⟨Ao57, co57, eo57⟩ := Kd.R_slice HO1740.out
     (first | subst eo57 | (injection eo57 with f1_ f2_ f3_; have f4_ := f1_.symm; have f5_ := f3_.symm; clear f1_ f2_ f3_; subst f4_; subst f5_))
     refine hK.out _ _ zS (fun hHeld => ?_)
     clear hK K
     refine nU ?_
     refine oU 21 (some 59) (fun K hK => ?_)
     refine goes_ Try.func72 (by kernel_rfl) rfl #[.agg #[.int .i64 a0_0, .int .i64 a0_1, .int .i64 a0_2], .slice Ao57 y1738.length co57] (by rfl) rfl rfl zM ?_
     with_reducible refine (barscanlaw05_derive.calls k a0_0 a0_1 a0_2 _ _ y1738 t1741 _ ?side1 ?side2 A22.out).mono ?_
     (case side1 => exact zN HO1740)
     (case side2 => exact (Kd.R_reads' HO1740.out).2.1)
     rintro e w58 ⟨v1742, rfl, ho0, hb⟩
     refine ⟨_, rfl, ?_⟩
     have HO1743 := Aside0.mk (Kd.R_lower (Kd.R_new' (Kd.R_new' (Kd.R_new' (Kd.R_new' (Kd.R_new' (Kd.R_new' (Kd.R_new' (Kd.R_new' (Kd.R_new' (Kd.R_new' (Kd.R_new' (Kd.R_new' (Kd.R_new' ho0 (Kd.R_lt (zO HO1702))) (Kd.R_lt (zO HO1705))) (Kd.R_lt (zO HO1708))) (Kd.R_lt (zO HO1711))) (Kd.R_lt (zO HO1714))) (Kd.R_lt (zO HO1717))) (Kd.R_lt (zO HO1720))) (Kd.R_lt (zO HO1723))) (Kd.R_lt (zO HO1726))) (Kd.R_lt (zO HO1729))) (Kd.R_lt (zO HO1733))) (Kd.R_lt (zO HO1736))) (Kd.R_lt (zO HO1740))) (below_size zB))
     replace HO1702 := Aside0.mk (Kd.R_elder' (zO HO1702) (Kd.R_base ho0) hb)
     replace HO1705 := Aside0.mk (Kd.R_elder' (zO HO1705) (Kd.R_base ho0) hb)
     replace HO1708 := Aside0.mk (Kd.R_elder' (zO HO1708) (Kd.R_base ho0) hb)
     replace HO1711 := Aside0.mk (Kd.R_elder' (zO HO1711) (Kd.R_base ho0) hb)
     replace HO1714 := Aside0.mk (Kd.R_elder' (zO HO1714) (Kd.R_base ho0) hb)
     replace HO1717 := Aside0.mk (Kd.R_elder' (zO HO1717) (Kd.R_base ho0) hb)
     replace HO1720 := Aside0.mk (Kd.R_elder' (zO HO1720) (Kd.R_base ho0) hb)
     replace HO1723 := Aside0.mk (Kd.R_elder' (zO HO1723) (Kd.R_base ho0) hb)
     replace HO1726 := Aside0.mk (Kd.R_elder' (zO HO1726) (Kd.R_base ho0) hb)
     replace HO1729 := Aside0.mk (Kd.R_elder' (zO HO1729) (Kd.R_base ho0) hb)
     replace HO1733 := Aside0.mk (Kd.R_elder' (zO HO1733) (Kd.R_base ho0) hb)
     replace HO1736 := Aside0.mk (Kd.R_elder' (zO HO1736) (Kd.R_base ho0) hb)
     replace HO1740 := Aside0.mk (Kd.R_elder' (zO HO1740) (Kd.R_base ho0) hb)
     replace BK1698 := bB BK1698 hb
     replace HB := bS hb
     (try clear hb)
     (try clear hb2)
     (try clear hk)
     (try clear hi)
     (try clear ho0)
     obtain ⟨Ao59, co59, eo59⟩ := Kd.R_slice HO1743.out
     (first | subst eo59 | (injection eo59 with f1_ f2_ f3_; have f4_ := f1_.symm; have f5_ := f3_.symm; clear f1_ f2_ f3_; subst f4_; subst f5_))
     refine hK.out _ _ zS (fun hHeld => ?_)
     clear hK K
     refine nU ?_
     refine pU 22 (some 60) ?_
     refine pU 23 (some 61) ?_
     refine pU 24 (some 62) ?_
     refine pU 25 (some 63) ?_
     refine oU 26 (some 64) (fun K hK => ?_)
     refine goes_ Try.func48 (by kernel_rfl) rfl #[] (by rfl) rfl rfl zM ?_
     with_reducible refine (barscanlaw05_examples.calls k  t1744 _ A24.out).mono ?_
     rintro e w60 ⟨rfl, hb⟩
     refine ⟨_, rfl, ?_⟩
     replace HO1702 := Aside0.mk (Kd.R_below (zO HO1702) hb)
     replace HO1705 := Aside0.mk (Kd.R_below (zO HO1705) hb)
     replace HO1708 := Aside0.mk (Kd.R_below (zO HO1708) hb)
     replace HO1711 := Aside0.mk (Kd.R_below (zO HO1711) hb)
     replace HO1714 := Aside0.mk (Kd.R_below (zO HO1714) hb)
     replace HO1717 := Aside0.mk (Kd.R_below (zO HO1717) hb)
     replace HO1720 := Aside0.mk (Kd.R_below (zO HO1720) hb)
     replace HO1723 := Aside0.mk (Kd.R_below (zO HO1723) hb)
     replace HO1726 := Aside0.mk (Kd.R_below (zO HO1726) hb)
     replace HO1729 := Aside0.mk (Kd.R_below (zO HO1729) hb)
     replace HO1733 := Aside0.mk (Kd.R_below (zO HO1733) hb)
     replace HO1736 := Aside0.mk (Kd.R_below (zO HO1736) hb)
     replace HO1740 := Aside0.mk (Kd.R_below (zO HO1740) hb)
     replace HO1743 := Aside0.mk (Kd.R_below (zO HO1743) hb)
     replace BK1698 := bB BK1698 hb
     replace HB := bS hb
     (try clear hb)
     (try clear hb2)
     (try clear hk)
     (try clear hi)
     refine hK.out _ _ zS (fun hHeld => ?_)
     clear hK K
     refine nU ?_
     refine pU 27 (some 65) ?_
     refine pU 28 (some 6) ?_
     refine dU ?_
     try go_wp2
     go_ret
     exact ⟨zE, zB⟩
    ·rw [if_neg c23] at H
     exact absurd H (by simp)
   ·replace c21 := Bool.eq_false_iff.mpr c21
    subst c21
    rw [if_neg (show ¬ (false = true) by decide)] at H
    exact absurd H (by simp)
  ·replace c17 := Bool.eq_false_iff.mpr c17
   subst c17
   rw [if_neg (show ¬ (false = true) by decide)] at H
   exact absurd H (by simp)
 ·replace c5 := Bool.eq_false_iff.mpr c5
  subst c5
  rw [if_neg (show ¬ (false = true) by decide)] at H
  obtain ⟨t1745, A61, H⟩ := zD H
  obtain rfl := Option.some.inj H
  go_enter Try.func18, Try.ntmps18
  go_wp2_with (first | ((with_reducible refine gate_dst (N := 3) rfl ?_); (try (refine gate_guard (by rfl) ?_; dsimp only)); refine zBox 3 #[.int .i64 a0_0, .int .i64 a0_1, .int .i64 a0_2] 23 ?_; clear HB; intro gb1698 w62 BK1698 GE1698 HB; (try clear z1698_0 z1698_1 z1698_2 f1698_0 f1698_1 f1698_2); obtain ⟨z1698_0, z1698_1, z1698_2, f1698_0, f1698_1, f1698_2⟩ := cz3 BK1698) | (go_at_call 47; (with_reducible refine (valid2.calls k a0_0 a0_1 a0_2 40 _ _ l1 _ _ l2 false _ ?side1 ?side2 ?side3 ?side4 A4.out).mono ?_); (case side1 => exact zN HR1); (case side2 => exact HC1.out); (case side3 => exact zN HR2); (case side4 => exact HC2.out); rintro e w64 ⟨rfl, hb⟩; replace BK1698 := bB BK1698 hb; replace HB := bS hb; (try clear hb)) | ((with_reducible refine gate_callee (f := 48) rfl ?_); refine gL (some 15) Try.func48 #[] ?_; (with_reducible refine zCall (barscanlaw05_examples.calls k  t1745 _ A61.out) ?_); intro w65 hb; replace BK1698 := bB BK1698 hb; replace HB := bS hb; (try clear hb)))
  go_ret
  exact ⟨zE, zB⟩
end Go.Proofs.Ytlhaclammaaabaa.Pg
