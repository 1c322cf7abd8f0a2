-- Written by a program of this session over the print of the kit.
import Derived.Test.YtlhaclammaaabaaY
import Derived.Test.YtlhaclammaaabaaB1
import Derived.Test.YtlhaclammaaabaaB2
import Derived.Test.YtlhaclammaaabaaB3
import Derived.Test.YtlhaclammaaabaaB5
import Derived.Test.YtlhaclammaaabaaB40
import Derived.Test.YtlhaclammaaabaaB42
import Derived.Test.YtlhaclammaaabaaB47
namespace Go.Proofs.Ytlhaclammaaabaa.Pg
open Go.RowKit Go.Proofs.YtlhaclammaaabaaW.PrintWords Go.Proofs.YtlhaclammaaabaaW.PrintLast Go.Proofs.YtlhaclammaaabaaW.PrintMore
attribute [local go_sem] max2_int min2_int max_two min_two max_three min_three max_four min_four
set_option linter.unusedVariables false
set_option maxHeartbeats 8000000
set_option maxRecDepth 100000
set_option linter.unusedSimpArgs false
/-! ### barscanlaw05_PolynomialAdds: function 20 -/
def barscanlaw05_PolynomialAdds.f (k : Nat) (a0_0 : Int) (a0_1 : Int) (a0_2 : Int) (l1 : List Int) (l2 : List Int) (a3 : Int) : Option (Bool) := (polynomial_Add.f k a0_0 a0_1 a0_2 l1 l2).bind fun bt1803 => ((barscanref05_Add.f k a0_0 a0_1 a0_2 l1 l2).bind fun bt1807 => ((polynomial_Scale.f k a0_0 a0_1 a0_2 l1 a3).bind fun bt1811 => ((barscanref05_Scale.f k a0_0 a0_1 a0_2 l1 a3).bind fun bt1815 => ((polynomial_Derive.f k a0_0 a0_1 a0_2 l1).bind fun bt1819 => ((barscanref05_Derive.f k a0_0 a0_1 a0_2 l1).bind fun bt1823 => ((barscanlaw05_same.f k bt1803.1 bt1807.1).bind fun t1827 => (if t1827 = true then (if bt1803.2 = bt1807.2 then ((barscanlaw05_same.f k bt1811.1 bt1815.1).bind fun t1828 => (if t1828 = true then (if bt1811.2 = bt1815.2 then ((barscanlaw05_same.f k bt1819.1 bt1823.1).bind fun t1829 => (if t1829 = true then (if bt1819.2 = bt1823.2 then ((polynomial_Valid.f k a0_0 a0_1 a0_2 l1).bind fun t1830 => ((barscanref05_Valid.f k a0_0 a0_1 a0_2 l1).bind fun t1831 => (if (t1830 == t1831) = true then ((polynomial_Trim.f k l1).bind fun t1832 => ((barscanref05_Trim.f k l1).bind fun t1835 => ((barscanlaw05_same.f k t1832 t1835).bind fun t1838 => (if t1838 = true then ((barscanlaw05_examples.f k).bind fun t1839 => (some t1839)) else (none))))) else (none)))) else (none)) else (none))) else (none)) else (none))) else (none)) else (none))))))))
theorem barscanlaw05_PolynomialAdds.mono : ∀ a0 a1 a2 a3 a4 a5 k, LeO (barscanlaw05_PolynomialAdds.f k a0 a1 a2 a3 a4 a5) (barscanlaw05_PolynomialAdds.f (k + 1) a0 a1 a2 a3 a4 a5) := by
 intro a0 a1 a2 a3 a4 a5 k
 unfold barscanlaw05_PolynomialAdds.f
 repeat' first
   | (with_reducible exact barscanlaw05_examples.mono _)
   | (with_reducible exact barscanlaw05_same.mono _ _ _)
   | (with_reducible exact barscanref05_Add.mono _ _ _ _ _ _)
   | (with_reducible exact barscanref05_Derive.mono _ _ _ _ _)
   | (with_reducible exact barscanref05_Scale.mono _ _ _ _ _ _)
   | (with_reducible exact barscanref05_Trim.mono _ _)
   | (with_reducible exact barscanref05_Valid.mono _ _ _ _ _)
   | (with_reducible exact polynomial_Add.mono _ _ _ _ _ _)
   | (with_reducible exact polynomial_Derive.mono _ _ _ _ _)
   | (with_reducible exact polynomial_Scale.mono _ _ _ _ _ _)
   | (with_reducible exact polynomial_Trim.mono _ _)
   | (with_reducible exact polynomial_Valid.mono _ _ _ _ _)
   | (with_reducible exact LeO.refl _)
   | (with_reducible exact LeO.none _)
   | (with_reducible refine LeO.ite ?_ ?_)
   | (with_reducible refine LeO.bind ?_ (fun _ => ?_))
   | exact barscanlaw05_examples.mono _
   | exact barscanlaw05_same.mono _ _ _
   | exact barscanref05_Add.mono _ _ _ _ _ _
   | exact barscanref05_Derive.mono _ _ _ _ _
   | exact barscanref05_Scale.mono _ _ _ _ _ _
   | exact barscanref05_Trim.mono _ _
   | exact barscanref05_Valid.mono _ _ _ _ _
   | exact polynomial_Add.mono _ _ _ _ _ _
   | exact polynomial_Derive.mono _ _ _ _ _
   | exact polynomial_Scale.mono _ _ _ _ _ _
   | exact polynomial_Trim.mono _ _
   | exact polynomial_Valid.mono _ _ _ _ _
   | exact LeO.none _
   | refine LeO.ite ?_ ?_
   | refine LeO.bind ?_ (fun _ => ?_)
def barscanlaw05_PolynomialAdds.T7 : Bool × List (List Nat × List Nat) := (true, [([], []), ([], []), ([0, 1], [0, 1]), ([2, 2], [2]), ([3], [3]), ([3], [3]), ([4, 5, 3], [3, 4, 5]), ([3, 6], [3, 6]), ([7, 3], [7]), ([8], [8]), ([8], [8]), ([9, 10, 8, 8], [8, 9, 10]), ([8, 11], [8, 11]), ([12, 11], [12]), ([13], [13]), ([13], [13]), ([14, 15, 13], [13, 14, 15]), ([13, 16], [13, 16]), ([17, 13], [17]), ([18], [18]), ([18], [18]), ([19, 20, 18, 18], [18, 19, 20]), ([18, 21], [18, 21]), ([22, 21], [22]), ([23], [23]), ([23], [23]), ([24, 25, 23], [23, 24, 25]), ([23, 26], [23, 26]), ([27, 23], [27]), ([28], [28]), ([28], [28]), ([29, 30, 28, 28], [28, 29, 30]), ([28], [28]), ([28], [28]), ([32, 33, 31, 28], [28, 32, 33]), ([31, 34, 28], [28, 31, 34]), ([28, 35], [28, 35]), ([36, 34], [36]), ([37], [37]), ([38, 37, 37], [37, 38]), ([37], [37]), ([40, 39, 37], [37, 40]), ([39, 41, 41, 37], [37, 39, 41]), ([37, 42], [37, 42]), ([43, 42], [43]), ([44, 44], [44]), ([44, 45], [44, 45]), ([46, 45, 0, 1, 2, 3, 4, 5, 6, 7, 8, 9, 10, 11, 12, 13, 14, 15, 16, 17, 18, 19, 20, 21, 22, 23, 24, 25, 26, 27, 28, 29, 30, 31, 32, 33, 34, 35, 36, 37, 38, 39, 40, 41, 42, 43, 44, 45, 46], [46])])
def barscanlaw05_PolynomialAdds.B7 : List Nat := [0, 0, 3, 7, 15, 15, 63, 127, 255, 511, 511, 2047, 4095, 8191, 16383, 16383, 65535, 131071, 262143, 524287, 524287, 2097151, 4194303, 8388607, 16777215, 16777215, 67108863, 134217727, 268435455, 536870911, 536870911, 2147483647, 536870911, 536870911, 17179869183, 34359738367, 68719476735, 137438953471, 274877906943, 549755813887, 274877906943, 2199023255551, 4398046511103, 8796093022207, 17592186044415, 35184372088831, 70368744177663, 140737488355327]
theorem barscanlaw05_PolynomialAdds.tab7 : rtab .any (opsOf Try.f20 7) = barscanlaw05_PolynomialAdds.T7 := by kernel_rfl
theorem barscanlaw05_PolynomialAdds.bits7 : waitsOk barscanlaw05_PolynomialAdds.T7.2 barscanlaw05_PolynomialAdds.B7 = true := by kernel_rfl
theorem barscanlaw05_PolynomialAdds.calls (k : Nat) (a0_0 : Int) (a0_1 : Int) (a0_2 : Int) (A1 : Option Addr) (c1 : Nat) (l1 : List Int) (A2 : Option Addr) (c2 : Nat) (l2 : List Int) (a3 : Int) (r : Bool) (w : World) (hr1 : Kd.C (Kd.int .i64) w A1 l1.length l1) (hc1 : l1.length ≤ c1) (hr2 : Kd.C (Kd.int .i64) w A2 l2.length l2) (hc2 : l2.length ≤ c2) (h : barscanlaw05_PolynomialAdds.f k a0_0 a0_1 a0_2 l1 l2 a3 = some r) :
  Calls Try.prog 20 #[.agg #[.int .i64 a0_0, .int .i64 a0_1, .int .i64 a0_2], .slice A1 l1.length c1, .slice A2 l2.length c2, .int .i64 a3] w fun e w' => e = .returned (.bool r) ∧ Below w.heap.size w w' := by
 have hu23 := Try.underlying23
 have HR1 := Aside0.mk hr1
 have HC1 := Aside0.mk hc1
 clear hr1 hc1
 have HR2 := Aside0.mk hr2
 have HC2 := Aside0.mk hc2
 clear hr2 hc2
 have HB := Aside0.mk (Below.refl w.heap.size w)
 have H := h
 unfold barscanlaw05_PolynomialAdds.f at H
 clear h
 obtain ⟨⟨t1803, t1806⟩, A5, H⟩ := zD H
 dsimp only at H
 obtain ⟨⟨t1807, t1810⟩, A6, H⟩ := zD H
 dsimp only at H
 obtain ⟨⟨t1811, t1814⟩, A7, H⟩ := zD H
 dsimp only at H
 obtain ⟨⟨t1815, t1818⟩, A8, H⟩ := zD H
 dsimp only at H
 obtain ⟨⟨t1819, t1822⟩, A9, H⟩ := zD H
 dsimp only at H
 obtain ⟨⟨t1823, t1826⟩, A10, H⟩ := zD H
 dsimp only at H
 obtain ⟨t1827, A11, H⟩ := zD H
 by_cases c12 : t1827 = true
 ·subst c12
  rw [if_pos rfl] at H
  by_cases c13 : t1806 = t1810
  ·rw [if_pos c13] at H
   have c13b0 := beq_iff_eq.mpr c13
   have c13b1 := bne_eq_false_iff_eq.mpr c13
   clear c13
   obtain ⟨t1828, A14, H⟩ := zD H
   by_cases c15 : t1828 = true
   ·subst c15
    rw [if_pos rfl] at H
    by_cases c16 : t1814 = t1818
    ·rw [if_pos c16] at H
     have c16b0 := beq_iff_eq.mpr c16
     have c16b1 := bne_eq_false_iff_eq.mpr c16
     clear c16
     obtain ⟨t1829, A17, H⟩ := zD H
     by_cases c18 : t1829 = true
     ·subst c18
      rw [if_pos rfl] at H
      by_cases c19 : t1822 = t1826
      ·rw [if_pos c19] at H
       have c19b0 := beq_iff_eq.mpr c19
       have c19b1 := bne_eq_false_iff_eq.mpr c19
       clear c19
       obtain ⟨t1830, A20, H⟩ := zD H
       obtain ⟨t1831, A21, H⟩ := zD H
       by_cases c22 : (t1830 == t1831) = true
       ·rw [if_pos c22] at H
        have c22b0 : (t1830 == t1831) = true := c22
        (try (have c22b1 : decide (t1830 = t1831) = true := by simpa using c22))
        (try (have c22b2 : (t1830 == t1831) = true := by simpa using c22))
        clear c22
        obtain ⟨t1832, A23, H⟩ := zD H
        obtain ⟨t1835, A24, H⟩ := zD H
        obtain ⟨t1838, A25, H⟩ := zD H
        by_cases c26 : t1838 = true
        ·subst c26
         rw [if_pos rfl] at H
         obtain ⟨t1839, A27, H⟩ := zD H
         obtain rfl := Option.some.inj H
         go_enter Try.func20, Try.ntmps20
         try go_wp2_with (first | ((with_reducible refine gate_dst (N := 4) rfl ?_); refine zBox 4 #[.int .i64 a0_0, .int .i64 a0_1, .int .i64 a0_2] 23 ?_; clear HB; intro gb1802 w28 BK1802 GE1802 HB; (try clear z1802_0 z1802_1 z1802_2 f1802_0 f1802_1 f1802_2); obtain ⟨z1802_0, z1802_1, z1802_2, f1802_0, f1802_1, f1802_2⟩ := cz3 BK1802) | ((with_reducible refine gate_callee (f := 71) rfl ?_); refine gL (some 25) Try.func71 #[.agg #[.int .i64 a0_0, .int .i64 a0_1, .int .i64 a0_2], .slice A1 l1.length c1, .slice A2 l2.length c2] ?_; (with_reducible refine (polynomial_Add.calls k a0_0 a0_1 a0_2 _ _ l1 _ _ l2 t1803 t1806 _ ?side1 ?side2 ?side3 ?side4 A5.out).mono ?_); (case side1 => exact zN HR1); (case side2 => exact HC1.out); (case side3 => exact zN HR2); (case side4 => exact HC2.out); rintro e w30 ⟨v1804, rfl, ho0, hb⟩; refine ⟨_, rfl, ?_⟩; have HO1805 := Aside0.mk (Kd.R_lower ho0 (below_size zB)); replace BK1802 := bB BK1802 hb; replace HB := bS hb; (try clear hb); (try clear ho0); (try clear z1802_0 z1802_1 z1802_2 f1802_0 f1802_1 f1802_2); obtain ⟨z1802_0, z1802_1, z1802_2, f1802_0, f1802_1, f1802_2⟩ := cz3 BK1802) | ((with_reducible refine gate_callee (f := 76) rfl ?_); refine gL (some 32) Try.func76 #[.agg #[.int .i64 a0_0, .int .i64 a0_1, .int .i64 a0_2], .slice A1 l1.length c1, .slice A2 l2.length c2] ?_; (with_reducible refine (barscanref05_Add.calls k a0_0 a0_1 a0_2 _ _ l1 _ _ l2 t1807 t1810 _ ?side1 ?side2 ?side3 ?side4 A6.out).mono ?_); (case side1 => exact zN HR1); (case side2 => exact HC1.out); (case side3 => exact zN HR2); (case side4 => exact HC2.out); rintro e w32 ⟨v1808, rfl, ho0, hb⟩; refine ⟨_, rfl, ?_⟩; have HO1809 := Aside0.mk (Kd.R_lower (Kd.R_new' ho0 (Kd.R_lt (zO HO1805))) (below_size zB)); replace HO1805 := Aside0.mk (Kd.R_elder' (zO HO1805) (Kd.R_base ho0) hb); replace BK1802 := bB BK1802 hb; replace HB := bS hb; (try clear hb); (try clear ho0); (try clear z1802_0 z1802_1 z1802_2 f1802_0 f1802_1 f1802_2); obtain ⟨z1802_0, z1802_1, z1802_2, f1802_0, f1802_1, f1802_2⟩ := cz3 BK1802) | ((with_reducible refine gate_callee (f := 77) rfl ?_); refine gL (some 39) Try.func77 #[.agg #[.int .i64 a0_0, .int .i64 a0_1, .int .i64 a0_2], .slice A1 l1.length c1, .int .i64 a3] ?_; (with_reducible refine (polynomial_Scale.calls k a0_0 a0_1 a0_2 _ _ l1 a3 t1811 t1814 _ ?side1 ?side2 A7.out).mono ?_); (case side1 => exact zN HR1); (case side2 => exact HC1.out); rintro e w34 ⟨v1812, rfl, ho0, hb⟩; refine ⟨_, rfl, ?_⟩; have HO1813 := Aside0.mk (Kd.R_lower (Kd.R_new' (Kd.R_new' ho0 (Kd.R_lt (zO HO1805))) (Kd.R_lt (zO HO1809))) (below_size zB)); replace HO1805 := Aside0.mk (Kd.R_elder' (zO HO1805) (Kd.R_base ho0) hb); replace HO1809 := Aside0.mk (Kd.R_elder' (zO HO1809) (Kd.R_base ho0) hb); replace BK1802 := bB BK1802 hb; replace HB := bS hb; (try clear hb); (try clear ho0); (try clear z1802_0 z1802_1 z1802_2 f1802_0 f1802_1 f1802_2); obtain ⟨z1802_0, z1802_1, z1802_2, f1802_0, f1802_1, f1802_2⟩ := cz3 BK1802) | ((with_reducible refine gate_callee (f := 78) rfl ?_); refine gL (some 46) Try.func78 #[.agg #[.int .i64 a0_0, .int .i64 a0_1, .int .i64 a0_2], .slice A1 l1.length c1, .int .i64 a3] ?_; (with_reducible refine (barscanref05_Scale.calls k a0_0 a0_1 a0_2 _ _ l1 a3 t1815 t1818 _ ?side1 ?side2 A8.out).mono ?_); (case side1 => exact zN HR1); (case side2 => exact HC1.out); rintro e w36 ⟨v1816, rfl, ho0, hb⟩; refine ⟨_, rfl, ?_⟩; have HO1817 := Aside0.mk (Kd.R_lower (Kd.R_new' (Kd.R_new' (Kd.R_new' ho0 (Kd.R_lt (zO HO1805))) (Kd.R_lt (zO HO1809))) (Kd.R_lt (zO HO1813))) (below_size zB)); replace HO1805 := Aside0.mk (Kd.R_elder' (zO HO1805) (Kd.R_base ho0) hb); replace HO1809 := Aside0.mk (Kd.R_elder' (zO HO1809) (Kd.R_base ho0) hb); replace HO1813 := Aside0.mk (Kd.R_elder' (zO HO1813) (Kd.R_base ho0) hb); replace BK1802 := bB BK1802 hb; replace HB := bS hb; (try clear hb); (try clear ho0); (try clear z1802_0 z1802_1 z1802_2 f1802_0 f1802_1 f1802_2); obtain ⟨z1802_0, z1802_1, z1802_2, f1802_0, f1802_1, f1802_2⟩ := cz3 BK1802) | ((with_reducible refine gate_callee (f := 79) rfl ?_); refine gL (some 52) Try.func79 #[.agg #[.int .i64 a0_0, .int .i64 a0_1, .int .i64 a0_2], .slice A1 l1.length c1] ?_; (with_reducible refine (polynomial_Derive.calls k a0_0 a0_1 a0_2 _ _ l1 t1819 t1822 _ ?side1 ?side2 A9.out).mono ?_); (case side1 => exact zN HR1); (case side2 => exact HC1.out); rintro e w38 ⟨v1820, rfl, ho0, hb⟩; refine ⟨_, rfl, ?_⟩; have HO1821 := Aside0.mk (Kd.R_lower (Kd.R_new' (Kd.R_new' (Kd.R_new' (Kd.R_new' ho0 (Kd.R_lt (zO HO1805))) (Kd.R_lt (zO HO1809))) (Kd.R_lt (zO HO1813))) (Kd.R_lt (zO HO1817))) (below_size zB)); replace HO1805 := Aside0.mk (Kd.R_elder' (zO HO1805) (Kd.R_base ho0) hb); replace HO1809 := Aside0.mk (Kd.R_elder' (zO HO1809) (Kd.R_base ho0) hb); replace HO1813 := Aside0.mk (Kd.R_elder' (zO HO1813) (Kd.R_base ho0) hb); replace HO1817 := Aside0.mk (Kd.R_elder' (zO HO1817) (Kd.R_base ho0) hb); replace BK1802 := bB BK1802 hb; replace HB := bS hb; (try clear hb); (try clear ho0); (try clear z1802_0 z1802_1 z1802_2 f1802_0 f1802_1 f1802_2); obtain ⟨z1802_0, z1802_1, z1802_2, f1802_0, f1802_1, f1802_2⟩ := cz3 BK1802) | ((with_reducible refine gate_callee (f := 80) rfl ?_); refine gL (some 58) Try.func80 #[.agg #[.int .i64 a0_0, .int .i64 a0_1, .int .i64 a0_2], .slice A1 l1.length c1] ?_; (with_reducible refine (barscanref05_Derive.calls k a0_0 a0_1 a0_2 _ _ l1 t1823 t1826 _ ?side1 ?side2 A10.out).mono ?_); (case side1 => exact zN HR1); (case side2 => exact HC1.out); rintro e w40 ⟨v1824, rfl, ho0, hb⟩; refine ⟨_, rfl, ?_⟩; have HO1825 := Aside0.mk (Kd.R_lower (Kd.R_new' (Kd.R_new' (Kd.R_new' (Kd.R_new' (Kd.R_new' ho0 (Kd.R_lt (zO HO1805))) (Kd.R_lt (zO HO1809))) (Kd.R_lt (zO HO1813))) (Kd.R_lt (zO HO1817))) (Kd.R_lt (zO HO1821))) (below_size zB)); replace HO1805 := Aside0.mk (Kd.R_elder' (zO HO1805) (Kd.R_base ho0) hb); replace HO1809 := Aside0.mk (Kd.R_elder' (zO HO1809) (Kd.R_base ho0) hb); replace HO1813 := Aside0.mk (Kd.R_elder' (zO HO1813) (Kd.R_base ho0) hb); replace HO1817 := Aside0.mk (Kd.R_elder' (zO HO1817) (Kd.R_base ho0) hb); replace HO1821 := Aside0.mk (Kd.R_elder' (zO HO1821) (Kd.R_base ho0) hb); replace BK1802 := bB BK1802 hb; replace HB := bS hb; (try clear hb); (try clear ho0)))
         replace HO1805 := Aside0.mk (Kd.R_drew HO1805.out)
         replace HO1809 := Aside0.mk (Kd.R_drew HO1809.out)
         replace HO1813 := Aside0.mk (Kd.R_drew HO1813.out)
         replace HO1817 := Aside0.mk (Kd.R_drew HO1817.out)
         replace HO1821 := Aside0.mk (Kd.R_drew HO1821.out)
         replace HO1825 := Aside0.mk (Kd.R_drew HO1825.out)
         replace BK1802 := Aside0.mk (blk_drew BK1802.out)
         replace HB := Aside0.mk (below_drew1 HB.out)
         obtain ⟨Ao42, co42, eo42⟩ := Kd.R_slice HO1805.out
         (first | subst eo42 | (injection eo42 with f1_ f2_ f3_; have f4_ := f1_.symm; have f5_ := f3_.symm; clear f1_ f2_ f3_; subst f4_; subst f5_))
         obtain ⟨Ao43, co43, eo43⟩ := Kd.R_slice HO1809.out
         (first | subst eo43 | (injection eo43 with f1_ f2_ f3_; have f4_ := f1_.symm; have f5_ := f3_.symm; clear f1_ f2_ f3_; subst f4_; subst f5_))
         refine start_ (n := 48) (S := fun w' => w'.cell? ⟨gb1802, 0, none⟩ = some (.int .i64 a0_0) ∧ w'.cell? ⟨gb1802, 1, none⟩ = some (.int .i64 a0_1) ∧ w'.cell? ⟨gb1802, 2, none⟩ = some (.int .i64 a0_2)) (ds := []) #[false, false, false, false, false, false, false, false, false, false, false, false, false, false, false, false, false, false, false, false, false, false, false, false, false, false, false, false, false, false, false, false, false, false, false, false, false, false, false, false, false, false, false, false, false, false, false, false] (by kernel_rfl) rfl rfl zS (fun hHeld => ?_); refine with_tabW barscanlaw05_PolynomialAdds.tab7 barscanlaw05_PolynomialAdds.bits7 (fun HT_ HW_ => ?_)
         generalize w40.drew = w41 at HO1805 HO1809 HO1813 HO1817 HO1821 HO1825 BK1802 HB hHeld ⊢
         refine pU 0 (some 61) ?_
         refine pU 1 (some 62) ?_
         refine oU 2 (some 63) (fun K hK => ?_)
         refine goes_ Try.func55 (by kernel_rfl) rfl #[.slice Ao42 t1803.length co42, .slice Ao43 t1807.length co43] (by rfl) rfl rfl zM ?_
         with_reducible refine (barscanlaw05_same.calls k _ _ t1803 _ _ t1807 true _ ?side1 ?side2 ?side3 ?side4 A11.out).mono ?_
         (case side1 => exact zN HO1805)
         (case side2 => exact (Kd.R_reads' HO1805.out).2.1)
         (case side3 => exact zN HO1809)
         (case side4 => exact (Kd.R_reads' HO1809.out).2.1)
         rintro e w' ⟨rfl, ⟨nd, rfl⟩⟩
         refine ⟨_, rfl, ?_⟩
         obtain ⟨Ao44, co44, eo44⟩ := Kd.R_slice HO1813.out
         (first | subst eo44 | (injection eo44 with f1_ f2_ f3_; have f4_ := f1_.symm; have f5_ := f3_.symm; clear f1_ f2_ f3_; subst f4_; subst f5_))
         obtain ⟨Ao45, co45, eo45⟩ := Kd.R_slice HO1817.out
         (first | subst eo45 | (injection eo45 with f1_ f2_ f3_; have f4_ := f1_.symm; have f5_ := f3_.symm; clear f1_ f2_ f3_; subst f4_; subst f5_))
         refine hK.out _ _ zS (fun hHeld => ?_)
         clear hK K
         refine nU ?_
         refine pU 3 (some 64) ?_
         refine pU 4 (some 65) ?_
         refine pU 5 (some 66) ?_
         refine pU 6 (some 67) ?_
         refine pU 7 (some 68) ?_
         refine pU 8 (some 69) ?_
         refine pU 9 (some 70) ?_
         refine pU 10 (some 71) ?_
         refine oU 11 (some 72) (fun K hK => ?_)
         refine goes_ Try.func55 (by kernel_rfl) rfl #[.slice Ao44 t1811.length co44, .slice Ao45 t1815.length co45] (by rfl) rfl rfl zM ?_
         with_reducible refine (barscanlaw05_same.calls k _ _ t1811 _ _ t1815 true _ ?side1 ?side2 ?side3 ?side4 A14.out).mono ?_
         (case side1 => exact zN HO1813)
         (case side2 => exact (Kd.R_reads' HO1813.out).2.1)
         (case side3 => exact zN HO1817)
         (case side4 => exact (Kd.R_reads' HO1817.out).2.1)
         rintro e w' ⟨rfl, ⟨nd, rfl⟩⟩
         refine ⟨_, rfl, ?_⟩
         obtain ⟨Ao46, co46, eo46⟩ := Kd.R_slice HO1821.out
         (first | subst eo46 | (injection eo46 with f1_ f2_ f3_; have f4_ := f1_.symm; have f5_ := f3_.symm; clear f1_ f2_ f3_; subst f4_; subst f5_))
         obtain ⟨Ao47, co47, eo47⟩ := Kd.R_slice HO1825.out
         (first | subst eo47 | (injection eo47 with f1_ f2_ f3_; have f4_ := f1_.symm; have f5_ := f3_.symm; clear f1_ f2_ f3_; subst f4_; subst f5_))
         refine hK.out _ _ zS (fun hHeld => ?_)
         clear hK K
         refine nU ?_
         refine pU 12 (some 73) ?_
         refine pU 13 (some 74) ?_
         refine pU 14 (some 75) ?_
         refine pU 15 (some 76) ?_
         refine pU 16 (some 77) ?_
         refine pU 17 (some 78) ?_
         refine pU 18 (some 79) ?_
         refine pU 19 (some 80) ?_
         refine pU 20 (some 81) ?_
         refine oU 21 (some 82) (fun K hK => ?_)
         refine goes_ Try.func55 (by kernel_rfl) rfl #[.slice Ao46 t1819.length co46, .slice Ao47 t1823.length co47] (by rfl) rfl rfl zM ?_
         with_reducible refine (barscanlaw05_same.calls k _ _ t1819 _ _ t1823 true _ ?side1 ?side2 ?side3 ?side4 A17.out).mono ?_
         (case side1 => exact zN HO1821)
         (case side2 => exact (Kd.R_reads' HO1821.out).2.1)
         (case side3 => exact zN HO1825)
         (case side4 => exact (Kd.R_reads' HO1825.out).2.1)
         rintro e w' ⟨rfl, ⟨nd, rfl⟩⟩
         refine ⟨_, rfl, ?_⟩
         refine hK.out _ _ zS (fun hHeld => ?_)
         clear hK K
         refine nU ?_
         refine pU 22 (some 83) ?_
         refine pU 23 (some 84) ?_
         refine pU 24 (some 85) ?_
         refine pU 25 (some 86) ?_
         refine pU 26 (some 87) ?_
         refine pU 27 (some 88) ?_
         refine pU 28 (some 89) ?_
         refine pU 30 (some 91) ?_
         refine pU 33 (some 94) ?_
         refine tU 29 (some 90) hHeld ?_
         refine tU 32 (some 93) hHeld ?_
         refine oU 31 (some 92) (fun K hK => ?_)
         refine goes_ Try.func81 (by kernel_rfl) rfl #[.agg #[.int .i64 a0_0, .int .i64 a0_1, .int .i64 a0_2], .slice A1 l1.length c1] (by rfl) rfl rfl zM ?_
         with_reducible refine (polynomial_Valid.calls k a0_0 a0_1 a0_2 _ _ l1 t1830 _ ?side1 ?side2 A20.out).mono ?_
         (case side1 => repeat (first | exact (Kd.C_below HR1.out zB) | (with_reducible refine Kd.C_alloc ?_ _) | (with_reducible refine Kd.C_drewN ?_ _) | (with_reducible refine Kd.C_drew ?_)))
         (case side2 => exact HC1.out)
         rintro e w48 ⟨rfl, hb⟩
         refine ⟨_, rfl, ?_⟩
         replace HO1805 := Aside0.mk (Kd.R_below (zO HO1805) hb)
         replace HO1809 := Aside0.mk (Kd.R_below (zO HO1809) hb)
         replace HO1813 := Aside0.mk (Kd.R_below (zO HO1813) hb)
         replace HO1817 := Aside0.mk (Kd.R_below (zO HO1817) hb)
         replace HO1821 := Aside0.mk (Kd.R_below (zO HO1821) hb)
         replace HO1825 := Aside0.mk (Kd.R_below (zO HO1825) hb)
         replace BK1802 := bB BK1802 hb
         replace HB := bS hb
         (try clear hb)
         (try clear hb2)
         (try clear hk)
         (try clear hi)
         refine hK.out _ _ zS (fun hHeld => ?_)
         clear hK K
         refine nU ?_
         refine oU 34 (some 95) (fun K hK => ?_)
         refine goes_ Try.func82 (by kernel_rfl) rfl #[.agg #[.int .i64 a0_0, .int .i64 a0_1, .int .i64 a0_2], .slice A1 l1.length c1] (by rfl) rfl rfl zM ?_
         with_reducible refine (barscanref05_Valid.calls k a0_0 a0_1 a0_2 _ _ l1 t1831 _ ?side1 ?side2 A21.out).mono ?_
         (case side1 => exact zN HR1)
         (case side2 => exact HC1.out)
         rintro e w49 ⟨rfl, hb⟩
         refine ⟨_, rfl, ?_⟩
         replace HO1805 := Aside0.mk (Kd.R_below (zO HO1805) hb)
         replace HO1809 := Aside0.mk (Kd.R_below (zO HO1809) hb)
         replace HO1813 := Aside0.mk (Kd.R_below (zO HO1813) hb)
         replace HO1817 := Aside0.mk (Kd.R_below (zO HO1817) hb)
         replace HO1821 := Aside0.mk (Kd.R_below (zO HO1821) hb)
         replace HO1825 := Aside0.mk (Kd.R_below (zO HO1825) hb)
         replace BK1802 := bB BK1802 hb
         replace HB := bS hb
         (try clear hb)
         (try clear hb2)
         (try clear hk)
         (try clear hi)
         refine hK.out _ _ zS (fun hHeld => ?_)
         clear hK K
         refine nU ?_
         refine pU 35 (some 96) ?_
         refine pU 36 (some 97) ?_
         refine pU 37 (some 98) ?_
         refine pU 38 (some 99) ?_
         refine pU 40 (some 101) ?_
         refine oU 39 (some 100) (fun K hK => ?_)
         refine goes_ Try.func70 (by kernel_rfl) rfl #[.slice A1 l1.length c1] (by rfl) rfl rfl zM ?_
         with_reducible refine (polynomial_Trim.calls k _ _ l1 t1832 _ ?side1 ?side2 A23.out).mono ?_
         (case side1 => exact zN HR1)
         (case side2 => exact HC1.out)
         rintro e w50 ⟨v1833, rfl, ho0, hb⟩
         refine ⟨_, rfl, ?_⟩
         have HO1834 := Aside0.mk (Kd.R_lower (Kd.R_new' (Kd.R_new' (Kd.R_new' (Kd.R_new' (Kd.R_new' (Kd.R_new' ho0 (Kd.R_lt (zO HO1805))) (Kd.R_lt (zO HO1809))) (Kd.R_lt (zO HO1813))) (Kd.R_lt (zO HO1817))) (Kd.R_lt (zO HO1821))) (Kd.R_lt (zO HO1825))) (below_size zB))
         replace HO1805 := Aside0.mk (Kd.R_elder' (zO HO1805) (Kd.R_base ho0) hb)
         replace HO1809 := Aside0.mk (Kd.R_elder' (zO HO1809) (Kd.R_base ho0) hb)
         replace HO1813 := Aside0.mk (Kd.R_elder' (zO HO1813) (Kd.R_base ho0) hb)
         replace HO1817 := Aside0.mk (Kd.R_elder' (zO HO1817) (Kd.R_base ho0) hb)
         replace HO1821 := Aside0.mk (Kd.R_elder' (zO HO1821) (Kd.R_base ho0) hb)
         replace HO1825 := Aside0.mk (Kd.R_elder' (zO HO1825) (Kd.R_base ho0) hb)
         replace BK1802 := bB BK1802 hb
         replace HB := bS hb
         (try clear hb)
         (try clear hb2)
         (try clear hk)
         (try clear hi)
         (try clear ho0)
         refine hK.out _ _ zS (fun hHeld => ?_)
         clear hK K
         refine nU ?_
         refine oU 41 (some 102) (fun K hK => ?_)
         refine goes_ Try.func83 (by kernel_rfl) rfl #[.slice A1 l1.length c1] (by rfl) rfl rfl zM ?_
         with_reducible refine (barscanref05_Trim.calls k _ _ l1 t1835 _ ?side1 ?side2 A24.out).mono ?_
         (case side1 => exact zN HR1)
         (case side2 => exact HC1.out)
         rintro e w51 ⟨v1836, rfl, ho0, hb⟩
         refine ⟨_, rfl, ?_⟩
         have HO1837 := Aside0.mk (Kd.R_lower (Kd.R_new' (Kd.R_new' (Kd.R_new' (Kd.R_new' (Kd.R_new' (Kd.R_new' (Kd.R_new' ho0 (Kd.R_lt (zO HO1805))) (Kd.R_lt (zO HO1809))) (Kd.R_lt (zO HO1813))) (Kd.R_lt (zO HO1817))) (Kd.R_lt (zO HO1821))) (Kd.R_lt (zO HO1825))) (Kd.R_lt (zO HO1834))) (below_size zB))
         replace HO1805 := Aside0.mk (Kd.R_elder' (zO HO1805) (Kd.R_base ho0) hb)
         replace HO1809 := Aside0.mk (Kd.R_elder' (zO HO1809) (Kd.R_base ho0) hb)
         replace HO1813 := Aside0.mk (Kd.R_elder' (zO HO1813) (Kd.R_base ho0) hb)
         replace HO1817 := Aside0.mk (Kd.R_elder' (zO HO1817) (Kd.R_base ho0) hb)
         replace HO1821 := Aside0.mk (Kd.R_elder' (zO HO1821) (Kd.R_base ho0) hb)
         replace HO1825 := Aside0.mk (Kd.R_elder' (zO HO1825) (Kd.R_base ho0) hb)
         replace HO1834 := Aside0.mk (Kd.R_elder' (zO HO1834) (Kd.R_base ho0) hb)
         replace BK1802 := bB BK1802 hb
         replace HB := bS hb
         (try clear hb)
         (try clear hb2)
         (try clear hk)
         (try clear hi)
         (try clear ho0)
         obtain ⟨Ao52, co52, eo52⟩ := Kd.R_slice HO1834.out
         (first | subst eo52 | (injection eo52 with f1_ f2_ f3_; have f4_ := f1_.symm; have f5_ := f3_.symm; clear f1_ f2_ f3_; subst f4_; subst f5_))
         obtain ⟨Ao53, co53, eo53⟩ := Kd.R_slice HO1837.out
         (first | subst eo53 | (injection eo53 with f1_ f2_ f3_; have f4_ := f1_.symm; have f5_ := f3_.symm; clear f1_ f2_ f3_; subst f4_; subst f5_))
         refine hK.out _ _ zS (fun hHeld => ?_)
         clear hK K
         refine nU ?_
         refine oU 42 (some 103) (fun K hK => ?_)
         refine goes_ Try.func55 (by kernel_rfl) rfl #[.slice Ao52 t1832.length co52, .slice Ao53 t1835.length co53] (by rfl) rfl rfl zM ?_
         with_reducible refine (barscanlaw05_same.calls k _ _ t1832 _ _ t1835 true _ ?side1 ?side2 ?side3 ?side4 A25.out).mono ?_
         (case side1 => exact zN HO1834)
         (case side2 => exact (Kd.R_reads' HO1834.out).2.1)
         (case side3 => exact zN HO1837)
         (case side4 => exact (Kd.R_reads' HO1837.out).2.1)
         rintro e w' ⟨rfl, ⟨nd, rfl⟩⟩
         refine ⟨_, rfl, ?_⟩
         refine hK.out _ _ zS (fun hHeld => ?_)
         clear hK K
         refine nU ?_
         refine pU 43 (some 104) ?_
         refine pU 44 (some 105) ?_
         refine oU 45 (some 106) (fun K hK => ?_)
         refine goes_ Try.func48 (by kernel_rfl) rfl #[] (by rfl) rfl rfl zM ?_
         with_reducible refine (barscanlaw05_examples.calls k  t1839 _ A27.out).mono ?_
         rintro e w54 ⟨rfl, hb⟩
         refine ⟨_, rfl, ?_⟩
         replace HO1805 := Aside0.mk (Kd.R_below (zO HO1805) hb)
         replace HO1809 := Aside0.mk (Kd.R_below (zO HO1809) hb)
         replace HO1813 := Aside0.mk (Kd.R_below (zO HO1813) hb)
         replace HO1817 := Aside0.mk (Kd.R_below (zO HO1817) hb)
         replace HO1821 := Aside0.mk (Kd.R_below (zO HO1821) hb)
         replace HO1825 := Aside0.mk (Kd.R_below (zO HO1825) hb)
         replace HO1834 := Aside0.mk (Kd.R_below (zO HO1834) hb)
         replace HO1837 := Aside0.mk (Kd.R_below (zO HO1837) hb)
         replace BK1802 := bB BK1802 hb
         replace HB := bS hb
         (try clear hb)
         (try clear hb2)
         (try clear hk)
         (try clear hi)
         refine hK.out _ _ zS (fun hHeld => ?_)
         clear hK K
         refine nU ?_
         refine pU 46 (some 107) ?_
         refine pU 47 (some 8) ?_
         refine dU ?_
         try go_wp2
         go_ret
         exact ⟨zE, zB⟩
        ·replace c26 := Bool.eq_false_iff.mpr c26
         subst c26
         rw [if_neg (show ¬ (false = true) by decide)] at H
         exact absurd H (by simp)
       ·rw [if_neg c22] at H
        exact absurd H (by simp)
      ·rw [if_neg c19] at H
       exact absurd H (by simp)
     ·replace c18 := Bool.eq_false_iff.mpr c18
      subst c18
      rw [if_neg (show ¬ (false = true) by decide)] at H
      exact absurd H (by simp)
    ·rw [if_neg c16] at H
     exact absurd H (by simp)
   ·replace c15 := Bool.eq_false_iff.mpr c15
    subst c15
    rw [if_neg (show ¬ (false = true) by decide)] at H
    exact absurd H (by simp)
  ·rw [if_neg c13] at H
   exact absurd H (by simp)
 ·replace c12 := Bool.eq_false_iff.mpr c12
  subst c12
  rw [if_neg (show ¬ (false = true) by decide)] at H
  exact absurd H (by simp)
end Go.Proofs.Ytlhaclammaaabaa.Pg
