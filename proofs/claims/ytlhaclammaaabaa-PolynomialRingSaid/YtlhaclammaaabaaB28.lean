-- Written by a program of this session over the print of the kit.
import Derived.Test.YtlhaclammaaabaaY
import Derived.Test.YtlhaclammaaabaaB1
import Derived.Test.YtlhaclammaaabaaB5
import Derived.Test.YtlhaclammaaabaaB7
import Derived.Test.YtlhaclammaaabaaB26
import Derived.Test.YtlhaclammaaabaaB27
import Derived.Test.YtlhaclammaaabaaHValid
namespace Go.Proofs.Ytlhaclammaaabaa.Pg
open Go.RowKit Go.Proofs.YtlhaclammaaabaaW.PrintWords Go.Proofs.YtlhaclammaaabaaW.PrintLast Go.Proofs.YtlhaclammaaabaaW.PrintMore
attribute [local go_sem] max2_int min2_int max_two min_two max_three min_three max_four min_four
set_option linter.unusedVariables false
set_option maxHeartbeats 8000000
set_option maxRecDepth 100000
set_option linter.unusedSimpArgs false
/-! ### barscanlaw05_PolynomialRing: function 9 -/
def barscanlaw05_PolynomialRing.f (k : Nat) (a0_0 : Int) (a0_1 : Int) (a0_2 : Int) (l1 : List Int) (l2 : List Int) (l3 : List Int) (a4 : Int) : Option (Bool) := (valid3.f k a0_0 a0_1 a0_2 40 l1 l2 l3).bind fun t1191 => (if t1191 = true then (if a4 < 0 then ((barscanlaw05_examples.f k).bind fun t1192 => (some t1192)) else (if a4 ≥ a0_1 then ((barscanlaw05_examples.f k).bind fun t1193 => (some t1193)) else ((barscanlaw05_mul.f k a0_0 a0_1 a0_2 l1 l2).bind fun t1194 => ((barscanlaw05_add.f k a0_0 a0_1 a0_2 l1 l2).bind fun t1197 => ((barscanlaw05_add.f k a0_0 a0_1 a0_2 l2 l1).bind fun t1200 => ((barscanlaw05_same.f k t1197 t1200).bind fun t1203 => (if t1203 = true then ((barscanlaw05_mul.f k a0_0 a0_1 a0_2 l2 l1).bind fun t1204 => ((barscanlaw05_same.f k t1194 t1204).bind fun t1207 => (if t1207 = true then ((barscanlaw05_add.f k a0_0 a0_1 a0_2 l1 l2).bind fun t1208 => ((barscanlaw05_add.f k a0_0 a0_1 a0_2 t1208 l3).bind fun t1211 => ((barscanlaw05_add.f k a0_0 a0_1 a0_2 l2 l3).bind fun t1214 => ((barscanlaw05_add.f k a0_0 a0_1 a0_2 l1 t1214).bind fun t1217 => ((barscanlaw05_same.f k t1211 t1217).bind fun t1220 => (if t1220 = true then ((barscanlaw05_mul.f k a0_0 a0_1 a0_2 t1194 l3).bind fun t1221 => ((barscanlaw05_mul.f k a0_0 a0_1 a0_2 l2 l3).bind fun t1224 => ((barscanlaw05_mul.f k a0_0 a0_1 a0_2 l1 t1224).bind fun t1227 => ((barscanlaw05_same.f k t1221 t1227).bind fun t1230 => (if t1230 = true then ((barscanlaw05_add.f k a0_0 a0_1 a0_2 l2 l3).bind fun t1231 => ((barscanlaw05_mul.f k a0_0 a0_1 a0_2 l1 t1231).bind fun t1234 => ((barscanlaw05_mul.f k a0_0 a0_1 a0_2 l1 l3).bind fun t1237 => ((barscanlaw05_add.f k a0_0 a0_1 a0_2 t1194 t1237).bind fun t1240 => ((barscanlaw05_same.f k t1234 t1240).bind fun t1243 => (if t1243 = true then ((polynomial_Eval.f k a0_0 a0_1 a0_2 l1 a4).bind fun bt1244 => ((polynomial_Eval.f k a0_0 a0_1 a0_2 l2 a4).bind fun bt1246 => ((barscanlaw05_add.f k a0_0 a0_1 a0_2 l1 l2).bind fun t1248 => ((polynomial_Eval.f k a0_0 a0_1 a0_2 t1248 a4).bind fun bt1251 => ((polynomial_Eval.f k a0_0 a0_1 a0_2 t1194 a4).bind fun bt1253 => ((galois_Add.f k a0_0 a0_1 a0_2 bt1244.1 bt1246.1).bind fun bt1255 => ((galois_Mul.f k a0_0 a0_1 a0_2 bt1244.1 bt1246.1).bind fun bt1257 => (if bt1244.2 = 0 then (if bt1246.2 = 0 then (if bt1251.2 = 0 then (if bt1253.2 = 0 then (if bt1255.2 = 0 then (if bt1257.2 = 0 then (if bt1251.1 = bt1255.1 then (if bt1253.1 = bt1257.1 then ((barscanlaw05_mul.f k a0_0 a0_1 a0_2 l1 (([1] : List Int))).bind fun t1262 => ((barscanlaw05_same.f k t1262 l1).bind fun t1265 => (if t1265 = true then ((barscanlaw05_add.f k a0_0 a0_1 a0_2 l1 ([] : List Int)).bind fun t1266 => ((barscanlaw05_same.f k t1266 l1).bind fun t1269 => (if t1269 = true then ((barscanlaw05_examples.f k).bind fun t1270 => (some t1270)) else (none)))) else (none)))) else (none)) else (none)) else (none)) else (none)) else (none)) else (none)) else (none)) else (none))))))))) else (none))))))) else (none)))))) else (none))))))) else (none)))) else (none)))))))) else ((barscanlaw05_examples.f k).bind fun t1271 => (some t1271)))
theorem barscanlaw05_PolynomialRing.mono : ∀ a0 a1 a2 a3 a4 a5 a6 k, LeO (barscanlaw05_PolynomialRing.f k a0 a1 a2 a3 a4 a5 a6) (barscanlaw05_PolynomialRing.f (k + 1) a0 a1 a2 a3 a4 a5 a6) := by
 intro a0 a1 a2 a3 a4 a5 a6 k
 unfold barscanlaw05_PolynomialRing.f
 have m0_ := @barscanlaw05_add.mono
 have m1_ := @barscanlaw05_examples.mono
 have m2_ := @barscanlaw05_mul.mono
 have m3_ := @barscanlaw05_same.mono
 have m4_ := @galois_Add.mono
 have m5_ := @galois_Mul.mono
 have m6_ := @polynomial_Eval.mono
 have m7_ := @valid3.mono
 exact zMo
def barscanlaw05_PolynomialRing.T4 : Bool × List (List Nat × List Nat) := (true, [([], []), ([], []), ([], []), ([0, 1, 2], [0, 1, 2]), ([], []), ([], []), ([], []), ([4, 5, 6, 3], [4, 5, 6]), ([3, 7, 7], [3, 7]), ([8], [8]), ([9, 8], [9]), ([10], [10]), ([10], [10]), ([10], [10]), ([10], [10]), ([12, 13, 14, 10, 10], [10, 12, 13, 14]), ([11, 15, 15, 10], [10, 11, 15]), ([16, 10], [10, 16]), ([10, 17], [10, 17]), ([18, 16], [18]), ([19], [19]), ([19], [19]), ([19], [19]), ([19], [19]), ([21, 22, 23, 19, 19], [19, 21, 22, 23]), ([19], [19]), ([20, 24, 25, 24, 19], [19, 20, 24, 25]), ([19], [19]), ([19], [19]), ([19], [19]), ([19], [19]), ([19], [19]), ([29, 30, 31, 26, 19], [19, 29, 30, 31]), ([27, 28, 32, 32, 19], [19, 27, 28, 32]), ([26, 33, 33, 19], [19, 26, 33]), ([34, 19], [19, 34]), ([19, 35], [19, 35]), ([36, 34], [36]), ([37], [37]), ([37], [37]), ([37], [37]), ([38, 39, 40, 37, 37], [37, 38, 39, 40]), ([37], [37]), ([37], [37]), ([37], [37]), ([37], [37]), ([37], [37]), ([44, 45, 46, 41, 37], [37, 44, 45, 46]), ([42, 43, 47, 47, 37], [37, 42, 43, 47]), ([41, 48, 48, 37], [37, 41, 48]), ([49, 37], [37, 49]), ([37, 50], [37, 50]), ([51, 49], [51]), ([52], [52]), ([52], [52]), ([52], [52]), ([52], [52]), ([52], [52]), ([55, 56, 57, 52, 52], [52, 55, 56, 57]), ([53, 54, 58, 58, 52], [52, 53, 54, 58]), ([52], [52]), ([52], [52]), ([52], [52]), ([52], [52]), ([52], [52]), ([62, 63, 64, 59, 52], [52, 62, 63, 64]), ([60, 61, 65, 65, 52], [52, 60, 61, 65]), ([59, 66, 66, 52], [52, 59, 66]), ([67, 52], [52, 67]), ([52, 68], [52, 68])])
def barscanlaw05_PolynomialRing.B4 : List Nat := [0, 0, 0, 7, 0, 0, 0, 127, 255, 511, 1023, 2047, 2047, 2047, 2047, 30719, 65535, 131071, 262143, 524287, 1048575, 1048575, 1048575, 1048575, 15728639, 1048575, 67108863, 1048575, 1048575, 1048575, 1048575, 1048575, 3892314111, 8589934591, 17179869183, 34359738367, 68719476735, 137438953471, 274877906943, 274877906943, 274877906943, 2199023255551, 274877906943, 274877906943, 274877906943, 274877906943, 274877906943, 127543348822015, 281474976710655, 562949953421311, 1125899906842623, 2251799813685247, 4503599627370495, 9007199254740991, 9007199254740991, 9007199254740991, 9007199254740991, 9007199254740991, 261208778387488767, 576460752303423487, 9007199254740991, 9007199254740991, 9007199254740991, 9007199254740991, 9007199254740991, 33434723633598562303, 73786976294838206463, 147573952589676412927, 295147905179352825855, 590295810358705651711]
theorem barscanlaw05_PolynomialRing.tab4 : rtab .any (opsOf Try.f9 4) = barscanlaw05_PolynomialRing.T4 := by kernel_rfl
theorem barscanlaw05_PolynomialRing.bits4 : waitsOk barscanlaw05_PolynomialRing.T4.2 barscanlaw05_PolynomialRing.B4 = true := by kernel_rfl
def barscanlaw05_PolynomialRing.T8 : Bool × List (List Nat × List Nat) := (true, [([], []), ([], []), ([], []), ([], []), ([1, 2, 3], [1, 2, 3]), ([], []), ([0, 4, 5, 4], [0, 4, 5]), ([6], [6]), ([7], [7]), ([7], [7]), ([8, 6, 0, 1, 2, 3, 4, 5, 6, 7, 8], [8]), ([9, 10, 0, 1, 2, 3, 4, 5, 6, 7, 8, 9, 10], [9])])
def barscanlaw05_PolynomialRing.B8 : List Nat := [0, 0, 0, 0, 14, 0, 63, 127, 255, 255, 511, 2047]
theorem barscanlaw05_PolynomialRing.tab8 : rtab .any (opsOf Try.f9 8) = barscanlaw05_PolynomialRing.T8 := by kernel_rfl
theorem barscanlaw05_PolynomialRing.bits8 : waitsOk barscanlaw05_PolynomialRing.T8.2 barscanlaw05_PolynomialRing.B8 = true := by kernel_rfl
theorem barscanlaw05_PolynomialRing.calls (k : Nat) (a0_0 : Int) (a0_1 : Int) (a0_2 : Int) (A1 : Option Addr) (c1 : Nat) (l1 : List Int) (A2 : Option Addr) (c2 : Nat) (l2 : List Int) (A3 : Option Addr) (c3 : Nat) (l3 : List Int) (a4 : Int) (r : Bool) (w : World) (hr1 : Kd.C (Kd.int .i64) w A1 l1.length l1) (hc1 : l1.length ≤ c1) (hr2 : Kd.C (Kd.int .i64) w A2 l2.length l2) (hc2 : l2.length ≤ c2) (hr3 : Kd.C (Kd.int .i64) w A3 l3.length l3) (hc3 : l3.length ≤ c3) (h : barscanlaw05_PolynomialRing.f k a0_0 a0_1 a0_2 l1 l2 l3 a4 = some r) :
  Calls Try.prog 9 #[.agg #[.int .i64 a0_0, .int .i64 a0_1, .int .i64 a0_2], .slice A1 l1.length c1, .slice A2 l2.length c2, .slice A3 l3.length c3, .int .i64 a4] w fun e w' => e = .returned (.bool r) ∧ Below w.heap.size w w' := by
 have hu23 := Try.underlying23
 have HR1 := Aside0.mk hr1
 have HC1 := Aside0.mk hc1
 clear hr1 hc1
 have HR2 := Aside0.mk hr2
 have HC2 := Aside0.mk hc2
 clear hr2 hc2
 have HR3 := Aside0.mk hr3
 have HC3 := Aside0.mk hc3
 clear hr3 hc3
 have HB := Aside0.mk (Below.refl w.heap.size w)
 have H := h
 unfold barscanlaw05_PolynomialRing.f at H
 clear h
 obtain ⟨t1191, A6, H⟩ := zD H
 by_cases c7 : t1191 = true
 ·subst c7
  rw [if_pos rfl] at H
  by_cases c8 : a4 < 0
  ·rw [if_pos c8] at H
   have c8b0 : decide (a4 < 0) = true := decide_eq_true c8
   clear c8
   obtain ⟨t1192, A9, H⟩ := zD H
   obtain rfl := Option.some.inj H
   go_enter Try.func9, Try.ntmps9
   go_wp2_with (first | ((with_reducible refine gate_dst (N := 5) rfl ?_); (try (refine gate_guard (by rfl) ?_; dsimp only)); refine zBox 5 #[.int .i64 a0_0, .int .i64 a0_1, .int .i64 a0_2] 23 ?_; clear HB; intro gb1190 w10 BK1190 GE1190 HB; (try clear z1190_0 z1190_1 z1190_2 f1190_0 f1190_1 f1190_2); obtain ⟨z1190_0, z1190_1, z1190_2, f1190_0, f1190_1, f1190_2⟩ := cz3 BK1190) | (go_at_call 47; (with_reducible refine (valid3.calls k a0_0 a0_1 a0_2 40 _ _ l1 _ _ l2 _ _ l3 true _ ?side1 ?side2 ?side3 ?side4 ?side5 ?side6 A6.out).mono ?_); (case side1 => exact zN HR1); (case side2 => exact HC1.out); (case side3 => exact zN HR2); (case side4 => exact HC2.out); (case side5 => exact zN HR3); (case side6 => exact HC3.out); rintro e w12 ⟨rfl, hb⟩; replace BK1190 := bB BK1190 hb; replace HB := bS hb; (try clear hb)) | ((with_reducible refine gate_callee (f := 48) rfl ?_); refine gL (some 41) Try.func48 #[] ?_; (with_reducible refine zCall (barscanlaw05_examples.calls k  t1192 _ A9.out) ?_); intro w13 hb; replace BK1190 := bB BK1190 hb; replace HB := bS hb; (try clear hb)))
   go_ret
   exact ⟨zE, zB⟩
  ·rw [if_neg c8] at H
   have c8b0 : decide (a4 < 0) = false := decide_eq_false c8
   clear c8
   by_cases c14 : a4 ≥ a0_1
   ·rw [if_pos c14] at H
    have c14b0 : decide (a0_1 ≤ a4) = true := decide_eq_true c14
    clear c14
    obtain ⟨t1193, A15, H⟩ := zD H
    obtain rfl := Option.some.inj H
    go_enter Try.func9, Try.ntmps9
    go_wp2_with (first | ((with_reducible refine gate_dst (N := 5) rfl ?_); (try (refine gate_guard (by rfl) ?_; dsimp only)); refine zBox 5 #[.int .i64 a0_0, .int .i64 a0_1, .int .i64 a0_2] 23 ?_; clear HB; intro gb1190 w16 BK1190 GE1190 HB; (try clear z1190_0 z1190_1 z1190_2 f1190_0 f1190_1 f1190_2); obtain ⟨z1190_0, z1190_1, z1190_2, f1190_0, f1190_1, f1190_2⟩ := cz3 BK1190) | (go_at_call 47; (with_reducible refine (valid3.calls k a0_0 a0_1 a0_2 40 _ _ l1 _ _ l2 _ _ l3 true _ ?side1 ?side2 ?side3 ?side4 ?side5 ?side6 A6.out).mono ?_); (case side1 => exact zN HR1); (case side2 => exact HC1.out); (case side3 => exact zN HR2); (case side4 => exact HC2.out); (case side5 => exact zN HR3); (case side6 => exact HC3.out); rintro e w18 ⟨rfl, hb⟩; replace BK1190 := bB BK1190 hb; replace HB := bS hb; (try clear hb); (try clear z1190_0 z1190_1 z1190_2 f1190_0 f1190_1 f1190_2); obtain ⟨z1190_0, z1190_1, z1190_2, f1190_0, f1190_1, f1190_2⟩ := cz3 BK1190) | ((with_reducible refine gate_callee (f := 48) rfl ?_); refine gL (some 41) Try.func48 #[] ?_; (with_reducible refine zCall (barscanlaw05_examples.calls k  t1193 _ A15.out) ?_); intro w20 hb; replace BK1190 := bB BK1190 hb; replace HB := bS hb; (try clear hb)))
    go_ret
    exact ⟨zE, zB⟩
   ·rw [if_neg c14] at H
    have c14b0 : decide (a0_1 ≤ a4) = false := decide_eq_false c14
    clear c14
    obtain ⟨t1194, A21, H⟩ := zD H
    obtain ⟨t1197, A22, H⟩ := zD H
    obtain ⟨t1200, A23, H⟩ := zD H
    obtain ⟨t1203, A24, H⟩ := zD H
    by_cases c25 : t1203 = true
    ·subst c25
     rw [if_pos rfl] at H
     obtain ⟨t1204, A26, H⟩ := zD H
     obtain ⟨t1207, A27, H⟩ := zD H
     by_cases c28 : t1207 = true
     ·subst c28
      rw [if_pos rfl] at H
      obtain ⟨t1208, A29, H⟩ := zD H
      obtain ⟨t1211, A30, H⟩ := zD H
      obtain ⟨t1214, A31, H⟩ := zD H
      obtain ⟨t1217, A32, H⟩ := zD H
      obtain ⟨t1220, A33, H⟩ := zD H
      by_cases c34 : t1220 = true
      ·subst c34
       rw [if_pos rfl] at H
       obtain ⟨t1221, A35, H⟩ := zD H
       obtain ⟨t1224, A36, H⟩ := zD H
       obtain ⟨t1227, A37, H⟩ := zD H
       obtain ⟨t1230, A38, H⟩ := zD H
       by_cases c39 : t1230 = true
       ·subst c39
        rw [if_pos rfl] at H
        obtain ⟨t1231, A40, H⟩ := zD H
        obtain ⟨t1234, A41, H⟩ := zD H
        obtain ⟨t1237, A42, H⟩ := zD H
        obtain ⟨t1240, A43, H⟩ := zD H
        obtain ⟨t1243, A44, H⟩ := zD H
        by_cases c45 : t1243 = true
        ·subst c45
         rw [if_pos rfl] at H
         obtain ⟨⟨t1244, t1245⟩, A46, H⟩ := zD H
         dsimp only at H
         obtain ⟨⟨t1246, t1247⟩, A47, H⟩ := zD H
         dsimp only at H
         obtain ⟨t1248, A48, H⟩ := zD H
         obtain ⟨⟨t1251, t1252⟩, A49, H⟩ := zD H
         dsimp only at H
         obtain ⟨⟨t1253, t1254⟩, A50, H⟩ := zD H
         dsimp only at H
         obtain ⟨⟨t1255, t1256⟩, A51, H⟩ := zD H
         dsimp only at H
         obtain ⟨⟨t1257, t1258⟩, A52, H⟩ := zD H
         dsimp only at H
         by_cases c53 : t1245 = 0
         ·rw [if_pos c53] at H
          have c53b0 := beq_iff_eq.mpr c53
          have c53b1 := bne_eq_false_iff_eq.mpr c53
          clear c53
          by_cases c54 : t1247 = 0
          ·rw [if_pos c54] at H
           have c54b0 := beq_iff_eq.mpr c54
           have c54b1 := bne_eq_false_iff_eq.mpr c54
           clear c54
           by_cases c55 : t1252 = 0
           ·rw [if_pos c55] at H
            have c55b0 := beq_iff_eq.mpr c55
            have c55b1 := bne_eq_false_iff_eq.mpr c55
            clear c55
            by_cases c56 : t1254 = 0
            ·rw [if_pos c56] at H
             have c56b0 := beq_iff_eq.mpr c56
             have c56b1 := bne_eq_false_iff_eq.mpr c56
             clear c56
             by_cases c57 : t1256 = 0
             ·rw [if_pos c57] at H
              have c57b0 := beq_iff_eq.mpr c57
              have c57b1 := bne_eq_false_iff_eq.mpr c57
              clear c57
              by_cases c58 : t1258 = 0
              ·rw [if_pos c58] at H
               have c58b0 := beq_iff_eq.mpr c58
               have c58b1 := bne_eq_false_iff_eq.mpr c58
               clear c58
               by_cases c59 : t1251 = t1255
               ·rw [if_pos c59] at H
                have c59b0 := beq_iff_eq.mpr c59
                have c59b1 := bne_eq_false_iff_eq.mpr c59
                clear c59
                by_cases c60 : t1253 = t1257
                ·rw [if_pos c60] at H
                 have c60b0 := beq_iff_eq.mpr c60
                 have c60b1 := bne_eq_false_iff_eq.mpr c60
                 clear c60
                 obtain ⟨y1259, hy1259⟩ : ∃ y_ : List Int, y_ = (([1] : List Int)) := ⟨_, rfl⟩
                 replace H : ((barscanlaw05_mul.f k a0_0 a0_1 a0_2 l1 y1259).bind fun t1262 => ((barscanlaw05_same.f k t1262 l1).bind fun t1265 => (if t1265 = true then ((barscanlaw05_add.f k a0_0 a0_1 a0_2 l1 ([] : List Int)).bind fun t1266 => ((barscanlaw05_same.f k t1266 l1).bind fun t1269 => (if t1269 = true then ((barscanlaw05_examples.f k).bind fun t1270 => (some t1270)) else (none)))) else (none)))) = some r := by first | (rw [hy1259]; with_reducible exact H) | (have H2_ := (Option.bind_some _ _).symm.trans H; rw [hy1259]; with_reducible exact H2_) | (have H2_ := (Option.bind_some _ _).symm.trans H; with_reducible exact H2_) | with_reducible exact H | (rw [hy1259]; exact H) | exact H
                 have Ny1259 := Aside0.mk hy1259
                 clear hy1259
                 obtain ⟨t1262, A61, H⟩ := zD H
                 obtain ⟨t1265, A62, H⟩ := zD H
                 by_cases c63 : t1265 = true
                 ·subst c63
                  rw [if_pos rfl] at H
                  obtain ⟨t1266, A64, H⟩ := zD H
                  obtain ⟨t1269, A65, H⟩ := zD H
                  by_cases c66 : t1269 = true
                  ·subst c66
                   rw [if_pos rfl] at H
                   obtain ⟨t1270, A67, H⟩ := zD H
                   obtain rfl := Option.some.inj H
                   go_enter Try.func9, Try.ntmps9
                   try go_wp2_with (first | ((with_reducible refine gate_dst (N := 5) rfl ?_); (try (refine gate_guard (by rfl) ?_; dsimp only)); refine zBox 5 #[.int .i64 a0_0, .int .i64 a0_1, .int .i64 a0_2] 23 ?_; clear HB; intro gb1190 w68 BK1190 GE1190 HB; (try clear z1190_0 z1190_1 z1190_2 f1190_0 f1190_1 f1190_2); obtain ⟨z1190_0, z1190_1, z1190_2, f1190_0, f1190_1, f1190_2⟩ := cz3 BK1190) | (go_at_call 47; (with_reducible refine (valid3.calls k a0_0 a0_1 a0_2 40 _ _ l1 _ _ l2 _ _ l3 true _ ?side1 ?side2 ?side3 ?side4 ?side5 ?side6 A6.out).mono ?_); (case side1 => exact zN HR1); (case side2 => exact HC1.out); (case side3 => exact zN HR2); (case side4 => exact HC2.out); (case side5 => exact zN HR3); (case side6 => exact HC3.out); rintro e w70 ⟨rfl, hb⟩; replace BK1190 := bB BK1190 hb; replace HB := bS hb; (try clear hb); (try clear z1190_0 z1190_1 z1190_2 f1190_0 f1190_1 f1190_2); obtain ⟨z1190_0, z1190_1, z1190_2, f1190_0, f1190_1, f1190_2⟩ := cz3 BK1190) | ((with_reducible refine gate_callee (f := 54) rfl ?_); refine gL (some 45) Try.func54 #[.agg #[.int .i64 a0_0, .int .i64 a0_1, .int .i64 a0_2], .slice A1 l1.length c1, .slice A2 l2.length c2] ?_; (with_reducible refine (barscanlaw05_mul.calls k a0_0 a0_1 a0_2 _ _ l1 _ _ l2 t1194 _ ?side1 ?side2 ?side3 ?side4 A21.out).mono ?_); (case side1 => exact zN HR1); (case side2 => exact HC1.out); (case side3 => exact zN HR2); (case side4 => exact HC2.out); rintro e w72 ⟨v1195, rfl, ho0, hb⟩; refine ⟨_, rfl, ?_⟩; have HO1196 := Aside0.mk (Kd.R_lower ho0 (below_size zB)); replace BK1190 := bB BK1190 hb; replace HB := bS hb; (try clear hb); (try clear ho0)))
                   replace HO1196 := Aside0.mk (Kd.R_drew HO1196.out)
                   replace BK1190 := Aside0.mk (blk_drew BK1190.out)
                   replace HB := Aside0.mk (below_drew1 HB.out)
                   refine start_ (n := 70) (S := fun w' => w'.cell? ⟨gb1190, 0, none⟩ = some (.int .i64 a0_0) ∧ w'.cell? ⟨gb1190, 1, none⟩ = some (.int .i64 a0_1) ∧ w'.cell? ⟨gb1190, 2, none⟩ = some (.int .i64 a0_2)) (ds := []) #[false, false, false, false, false, false, false, false, false, false, false, false, false, false, false, false, false, false, false, false, false, false, false, false, false, false, false, false, false, false, false, false, false, false, false, false, false, false, false, false, false, false, false, false, false, false, false, false, false, false, false, false, false, false, false, false, false, false, false, false, false, false, false, false, false, false, false, false, false, false] (by kernel_rfl) rfl rfl zS (fun hHeld => ?_); refine with_tabW barscanlaw05_PolynomialRing.tab4 barscanlaw05_PolynomialRing.bits4 (fun HT_ HW_ => ?_)
                   generalize w72.drew = w73 at HO1196 BK1190 HB hHeld ⊢
                   refine pU 1 (some 47) ?_
                   refine pU 2 (some 48) ?_
                   refine pU 5 (some 51) ?_
                   refine pU 6 (some 52) ?_
                   refine tU 0 (some 46) hHeld ?_
                   refine tU 4 (some 50) hHeld ?_
                   refine oU 3 (some 49) (fun K hK => ?_)
                   refine goes_ Try.func56 (by kernel_rfl) rfl #[.agg #[.int .i64 a0_0, .int .i64 a0_1, .int .i64 a0_2], .slice A1 l1.length c1, .slice A2 l2.length c2] (by rfl) rfl rfl zM ?_
                   with_reducible refine (barscanlaw05_add.calls k a0_0 a0_1 a0_2 _ _ l1 _ _ l2 t1197 _ ?side1 ?side2 ?side3 ?side4 A22.out).mono ?_
                   (case side1 => exact zN HR1)
                   (case side2 => exact HC1.out)
                   (case side3 => exact zN HR2)
                   (case side4 => exact HC2.out)
                   rintro e w74 ⟨v1198, rfl, ho0, hb⟩
                   refine ⟨_, rfl, ?_⟩
                   have HO1199 := Aside0.mk (Kd.R_lower (Kd.R_new' ho0 (Kd.R_lt (zO HO1196))) (below_size zB))
                   replace HO1196 := Aside0.mk (Kd.R_elder' (zO HO1196) (Kd.R_base ho0) hb)
                   replace BK1190 := bB BK1190 hb
                   replace HB := bS hb
                   (try clear hb)
                   (try clear hb2)
                   (try clear hk)
                   (try clear hi)
                   (try clear ho0)
                   refine hK.out _ _ zS (fun hHeld => ?_)
                   clear hK K
                   refine nU ?_
                   refine oU 7 (some 53) (fun K hK => ?_)
                   refine goes_ Try.func56 (by kernel_rfl) rfl #[.agg #[.int .i64 a0_0, .int .i64 a0_1, .int .i64 a0_2], .slice A2 l2.length c2, .slice A1 l1.length c1] (by rfl) rfl rfl zM ?_
                   with_reducible refine (barscanlaw05_add.calls k a0_0 a0_1 a0_2 _ _ l2 _ _ l1 t1200 _ ?side1 ?side2 ?side3 ?side4 A23.out).mono ?_
                   (case side1 => exact zN HR2)
                   (case side2 => exact HC2.out)
                   (case side3 => exact zN HR1)
                   (case side4 => exact HC1.out)
                   rintro e w75 ⟨v1201, rfl, ho0, hb⟩
                   refine ⟨_, rfl, ?_⟩
                   have HO1202 := Aside0.mk (Kd.R_lower (Kd.R_new' (Kd.R_new' ho0 (Kd.R_lt (zO HO1196))) (Kd.R_lt (zO HO1199))) (below_size zB))
                   replace HO1196 := Aside0.mk (Kd.R_elder' (zO HO1196) (Kd.R_base ho0) hb)
                   replace HO1199 := Aside0.mk (Kd.R_elder' (zO HO1199) (Kd.R_base ho0) hb)
                   replace BK1190 := bB BK1190 hb
                   replace HB := bS hb
                   (try clear hb)
                   (try clear hb2)
                   (try clear hk)
                   (try clear hi)
                   (try clear ho0)
                   obtain ⟨Ao76, co76, eo76⟩ := Kd.R_slice HO1199.out
                   (first | subst eo76 | (injection eo76 with f1_ f2_ f3_; have f4_ := f1_.symm; have f5_ := f3_.symm; clear f1_ f2_ f3_; subst f4_; subst f5_))
                   obtain ⟨Ao77, co77, eo77⟩ := Kd.R_slice HO1202.out
                   (first | subst eo77 | (injection eo77 with f1_ f2_ f3_; have f4_ := f1_.symm; have f5_ := f3_.symm; clear f1_ f2_ f3_; subst f4_; subst f5_))
                   refine hK.out _ _ zS (fun hHeld => ?_)
                   clear hK K
                   refine nU ?_
                   refine oU 8 (some 54) (fun K hK => ?_)
                   refine goes_ Try.func55 (by kernel_rfl) rfl #[.slice Ao76 t1197.length co76, .slice Ao77 t1200.length co77] (by rfl) rfl rfl zM ?_
                   with_reducible refine (barscanlaw05_same.calls k _ _ t1197 _ _ t1200 true _ ?side1 ?side2 ?side3 ?side4 A24.out).mono ?_
                   (case side1 => exact zN HO1199)
                   (case side2 => exact (Kd.R_reads' HO1199.out).2.1)
                   (case side3 => exact zN HO1202)
                   (case side4 => exact (Kd.R_reads' HO1202.out).2.1)
                   rintro e w' ⟨rfl, ⟨nd, rfl⟩⟩
                   refine ⟨_, rfl, ?_⟩
                   refine hK.out _ _ zS (fun hHeld => ?_)
                   clear hK K
                   refine nU ?_
                   refine pU 9 (some 55) ?_
                   refine pU 10 (some 56) ?_
                   refine pU 11 (some 57) ?_
                   refine pU 13 (some 59) ?_
                   refine pU 14 (some 60) ?_
                   refine tU 12 (some 58) hHeld ?_
                   refine oU 15 (some 61) (fun K hK => ?_)
                   refine goes_ Try.func54 (by kernel_rfl) rfl #[.agg #[.int .i64 a0_0, .int .i64 a0_1, .int .i64 a0_2], .slice A2 l2.length c2, .slice A1 l1.length c1] (by rfl) rfl rfl zM ?_
                   with_reducible refine (barscanlaw05_mul.calls k a0_0 a0_1 a0_2 _ _ l2 _ _ l1 t1204 _ ?side1 ?side2 ?side3 ?side4 A26.out).mono ?_
                   (case side1 => repeat (first | exact (Kd.C_below HR2.out zB) | (with_reducible refine Kd.C_alloc ?_ _) | (with_reducible refine Kd.C_drewN ?_ _) | (with_reducible refine Kd.C_drew ?_)))
                   (case side2 => exact HC2.out)
                   (case side3 => repeat (first | exact (Kd.C_below HR1.out zB) | (with_reducible refine Kd.C_alloc ?_ _) | (with_reducible refine Kd.C_drewN ?_ _) | (with_reducible refine Kd.C_drew ?_)))
                   (case side4 => exact HC1.out)
                   rintro e w78 ⟨v1205, rfl, ho0, hb⟩
                   refine ⟨_, rfl, ?_⟩
                   have HO1206 := Aside0.mk (Kd.R_lower (Kd.R_new' (Kd.R_new' (Kd.R_new' ho0 (Kd.R_lt (zO HO1196))) (Kd.R_lt (zO HO1199))) (Kd.R_lt (zO HO1202))) (below_size zB))
                   replace HO1196 := Aside0.mk (Kd.R_elder' (zO HO1196) (Kd.R_base ho0) hb)
                   replace HO1199 := Aside0.mk (Kd.R_elder' (zO HO1199) (Kd.R_base ho0) hb)
                   replace HO1202 := Aside0.mk (Kd.R_elder' (zO HO1202) (Kd.R_base ho0) hb)
                   replace BK1190 := bB BK1190 hb
                   replace HB := bS hb
                   (try clear hb)
                   (try clear hb2)
                   (try clear hk)
                   (try clear hi)
                   (try clear ho0)
                   obtain ⟨Ao79, co79, eo79⟩ := Kd.R_slice HO1196.out
                   (first | subst eo79 | (injection eo79 with f1_ f2_ f3_; have f4_ := f1_.symm; have f5_ := f3_.symm; clear f1_ f2_ f3_; subst f4_; subst f5_))
                   obtain ⟨Ao80, co80, eo80⟩ := Kd.R_slice HO1206.out
                   (first | subst eo80 | (injection eo80 with f1_ f2_ f3_; have f4_ := f1_.symm; have f5_ := f3_.symm; clear f1_ f2_ f3_; subst f4_; subst f5_))
                   refine hK.out _ _ zS (fun hHeld => ?_)
                   clear hK K
                   refine nU ?_
                   refine oU 16 (some 62) (fun K hK => ?_)
                   refine goes_ Try.func55 (by kernel_rfl) rfl #[.slice Ao79 t1194.length co79, .slice Ao80 t1204.length co80] (by rfl) rfl rfl zM ?_
                   with_reducible refine (barscanlaw05_same.calls k _ _ t1194 _ _ t1204 true _ ?side1 ?side2 ?side3 ?side4 A27.out).mono ?_
                   (case side1 => exact zN HO1196)
                   (case side2 => exact (Kd.R_reads' HO1196.out).2.1)
                   (case side3 => exact zN HO1206)
                   (case side4 => exact (Kd.R_reads' HO1206.out).2.1)
                   rintro e w' ⟨rfl, ⟨nd, rfl⟩⟩
                   refine ⟨_, rfl, ?_⟩
                   refine hK.out _ _ zS (fun hHeld => ?_)
                   clear hK K
                   refine nU ?_
                   refine pU 17 (some 63) ?_
                   refine pU 18 (some 64) ?_
                   refine pU 19 (some 65) ?_
                   refine pU 22 (some 68) ?_
                   refine pU 23 (some 69) ?_
                   refine pU 25 (some 71) ?_
                   refine pU 28 (some 74) ?_
                   refine pU 30 (some 76) ?_
                   refine pU 31 (some 77) ?_
                   refine tU 20 (some 66) hHeld ?_
                   refine tU 21 (some 67) hHeld ?_
                   refine tU 27 (some 73) hHeld ?_
                   refine tU 29 (some 75) hHeld ?_
                   refine oU 24 (some 70) (fun K hK => ?_)
                   refine goes_ Try.func56 (by kernel_rfl) rfl #[.agg #[.int .i64 a0_0, .int .i64 a0_1, .int .i64 a0_2], .slice A1 l1.length c1, .slice A2 l2.length c2] (by rfl) rfl rfl zM ?_
                   with_reducible refine (barscanlaw05_add.calls k a0_0 a0_1 a0_2 _ _ l1 _ _ l2 t1208 _ ?side1 ?side2 ?side3 ?side4 A29.out).mono ?_
                   (case side1 => repeat (first | exact (Kd.C_below HR1.out zB) | (with_reducible refine Kd.C_alloc ?_ _) | (with_reducible refine Kd.C_drewN ?_ _) | (with_reducible refine Kd.C_drew ?_)))
                   (case side2 => exact HC1.out)
                   (case side3 => repeat (first | exact (Kd.C_below HR2.out zB) | (with_reducible refine Kd.C_alloc ?_ _) | (with_reducible refine Kd.C_drewN ?_ _) | (with_reducible refine Kd.C_drew ?_)))
                   (case side4 => exact HC2.out)
                   rintro e w81 ⟨v1209, rfl, ho0, hb⟩
                   refine ⟨_, rfl, ?_⟩
                   have HO1210 := Aside0.mk (Kd.R_lower (Kd.R_new' (Kd.R_new' (Kd.R_new' (Kd.R_new' ho0 (Kd.R_lt (zO HO1196))) (Kd.R_lt (zO HO1199))) (Kd.R_lt (zO HO1202))) (Kd.R_lt (zO HO1206))) (below_size zB))
                   replace HO1196 := Aside0.mk (Kd.R_elder' (zO HO1196) (Kd.R_base ho0) hb)
                   replace HO1199 := Aside0.mk (Kd.R_elder' (zO HO1199) (Kd.R_base ho0) hb)
                   replace HO1202 := Aside0.mk (Kd.R_elder' (zO HO1202) (Kd.R_base ho0) hb)
                   replace HO1206 := Aside0.mk (Kd.R_elder' (zO HO1206) (Kd.R_base ho0) hb)
                   replace BK1190 := bB BK1190 hb
                   replace HB := bS hb
                   (try clear hb)
                   (try clear hb2)
                   (try clear hk)
                   (try clear hi)
                   (try clear ho0)
                   obtain ⟨Ao82, co82, eo82⟩ := Kd.R_slice HO1210.out
                   (first | subst eo82 | (injection eo82 with f1_ f2_ f3_; have f4_ := f1_.symm; have f5_ := f3_.symm; clear f1_ f2_ f3_; subst f4_; subst f5_))
                   refine hK.out _ _ zS (fun hHeld => ?_)
                   clear hK K
                   refine nU ?_
                   refine oU 26 (some 72) (fun K hK => ?_)
                   refine goes_ Try.func56 (by kernel_rfl) rfl #[.agg #[.int .i64 a0_0, .int .i64 a0_1, .int .i64 a0_2], .slice Ao82 t1208.length co82, .slice A3 l3.length c3] (by rfl) rfl rfl zM ?_
                   with_reducible refine (barscanlaw05_add.calls k a0_0 a0_1 a0_2 _ _ t1208 _ _ l3 t1211 _ ?side1 ?side2 ?side3 ?side4 A30.out).mono ?_
                   (case side1 => exact zN HO1210)
                   (case side2 => exact (Kd.R_reads' HO1210.out).2.1)
                   (case side3 => exact zN HR3)
                   (case side4 => exact HC3.out)
                   rintro e w83 ⟨v1212, rfl, ho0, hb⟩
                   refine ⟨_, rfl, ?_⟩
                   have HO1213 := Aside0.mk (Kd.R_lower (Kd.R_new' (Kd.R_new' (Kd.R_new' (Kd.R_new' (Kd.R_new' ho0 (Kd.R_lt (zO HO1196))) (Kd.R_lt (zO HO1199))) (Kd.R_lt (zO HO1202))) (Kd.R_lt (zO HO1206))) (Kd.R_lt (zO HO1210))) (below_size zB))
                   replace HO1196 := Aside0.mk (Kd.R_elder' (zO HO1196) (Kd.R_base ho0) hb)
                   replace HO1199 := Aside0.mk (Kd.R_elder' (zO HO1199) (Kd.R_base ho0) hb)
                   replace HO1202 := Aside0.mk (Kd.R_elder' (zO HO1202) (Kd.R_base ho0) hb)
                   replace HO1206 := Aside0.mk (Kd.R_elder' (zO HO1206) (Kd.R_base ho0) hb)
                   replace HO1210 := Aside0.mk (Kd.R_elder' (zO HO1210) (Kd.R_base ho0) hb)
                   replace BK1190 := bB BK1190 hb
                   replace HB := bS hb
                   (try clear hb)
                   (try clear hb2)
                   (try clear hk)
                   (try clear hi)
                   (try clear ho0)
                   refine hK.out _ _ zS (fun hHeld => ?_)
                   clear hK K
                   refine nU ?_
                   refine oU 32 (some 78) (fun K hK => ?_)
                   refine goes_ Try.func56 (by kernel_rfl) rfl #[.agg #[.int .i64 a0_0, .int .i64 a0_1, .int .i64 a0_2], .slice A2 l2.length c2, .slice A3 l3.length c3] (by rfl) rfl rfl zM ?_
                   with_reducible refine (barscanlaw05_add.calls k a0_0 a0_1 a0_2 _ _ l2 _ _ l3 t1214 _ ?side1 ?side2 ?side3 ?side4 A31.out).mono ?_
                   (case side1 => exact zN HR2)
                   (case side2 => exact HC2.out)
                   (case side3 => exact zN HR3)
                   (case side4 => exact HC3.out)
                   rintro e w84 ⟨v1215, rfl, ho0, hb⟩
                   refine ⟨_, rfl, ?_⟩
                   have HO1216 := Aside0.mk (Kd.R_lower (Kd.R_new' (Kd.R_new' (Kd.R_new' (Kd.R_new' (Kd.R_new' (Kd.R_new' ho0 (Kd.R_lt (zO HO1196))) (Kd.R_lt (zO HO1199))) (Kd.R_lt (zO HO1202))) (Kd.R_lt (zO HO1206))) (Kd.R_lt (zO HO1210))) (Kd.R_lt (zO HO1213))) (below_size zB))
                   replace HO1196 := Aside0.mk (Kd.R_elder' (zO HO1196) (Kd.R_base ho0) hb)
                   replace HO1199 := Aside0.mk (Kd.R_elder' (zO HO1199) (Kd.R_base ho0) hb)
                   replace HO1202 := Aside0.mk (Kd.R_elder' (zO HO1202) (Kd.R_base ho0) hb)
                   replace HO1206 := Aside0.mk (Kd.R_elder' (zO HO1206) (Kd.R_base ho0) hb)
                   replace HO1210 := Aside0.mk (Kd.R_elder' (zO HO1210) (Kd.R_base ho0) hb)
                   replace HO1213 := Aside0.mk (Kd.R_elder' (zO HO1213) (Kd.R_base ho0) hb)
                   replace BK1190 := bB BK1190 hb
                   replace HB := bS hb
                   (try clear hb)
                   (try clear hb2)
                   (try clear hk)
                   (try clear hi)
                   (try clear ho0)
                   obtain ⟨Ao85, co85, eo85⟩ := Kd.R_slice HO1216.out
                   (first | subst eo85 | (injection eo85 with f1_ f2_ f3_; have f4_ := f1_.symm; have f5_ := f3_.symm; clear f1_ f2_ f3_; subst f4_; subst f5_))
                   refine hK.out _ _ zS (fun hHeld => ?_)
                   clear hK K
                   refine nU ?_
                   refine oU 33 (some 79) (fun K hK => ?_)
                   refine goes_ Try.func56 (by kernel_rfl) rfl #[.agg #[.int .i64 a0_0, .int .i64 a0_1, .int .i64 a0_2], .slice A1 l1.length c1, .slice Ao85 t1214.length co85] (by rfl) rfl rfl zM ?_
                   with_reducible refine (barscanlaw05_add.calls k a0_0 a0_1 a0_2 _ _ l1 _ _ t1214 t1217 _ ?side1 ?side2 ?side3 ?side4 A32.out).mono ?_
                   (case side1 => exact zN HR1)
                   (case side2 => exact HC1.out)
                   (case side3 => exact zN HO1216)
                   (case side4 => exact (Kd.R_reads' HO1216.out).2.1)
                   rintro e w86 ⟨v1218, rfl, ho0, hb⟩
                   refine ⟨_, rfl, ?_⟩
                   have HO1219 := Aside0.mk (Kd.R_lower (Kd.R_new' (Kd.R_new' (Kd.R_new' (Kd.R_new' (Kd.R_new' (Kd.R_new' (Kd.R_new' ho0 (Kd.R_lt (zO HO1196))) (Kd.R_lt (zO HO1199))) (Kd.R_lt (zO HO1202))) (Kd.R_lt (zO HO1206))) (Kd.R_lt (zO HO1210))) (Kd.R_lt (zO HO1213))) (Kd.R_lt (zO HO1216))) (below_size zB))
                   replace HO1196 := Aside0.mk (Kd.R_elder' (zO HO1196) (Kd.R_base ho0) hb)
                   replace HO1199 := Aside0.mk (Kd.R_elder' (zO HO1199) (Kd.R_base ho0) hb)
                   replace HO1202 := Aside0.mk (Kd.R_elder' (zO HO1202) (Kd.R_base ho0) hb)
                   replace HO1206 := Aside0.mk (Kd.R_elder' (zO HO1206) (Kd.R_base ho0) hb)
                   replace HO1210 := Aside0.mk (Kd.R_elder' (zO HO1210) (Kd.R_base ho0) hb)
                   replace HO1213 := Aside0.mk (Kd.R_elder' (zO HO1213) (Kd.R_base ho0) hb)
                   replace HO1216 := Aside0.mk (Kd.R_elder' (zO HO1216) (Kd.R_base ho0) hb)
                   replace BK1190 := bB BK1190 hb
                   replace HB := bS hb
                   (try clear hb)
                   (try clear hb2)
                   (try clear hk)
                   (try clear hi)
                   (try clear ho0)
                   obtain ⟨Ao87, co87, eo87⟩ := Kd.R_slice HO1213.out
                   (first | subst eo87 | (injection eo87 with f1_ f2_ f3_; have f4_ := f1_.symm; have f5_ := f3_.symm; clear f1_ f2_ f3_; subst f4_; subst f5_))
                   obtain ⟨Ao88, co88, eo88⟩ := Kd.R_slice HO1219.out
                   (first | subst eo88 | (injection eo88 with f1_ f2_ f3_; have f4_ := f1_.symm; have f5_ := f3_.symm; clear f1_ f2_ f3_; subst f4_; subst f5_))
                   refine hK.out _ _ zS (fun hHeld => ?_)
                   clear hK K
                   refine nU ?_
                   refine oU 34 (some 80) (fun K hK => ?_)
                   refine goes_ Try.func55 (by kernel_rfl) rfl #[.slice Ao87 t1211.length co87, .slice Ao88 t1217.length co88] (by rfl) rfl rfl zM ?_
                   with_reducible refine (barscanlaw05_same.calls k _ _ t1211 _ _ t1217 true _ ?side1 ?side2 ?side3 ?side4 A33.out).mono ?_
                   (case side1 => exact zN HO1213)
                   (case side2 => exact (Kd.R_reads' HO1213.out).2.1)
                   (case side3 => exact zN HO1219)
                   (case side4 => exact (Kd.R_reads' HO1219.out).2.1)
                   rintro e w' ⟨rfl, ⟨nd, rfl⟩⟩
                   refine ⟨_, rfl, ?_⟩
                   refine hK.out _ _ zS (fun hHeld => ?_)
                   clear hK K
                   refine nU ?_
                   refine pU 35 (some 81) ?_
                   refine pU 36 (some 82) ?_
                   refine pU 37 (some 83) ?_
                   refine pU 39 (some 85) ?_
                   refine pU 40 (some 86) ?_
                   refine pU 43 (some 89) ?_
                   refine pU 45 (some 91) ?_
                   refine pU 46 (some 92) ?_
                   refine tU 38 (some 84) hHeld ?_
                   refine tU 42 (some 88) hHeld ?_
                   refine tU 44 (some 90) hHeld ?_
                   refine oU 41 (some 87) (fun K hK => ?_)
                   refine goes_ Try.func54 (by kernel_rfl) rfl #[.agg #[.int .i64 a0_0, .int .i64 a0_1, .int .i64 a0_2], .slice Ao79 t1194.length co79, .slice A3 l3.length c3] (by rfl) rfl rfl zM ?_
                   with_reducible refine (barscanlaw05_mul.calls k a0_0 a0_1 a0_2 _ _ t1194 _ _ l3 t1221 _ ?side1 ?side2 ?side3 ?side4 A35.out).mono ?_
                   (case side1 => exact zN HO1196)
                   (case side2 => exact (Kd.R_reads' HO1196.out).2.1)
                   (case side3 => repeat (first | exact (Kd.C_below HR3.out zB) | (with_reducible refine Kd.C_alloc ?_ _) | (with_reducible refine Kd.C_drewN ?_ _) | (with_reducible refine Kd.C_drew ?_)))
                   (case side4 => exact HC3.out)
                   rintro e w89 ⟨v1222, rfl, ho0, hb⟩
                   refine ⟨_, rfl, ?_⟩
                   have HO1223 := Aside0.mk (Kd.R_lower (Kd.R_new' (Kd.R_new' (Kd.R_new' (Kd.R_new' (Kd.R_new' (Kd.R_new' (Kd.R_new' (Kd.R_new' ho0 (Kd.R_lt (zO HO1196))) (Kd.R_lt (zO HO1199))) (Kd.R_lt (zO HO1202))) (Kd.R_lt (zO HO1206))) (Kd.R_lt (zO HO1210))) (Kd.R_lt (zO HO1213))) (Kd.R_lt (zO HO1216))) (Kd.R_lt (zO HO1219))) (below_size zB))
                   replace HO1196 := Aside0.mk (Kd.R_elder' (zO HO1196) (Kd.R_base ho0) hb)
                   replace HO1199 := Aside0.mk (Kd.R_elder' (zO HO1199) (Kd.R_base ho0) hb)
                   replace HO1202 := Aside0.mk (Kd.R_elder' (zO HO1202) (Kd.R_base ho0) hb)
                   replace HO1206 := Aside0.mk (Kd.R_elder' (zO HO1206) (Kd.R_base ho0) hb)
                   replace HO1210 := Aside0.mk (Kd.R_elder' (zO HO1210) (Kd.R_base ho0) hb)
                   replace HO1213 := Aside0.mk (Kd.R_elder' (zO HO1213) (Kd.R_base ho0) hb)
                   replace HO1216 := Aside0.mk (Kd.R_elder' (zO HO1216) (Kd.R_base ho0) hb)
                   replace HO1219 := Aside0.mk (Kd.R_elder' (zO HO1219) (Kd.R_base ho0) hb)
                   replace BK1190 := bB BK1190 hb
                   replace HB := bS hb
                   (try clear hb)
                   (try clear hb2)
                   (try clear hk)
                   (try clear hi)
                   (try clear ho0)
                   refine hK.out _ _ zS (fun hHeld => ?_)
                   clear hK K
                   refine nU ?_
                   refine oU 47 (some 93) (fun K hK => ?_)
                   refine goes_ Try.func54 (by kernel_rfl) rfl #[.agg #[.int .i64 a0_0, .int .i64 a0_1, .int .i64 a0_2], .slice A2 l2.length c2, .slice A3 l3.length c3] (by rfl) rfl rfl zM ?_
                   with_reducible refine (barscanlaw05_mul.calls k a0_0 a0_1 a0_2 _ _ l2 _ _ l3 t1224 _ ?side1 ?side2 ?side3 ?side4 A36.out).mono ?_
                   (case side1 => exact zN HR2)
                   (case side2 => exact HC2.out)
                   (case side3 => exact zN HR3)
                   (case side4 => exact HC3.out)
                   rintro e w90 ⟨v1225, rfl, ho0, hb⟩
                   refine ⟨_, rfl, ?_⟩
                   have HO1226 := Aside0.mk (Kd.R_lower (Kd.R_new' (Kd.R_new' (Kd.R_new' (Kd.R_new' (Kd.R_new' (Kd.R_new' (Kd.R_new' (Kd.R_new' (Kd.R_new' ho0 (Kd.R_lt (zO HO1196))) (Kd.R_lt (zO HO1199))) (Kd.R_lt (zO HO1202))) (Kd.R_lt (zO HO1206))) (Kd.R_lt (zO HO1210))) (Kd.R_lt (zO HO1213))) (Kd.R_lt (zO HO1216))) (Kd.R_lt (zO HO1219))) (Kd.R_lt (zO HO1223))) (below_size zB))
                   replace HO1196 := Aside0.mk (Kd.R_elder' (zO HO1196) (Kd.R_base ho0) hb)
                   replace HO1199 := Aside0.mk (Kd.R_elder' (zO HO1199) (Kd.R_base ho0) hb)
                   replace HO1202 := Aside0.mk (Kd.R_elder' (zO HO1202) (Kd.R_base ho0) hb)
                   replace HO1206 := Aside0.mk (Kd.R_elder' (zO HO1206) (Kd.R_base ho0) hb)
                   replace HO1210 := Aside0.mk (Kd.R_elder' (zO HO1210) (Kd.R_base ho0) hb)
                   replace HO1213 := Aside0.mk (Kd.R_elder' (zO HO1213) (Kd.R_base ho0) hb)
                   replace HO1216 := Aside0.mk (Kd.R_elder' (zO HO1216) (Kd.R_base ho0) hb)
                   replace HO1219 := Aside0.mk (Kd.R_elder' (zO HO1219) (Kd.R_base ho0) hb)
                   replace HO1223 := Aside0.mk (Kd.R_elder' (zO HO1223) (Kd.R_base ho0) hb)
                   replace BK1190 := bB BK1190 hb
                   replace HB := bS hb
                   (try clear hb)
                   (try clear hb2)
                   (try clear hk)
                   (try clear hi)
                   (try clear ho0)
                   obtain ⟨Ao91, co91, eo91⟩ := Kd.R_slice HO1226.out
                   (first | subst eo91 | (injection eo91 with f1_ f2_ f3_; have f4_ := f1_.symm; have f5_ := f3_.symm; clear f1_ f2_ f3_; subst f4_; subst f5_))
                   refine hK.out _ _ zS (fun hHeld => ?_)
                   clear hK K
                   refine nU ?_
                   refine oU 48 (some 94) (fun K hK => ?_)
                   refine goes_ Try.func54 (by kernel_rfl) rfl #[.agg #[.int .i64 a0_0, .int .i64 a0_1, .int .i64 a0_2], .slice A1 l1.length c1, .slice Ao91 t1224.length co91] (by rfl) rfl rfl zM ?_
                   with_reducible refine (barscanlaw05_mul.calls k a0_0 a0_1 a0_2 _ _ l1 _ _ t1224 t1227 _ ?side1 ?side2 ?side3 ?side4 A37.out).mono ?_
                   (case side1 => exact zN HR1)
                   (case side2 => exact HC1.out)
                   (case side3 => exact zN HO1226)
                   (case side4 => exact (Kd.R_reads' HO1226.out).2.1)
                   rintro e w92 ⟨v1228, rfl, ho0, hb⟩
                   refine ⟨_, rfl, ?_⟩
                   have HO1229 := Aside0.mk (Kd.R_lower (Kd.R_new' (Kd.R_new' (Kd.R_new' (Kd.R_new' (Kd.R_new' (Kd.R_new' (Kd.R_new' (Kd.R_new' (Kd.R_new' (Kd.R_new' ho0 (Kd.R_lt (zO HO1196))) (Kd.R_lt (zO HO1199))) (Kd.R_lt (zO HO1202))) (Kd.R_lt (zO HO1206))) (Kd.R_lt (zO HO1210))) (Kd.R_lt (zO HO1213))) (Kd.R_lt (zO HO1216))) (Kd.R_lt (zO HO1219))) (Kd.R_lt (zO HO1223))) (Kd.R_lt (zO HO1226))) (below_size zB))
                   replace HO1196 := Aside0.mk (Kd.R_elder' (zO HO1196) (Kd.R_base ho0) hb)
                   replace HO1199 := Aside0.mk (Kd.R_elder' (zO HO1199) (Kd.R_base ho0) hb)
                   replace HO1202 := Aside0.mk (Kd.R_elder' (zO HO1202) (Kd.R_base ho0) hb)
                   replace HO1206 := Aside0.mk (Kd.R_elder' (zO HO1206) (Kd.R_base ho0) hb)
                   replace HO1210 := Aside0.mk (Kd.R_elder' (zO HO1210) (Kd.R_base ho0) hb)
                   replace HO1213 := Aside0.mk (Kd.R_elder' (zO HO1213) (Kd.R_base ho0) hb)
                   replace HO1216 := Aside0.mk (Kd.R_elder' (zO HO1216) (Kd.R_base ho0) hb)
                   replace HO1219 := Aside0.mk (Kd.R_elder' (zO HO1219) (Kd.R_base ho0) hb)
                   replace HO1223 := Aside0.mk (Kd.R_elder' (zO HO1223) (Kd.R_base ho0) hb)
                   replace HO1226 := Aside0.mk (Kd.R_elder' (zO HO1226) (Kd.R_base ho0) hb)
                   replace BK1190 := bB BK1190 hb
                   replace HB := bS hb
                   (try clear hb)
                   (try clear hb2)
                   (try clear hk)
                   (try clear hi)
                   (try clear ho0)
                   obtain ⟨Ao93, co93, eo93⟩ := Kd.R_slice HO1223.out
                   (first | subst eo93 | (injection eo93 with f1_ f2_ f3_; have f4_ := f1_.symm; have f5_ := f3_.symm; clear f1_ f2_ f3_; subst f4_; subst f5_))
                   obtain ⟨Ao94, co94, eo94⟩ := Kd.R_slice HO1229.out
                   (first | subst eo94 | (injection eo94 with f1_ f2_ f3_; have f4_ := f1_.symm; have f5_ := f3_.symm; clear f1_ f2_ f3_; subst f4_; subst f5_))
                   refine hK.out _ _ zS (fun hHeld => ?_)
                   clear hK K
                   refine nU ?_
                   refine oU 49 (some 95) (fun K hK => ?_)
                   refine goes_ Try.func55 (by kernel_rfl) rfl #[.slice Ao93 t1221.length co93, .slice Ao94 t1227.length co94] (by rfl) rfl rfl zM ?_
                   with_reducible refine (barscanlaw05_same.calls k _ _ t1221 _ _ t1227 true _ ?side1 ?side2 ?side3 ?side4 A38.out).mono ?_
                   (case side1 => exact zN HO1223)
                   (case side2 => exact (Kd.R_reads' HO1223.out).2.1)
                   (case side3 => exact zN HO1229)
                   (case side4 => exact (Kd.R_reads' HO1229.out).2.1)
                   rintro e w' ⟨rfl, ⟨nd, rfl⟩⟩
                   refine ⟨_, rfl, ?_⟩
                   refine hK.out _ _ zS (fun hHeld => ?_)
                   clear hK K
                   refine nU ?_
                   refine pU 50 (some 96) ?_
                   refine pU 51 (some 97) ?_
                   refine pU 52 (some 98) ?_
                   refine pU 54 (some 100) ?_
                   refine pU 56 (some 102) ?_
                   refine pU 57 (some 103) ?_
                   refine pU 61 (some 107) ?_
                   refine pU 63 (some 109) ?_
                   refine pU 64 (some 110) ?_
                   refine tU 53 (some 99) hHeld ?_
                   refine tU 55 (some 101) hHeld ?_
                   refine tU 60 (some 106) hHeld ?_
                   refine tU 62 (some 108) hHeld ?_
                   refine oU 58 (some 104) (fun K hK => ?_)
                   refine goes_ Try.func56 (by kernel_rfl) rfl #[.agg #[.int .i64 a0_0, .int .i64 a0_1, .int .i64 a0_2], .slice A2 l2.length c2, .slice A3 l3.length c3] (by rfl) rfl rfl zM ?_
                   with_reducible refine (barscanlaw05_add.calls k a0_0 a0_1 a0_2 _ _ l2 _ _ l3 t1231 _ ?side1 ?side2 ?side3 ?side4 A40.out).mono ?_
                   (case side1 => repeat (first | exact (Kd.C_below HR2.out zB) | (with_reducible refine Kd.C_alloc ?_ _) | (with_reducible refine Kd.C_drewN ?_ _) | (with_reducible refine Kd.C_drew ?_)))
                   (case side2 => exact HC2.out)
                   (case side3 => repeat (first | exact (Kd.C_below HR3.out zB) | (with_reducible refine Kd.C_alloc ?_ _) | (with_reducible refine Kd.C_drewN ?_ _) | (with_reducible refine Kd.C_drew ?_)))
                   (case side4 => exact HC3.out)
                   rintro e w95 ⟨v1232, rfl, ho0, hb⟩
                   refine ⟨_, rfl, ?_⟩
                   have HO1233 := Aside0.mk (Kd.R_lower (Kd.R_new' (Kd.R_new' (Kd.R_new' (Kd.R_new' (Kd.R_new' (Kd.R_new' (Kd.R_new' (Kd.R_new' (Kd.R_new' (Kd.R_new' (Kd.R_new' ho0 (Kd.R_lt (zO HO1196))) (Kd.R_lt (zO HO1199))) (Kd.R_lt (zO HO1202))) (Kd.R_lt (zO HO1206))) (Kd.R_lt (zO HO1210))) (Kd.R_lt (zO HO1213))) (Kd.R_lt (zO HO1216))) (Kd.R_lt (zO HO1219))) (Kd.R_lt (zO HO1223))) (Kd.R_lt (zO HO1226))) (Kd.R_lt (zO HO1229))) (below_size zB))
                   replace HO1196 := Aside0.mk (Kd.R_elder' (zO HO1196) (Kd.R_base ho0) hb)
                   replace HO1199 := Aside0.mk (Kd.R_elder' (zO HO1199) (Kd.R_base ho0) hb)
                   replace HO1202 := Aside0.mk (Kd.R_elder' (zO HO1202) (Kd.R_base ho0) hb)
                   replace HO1206 := Aside0.mk (Kd.R_elder' (zO HO1206) (Kd.R_base ho0) hb)
                   replace HO1210 := Aside0.mk (Kd.R_elder' (zO HO1210) (Kd.R_base ho0) hb)
                   replace HO1213 := Aside0.mk (Kd.R_elder' (zO HO1213) (Kd.R_base ho0) hb)
                   replace HO1216 := Aside0.mk (Kd.R_elder' (zO HO1216) (Kd.R_base ho0) hb)
                   replace HO1219 := Aside0.mk (Kd.R_elder' (zO HO1219) (Kd.R_base ho0) hb)
                   replace HO1223 := Aside0.mk (Kd.R_elder' (zO HO1223) (Kd.R_base ho0) hb)
                   replace HO1226 := Aside0.mk (Kd.R_elder' (zO HO1226) (Kd.R_base ho0) hb)
                   replace HO1229 := Aside0.mk (Kd.R_elder' (zO HO1229) (Kd.R_base ho0) hb)
                   replace BK1190 := bB BK1190 hb
                   replace HB := bS hb
                   (try clear hb)
                   (try clear hb2)
                   (try clear hk)
                   (try clear hi)
                   (try clear ho0)
                   obtain ⟨Ao96, co96, eo96⟩ := Kd.R_slice HO1233.out
                   (first | subst eo96 | (injection eo96 with f1_ f2_ f3_; have f4_ := f1_.symm; have f5_ := f3_.symm; clear f1_ f2_ f3_; subst f4_; subst f5_))
                   refine hK.out _ _ zS (fun hHeld => ?_)
                   clear hK K
                   refine nU ?_
                   refine oU 59 (some 105) (fun K hK => ?_)
                   refine goes_ Try.func54 (by kernel_rfl) rfl #[.agg #[.int .i64 a0_0, .int .i64 a0_1, .int .i64 a0_2], .slice A1 l1.length c1, .slice Ao96 t1231.length co96] (by rfl) rfl rfl zM ?_
                   with_reducible refine (barscanlaw05_mul.calls k a0_0 a0_1 a0_2 _ _ l1 _ _ t1231 t1234 _ ?side1 ?side2 ?side3 ?side4 A41.out).mono ?_
                   (case side1 => exact zN HR1)
                   (case side2 => exact HC1.out)
                   (case side3 => exact zN HO1233)
                   (case side4 => exact (Kd.R_reads' HO1233.out).2.1)
                   rintro e w97 ⟨v1235, rfl, ho0, hb⟩
                   refine ⟨_, rfl, ?_⟩
                   have HO1236 := Aside0.mk (Kd.R_lower (Kd.R_new' (Kd.R_new' (Kd.R_new' (Kd.R_new' (Kd.R_new' (Kd.R_new' (Kd.R_new' (Kd.R_new' (Kd.R_new' (Kd.R_new' (Kd.R_new' (Kd.R_new' ho0 (Kd.R_lt (zO HO1196))) (Kd.R_lt (zO HO1199))) (Kd.R_lt (zO HO1202))) (Kd.R_lt (zO HO1206))) (Kd.R_lt (zO HO1210))) (Kd.R_lt (zO HO1213))) (Kd.R_lt (zO HO1216))) (Kd.R_lt (zO HO1219))) (Kd.R_lt (zO HO1223))) (Kd.R_lt (zO HO1226))) (Kd.R_lt (zO HO1229))) (Kd.R_lt (zO HO1233))) (below_size zB))
                   replace HO1196 := Aside0.mk (Kd.R_elder' (zO HO1196) (Kd.R_base ho0) hb)
                   replace HO1199 := Aside0.mk (Kd.R_elder' (zO HO1199) (Kd.R_base ho0) hb)
                   replace HO1202 := Aside0.mk (Kd.R_elder' (zO HO1202) (Kd.R_base ho0) hb)
                   replace HO1206 := Aside0.mk (Kd.R_elder' (zO HO1206) (Kd.R_base ho0) hb)
                   replace HO1210 := Aside0.mk (Kd.R_elder' (zO HO1210) (Kd.R_base ho0) hb)
                   replace HO1213 := Aside0.mk (Kd.R_elder' (zO HO1213) (Kd.R_base ho0) hb)
                   replace HO1216 := Aside0.mk (Kd.R_elder' (zO HO1216) (Kd.R_base ho0) hb)
                   replace HO1219 := Aside0.mk (Kd.R_elder' (zO HO1219) (Kd.R_base ho0) hb)
                   replace HO1223 := Aside0.mk (Kd.R_elder' (zO HO1223) (Kd.R_base ho0) hb)
                   replace HO1226 := Aside0.mk (Kd.R_elder' (zO HO1226) (Kd.R_base ho0) hb)
                   replace HO1229 := Aside0.mk (Kd.R_elder' (zO HO1229) (Kd.R_base ho0) hb)
                   replace HO1233 := Aside0.mk (Kd.R_elder' (zO HO1233) (Kd.R_base ho0) hb)
                   replace BK1190 := bB BK1190 hb
                   replace HB := bS hb
                   (try clear hb)
                   (try clear hb2)
                   (try clear hk)
                   (try clear hi)
                   (try clear ho0)
                   refine hK.out _ _ zS (fun hHeld => ?_)
                   clear hK K
                   refine nU ?_
                   refine oU 65 (some 111) (fun K hK => ?_)
                   refine goes_ Try.func54 (by kernel_rfl) rfl #[.agg #[.int .i64 a0_0, .int .i64 a0_1, .int .i64 a0_2], .slice A1 l1.length c1, .slice A3 l3.length c3] (by rfl) rfl rfl zM ?_
                   with_reducible refine (barscanlaw05_mul.calls k a0_0 a0_1 a0_2 _ _ l1 _ _ l3 t1237 _ ?side1 ?side2 ?side3 ?side4 A42.out).mono ?_
                   (case side1 => exact zN HR1)
                   (case side2 => exact HC1.out)
                   (case side3 => exact zN HR3)
                   (case side4 => exact HC3.out)
                   rintro e w98 ⟨v1238, rfl, ho0, hb⟩
                   refine ⟨_, rfl, ?_⟩
                   have HO1239 := Aside0.mk (Kd.R_lower (Kd.R_new' (Kd.R_new' (Kd.R_new' (Kd.R_new' (Kd.R_new' (Kd.R_new' (Kd.R_new' (Kd.R_new' (Kd.R_new' (Kd.R_new' (Kd.R_new' (Kd.R_new' (Kd.R_new' ho0 (Kd.R_lt (zO HO1196))) (Kd.R_lt (zO HO1199))) (Kd.R_lt (zO HO1202))) (Kd.R_lt (zO HO1206))) (Kd.R_lt (zO HO1210))) (Kd.R_lt (zO HO1213))) (Kd.R_lt (zO HO1216))) (Kd.R_lt (zO HO1219))) (Kd.R_lt (zO HO1223))) (Kd.R_lt (zO HO1226))) (Kd.R_lt (zO HO1229))) (Kd.R_lt (zO HO1233))) (Kd.R_lt (zO HO1236))) (below_size zB))
                   replace HO1196 := Aside0.mk (Kd.R_elder' (zO HO1196) (Kd.R_base ho0) hb)
                   replace HO1199 := Aside0.mk (Kd.R_elder' (zO HO1199) (Kd.R_base ho0) hb)
                   replace HO1202 := Aside0.mk (Kd.R_elder' (zO HO1202) (Kd.R_base ho0) hb)
                   replace HO1206 := Aside0.mk (Kd.R_elder' (zO HO1206) (Kd.R_base ho0) hb)
                   replace HO1210 := Aside0.mk (Kd.R_elder' (zO HO1210) (Kd.R_base ho0) hb)
                   replace HO1213 := Aside0.mk (Kd.R_elder' (zO HO1213) (Kd.R_base ho0) hb)
                   replace HO1216 := Aside0.mk (Kd.R_elder' (zO HO1216) (Kd.R_base ho0) hb)
                   replace HO1219 := Aside0.mk (Kd.R_elder' (zO HO1219) (Kd.R_base ho0) hb)
                   replace HO1223 := Aside0.mk (Kd.R_elder' (zO HO1223) (Kd.R_base ho0) hb)
                   replace HO1226 := Aside0.mk (Kd.R_elder' (zO HO1226) (Kd.R_base ho0) hb)
                   replace HO1229 := Aside0.mk (Kd.R_elder' (zO HO1229) (Kd.R_base ho0) hb)
                   replace HO1233 := Aside0.mk (Kd.R_elder' (zO HO1233) (Kd.R_base ho0) hb)
                   replace HO1236 := Aside0.mk (Kd.R_elder' (zO HO1236) (Kd.R_base ho0) hb)
                   replace BK1190 := bB BK1190 hb
                   replace HB := bS hb
                   (try clear hb)
                   (try clear hb2)
                   (try clear hk)
                   (try clear hi)
                   (try clear ho0)
                   obtain ⟨Ao99, co99, eo99⟩ := Kd.R_slice HO1239.out
                   (first | subst eo99 | (injection eo99 with f1_ f2_ f3_; have f4_ := f1_.symm; have f5_ := f3_.symm; clear f1_ f2_ f3_; subst f4_; subst f5_))
                   refine hK.out _ _ zS (fun hHeld => ?_)
                   clear hK K
                   refine nU ?_
                   refine oU 66 (some 112) (fun K hK => ?_)
                   refine goes_ Try.func56 (by kernel_rfl) rfl #[.agg #[.int .i64 a0_0, .int .i64 a0_1, .int .i64 a0_2], .slice Ao79 t1194.length co79, .slice Ao99 t1237.length co99] (by rfl) rfl rfl zM ?_
                   with_reducible refine (barscanlaw05_add.calls k a0_0 a0_1 a0_2 _ _ t1194 _ _ t1237 t1240 _ ?side1 ?side2 ?side3 ?side4 A43.out).mono ?_
                   (case side1 => exact zN HO1196)
                   (case side2 => exact (Kd.R_reads' HO1196.out).2.1)
                   (case side3 => exact zN HO1239)
                   (case side4 => exact (Kd.R_reads' HO1239.out).2.1)
                   rintro e w100 ⟨v1241, rfl, ho0, hb⟩
                   refine ⟨_, rfl, ?_⟩
                   have HO1242 := Aside0.mk (Kd.R_lower (Kd.R_new' (Kd.R_new' (Kd.R_new' (Kd.R_new' (Kd.R_new' (Kd.R_new' (Kd.R_new' (Kd.R_new' (Kd.R_new' (Kd.R_new' (Kd.R_new' (Kd.R_new' (Kd.R_new' (Kd.R_new' ho0 (Kd.R_lt (zO HO1196))) (Kd.R_lt (zO HO1199))) (Kd.R_lt (zO HO1202))) (Kd.R_lt (zO HO1206))) (Kd.R_lt (zO HO1210))) (Kd.R_lt (zO HO1213))) (Kd.R_lt (zO HO1216))) (Kd.R_lt (zO HO1219))) (Kd.R_lt (zO HO1223))) (Kd.R_lt (zO HO1226))) (Kd.R_lt (zO HO1229))) (Kd.R_lt (zO HO1233))) (Kd.R_lt (zO HO1236))) (Kd.R_lt (zO HO1239))) (below_size zB))
                   replace HO1196 := Aside0.mk (Kd.R_elder' (zO HO1196) (Kd.R_base ho0) hb)
                   replace HO1199 := Aside0.mk (Kd.R_elder' (zO HO1199) (Kd.R_base ho0) hb)
                   replace HO1202 := Aside0.mk (Kd.R_elder' (zO HO1202) (Kd.R_base ho0) hb)
                   replace HO1206 := Aside0.mk (Kd.R_elder' (zO HO1206) (Kd.R_base ho0) hb)
                   replace HO1210 := Aside0.mk (Kd.R_elder' (zO HO1210) (Kd.R_base ho0) hb)
                   replace HO1213 := Aside0.mk (Kd.R_elder' (zO HO1213) (Kd.R_base ho0) hb)
                   replace HO1216 := Aside0.mk (Kd.R_elder' (zO HO1216) (Kd.R_base ho0) hb)
                   replace HO1219 := Aside0.mk (Kd.R_elder' (zO HO1219) (Kd.R_base ho0) hb)
                   replace HO1223 := Aside0.mk (Kd.R_elder' (zO HO1223) (Kd.R_base ho0) hb)
                   replace HO1226 := Aside0.mk (Kd.R_elder' (zO HO1226) (Kd.R_base ho0) hb)
                   replace HO1229 := Aside0.mk (Kd.R_elder' (zO HO1229) (Kd.R_base ho0) hb)
                   replace HO1233 := Aside0.mk (Kd.R_elder' (zO HO1233) (Kd.R_base ho0) hb)
                   replace HO1236 := Aside0.mk (Kd.R_elder' (zO HO1236) (Kd.R_base ho0) hb)
                   replace HO1239 := Aside0.mk (Kd.R_elder' (zO HO1239) (Kd.R_base ho0) hb)
                   replace BK1190 := bB BK1190 hb
                   replace HB := bS hb
                   (try clear hb)
                   (try clear hb2)
                   (try clear hk)
                   (try clear hi)
                   (try clear ho0)
                   obtain ⟨Ao101, co101, eo101⟩ := Kd.R_slice HO1236.out
                   (first | subst eo101 | (injection eo101 with f1_ f2_ f3_; have f4_ := f1_.symm; have f5_ := f3_.symm; clear f1_ f2_ f3_; subst f4_; subst f5_))
                   obtain ⟨Ao102, co102, eo102⟩ := Kd.R_slice HO1242.out
                   (first | subst eo102 | (injection eo102 with f1_ f2_ f3_; have f4_ := f1_.symm; have f5_ := f3_.symm; clear f1_ f2_ f3_; subst f4_; subst f5_))
                   refine hK.out _ _ zS (fun hHeld => ?_)
                   clear hK K
                   refine nU ?_
                   refine oU 67 (some 113) (fun K hK => ?_)
                   refine goes_ Try.func55 (by kernel_rfl) rfl #[.slice Ao101 t1234.length co101, .slice Ao102 t1240.length co102] (by rfl) rfl rfl zM ?_
                   with_reducible refine (barscanlaw05_same.calls k _ _ t1234 _ _ t1240 true _ ?side1 ?side2 ?side3 ?side4 A44.out).mono ?_
                   (case side1 => exact zN HO1236)
                   (case side2 => exact (Kd.R_reads' HO1236.out).2.1)
                   (case side3 => exact zN HO1242)
                   (case side4 => exact (Kd.R_reads' HO1242.out).2.1)
                   rintro e w' ⟨rfl, ⟨nd, rfl⟩⟩
                   refine ⟨_, rfl, ?_⟩
                   refine hK.out _ _ zS (fun hHeld => ?_)
                   clear hK K
                   refine nU ?_
                   refine pU 68 (some 114) ?_
                   refine pU 69 (some 115) ?_
                   refine dU ?_
                   (try clear z1190_0 z1190_1 z1190_2 f1190_0 f1190_1 f1190_2)
                   obtain ⟨z1190_0, z1190_1, z1190_2, f1190_0, f1190_1, f1190_2⟩ := cz3 BK1190
                   try go_wp2_with (first | ((with_reducible refine gate_callee (f := 57) rfl ?_); refine gL (some 120) Try.func57 #[.agg #[.int .i64 a0_0, .int .i64 a0_1, .int .i64 a0_2], .slice A1 l1.length c1, .int .i64 a4] ?_; (with_reducible refine zCall (polynomial_Eval.calls k a0_0 a0_1 a0_2 _ _ l1 a4 t1244 t1245 _ ?side1 ?side2 A46.out) ?_); (case side1 => repeat (first | exact (Kd.C_below HR1.out zB) | (with_reducible refine Kd.C_alloc ?_ _) | (with_reducible refine Kd.C_drewN ?_ _) | (with_reducible refine Kd.C_drew ?_))); (case side2 => exact HC1.out); intro w104 hb; replace HO1196 := Aside0.mk (Kd.R_below (zO HO1196) hb); replace HO1199 := Aside0.mk (Kd.R_below (zO HO1199) hb); replace HO1202 := Aside0.mk (Kd.R_below (zO HO1202) hb); replace HO1206 := Aside0.mk (Kd.R_below (zO HO1206) hb); replace HO1210 := Aside0.mk (Kd.R_below (zO HO1210) hb); replace HO1213 := Aside0.mk (Kd.R_below (zO HO1213) hb); replace HO1216 := Aside0.mk (Kd.R_below (zO HO1216) hb); replace HO1219 := Aside0.mk (Kd.R_below (zO HO1219) hb); replace HO1223 := Aside0.mk (Kd.R_below (zO HO1223) hb); replace HO1226 := Aside0.mk (Kd.R_below (zO HO1226) hb); replace HO1229 := Aside0.mk (Kd.R_below (zO HO1229) hb); replace HO1233 := Aside0.mk (Kd.R_below (zO HO1233) hb); replace HO1236 := Aside0.mk (Kd.R_below (zO HO1236) hb); replace HO1239 := Aside0.mk (Kd.R_below (zO HO1239) hb); replace HO1242 := Aside0.mk (Kd.R_below (zO HO1242) hb); replace BK1190 := bB BK1190 hb; replace HB := bS hb; (try clear hb); (try clear z1190_0 z1190_1 z1190_2 f1190_0 f1190_1 f1190_2); obtain ⟨z1190_0, z1190_1, z1190_2, f1190_0, f1190_1, f1190_2⟩ := cz3 BK1190) | ((with_reducible refine gate_callee (f := 57) rfl ?_); refine gL (some 127) Try.func57 #[.agg #[.int .i64 a0_0, .int .i64 a0_1, .int .i64 a0_2], .slice A2 l2.length c2, .int .i64 a4] ?_; (with_reducible refine zCall (polynomial_Eval.calls k a0_0 a0_1 a0_2 _ _ l2 a4 t1246 t1247 _ ?side1 ?side2 A47.out) ?_); (case side1 => exact zN HR2); (case side2 => exact HC2.out); intro w106 hb; replace HO1196 := Aside0.mk (Kd.R_below (zO HO1196) hb); replace HO1199 := Aside0.mk (Kd.R_below (zO HO1199) hb); replace HO1202 := Aside0.mk (Kd.R_below (zO HO1202) hb); replace HO1206 := Aside0.mk (Kd.R_below (zO HO1206) hb); replace HO1210 := Aside0.mk (Kd.R_below (zO HO1210) hb); replace HO1213 := Aside0.mk (Kd.R_below (zO HO1213) hb); replace HO1216 := Aside0.mk (Kd.R_below (zO HO1216) hb); replace HO1219 := Aside0.mk (Kd.R_below (zO HO1219) hb); replace HO1223 := Aside0.mk (Kd.R_below (zO HO1223) hb); replace HO1226 := Aside0.mk (Kd.R_below (zO HO1226) hb); replace HO1229 := Aside0.mk (Kd.R_below (zO HO1229) hb); replace HO1233 := Aside0.mk (Kd.R_below (zO HO1233) hb); replace HO1236 := Aside0.mk (Kd.R_below (zO HO1236) hb); replace HO1239 := Aside0.mk (Kd.R_below (zO HO1239) hb); replace HO1242 := Aside0.mk (Kd.R_below (zO HO1242) hb); replace BK1190 := bB BK1190 hb; replace HB := bS hb; (try clear hb)))
                   replace HO1196 := Aside0.mk (Kd.R_drew HO1196.out)
                   replace HO1199 := Aside0.mk (Kd.R_drew HO1199.out)
                   replace HO1202 := Aside0.mk (Kd.R_drew HO1202.out)
                   replace HO1206 := Aside0.mk (Kd.R_drew HO1206.out)
                   replace HO1210 := Aside0.mk (Kd.R_drew HO1210.out)
                   replace HO1213 := Aside0.mk (Kd.R_drew HO1213.out)
                   replace HO1216 := Aside0.mk (Kd.R_drew HO1216.out)
                   replace HO1219 := Aside0.mk (Kd.R_drew HO1219.out)
                   replace HO1223 := Aside0.mk (Kd.R_drew HO1223.out)
                   replace HO1226 := Aside0.mk (Kd.R_drew HO1226.out)
                   replace HO1229 := Aside0.mk (Kd.R_drew HO1229.out)
                   replace HO1233 := Aside0.mk (Kd.R_drew HO1233.out)
                   replace HO1236 := Aside0.mk (Kd.R_drew HO1236.out)
                   replace HO1239 := Aside0.mk (Kd.R_drew HO1239.out)
                   replace HO1242 := Aside0.mk (Kd.R_drew HO1242.out)
                   replace BK1190 := Aside0.mk (blk_drew BK1190.out)
                   replace HB := Aside0.mk (below_drew1 HB.out)
                   refine start_ (n := 12) (S := fun w' => w'.cell? ⟨gb1190, 0, none⟩ = some (.int .i64 a0_0) ∧ w'.cell? ⟨gb1190, 1, none⟩ = some (.int .i64 a0_1) ∧ w'.cell? ⟨gb1190, 2, none⟩ = some (.int .i64 a0_2)) (ds := []) #[false, false, false, false, false, false, false, false, false, false, false, false] (by kernel_rfl) rfl rfl zS (fun hHeld => ?_); refine with_tabW barscanlaw05_PolynomialRing.tab8 barscanlaw05_PolynomialRing.bits8 (fun HT_ HW_ => ?_)
                   generalize w106.drew = w107 at HO1196 HO1199 HO1202 HO1206 HO1210 HO1213 HO1216 HO1219 HO1223 HO1226 HO1229 HO1233 HO1236 HO1239 HO1242 BK1190 HB hHeld ⊢
                   refine pU 2 (some 133) ?_
                   refine pU 3 (some 134) ?_
                   refine pU 5 (some 136) ?_
                   refine tU 0 (some 131) hHeld ?_
                   refine tU 1 (some 132) hHeld ?_
                   refine oU 4 (some 135) (fun K hK => ?_)
                   refine goes_ Try.func56 (by kernel_rfl) rfl #[.agg #[.int .i64 a0_0, .int .i64 a0_1, .int .i64 a0_2], .slice A1 l1.length c1, .slice A2 l2.length c2] (by rfl) rfl rfl zM ?_
                   with_reducible refine (barscanlaw05_add.calls k a0_0 a0_1 a0_2 _ _ l1 _ _ l2 t1248 _ ?side1 ?side2 ?side3 ?side4 A48.out).mono ?_
                   (case side1 => exact zN HR1)
                   (case side2 => exact HC1.out)
                   (case side3 => exact zN HR2)
                   (case side4 => exact HC2.out)
                   rintro e w108 ⟨v1249, rfl, ho0, hb⟩
                   refine ⟨_, rfl, ?_⟩
                   have HO1250 := Aside0.mk (Kd.R_lower (Kd.R_new' (Kd.R_new' (Kd.R_new' (Kd.R_new' (Kd.R_new' (Kd.R_new' (Kd.R_new' (Kd.R_new' (Kd.R_new' (Kd.R_new' (Kd.R_new' (Kd.R_new' (Kd.R_new' (Kd.R_new' (Kd.R_new' ho0 (Kd.R_lt (zO HO1196))) (Kd.R_lt (zO HO1199))) (Kd.R_lt (zO HO1202))) (Kd.R_lt (zO HO1206))) (Kd.R_lt (zO HO1210))) (Kd.R_lt (zO HO1213))) (Kd.R_lt (zO HO1216))) (Kd.R_lt (zO HO1219))) (Kd.R_lt (zO HO1223))) (Kd.R_lt (zO HO1226))) (Kd.R_lt (zO HO1229))) (Kd.R_lt (zO HO1233))) (Kd.R_lt (zO HO1236))) (Kd.R_lt (zO HO1239))) (Kd.R_lt (zO HO1242))) (below_size zB))
                   replace HO1196 := Aside0.mk (Kd.R_elder' (zO HO1196) (Kd.R_base ho0) hb)
                   replace HO1199 := Aside0.mk (Kd.R_elder' (zO HO1199) (Kd.R_base ho0) hb)
                   replace HO1202 := Aside0.mk (Kd.R_elder' (zO HO1202) (Kd.R_base ho0) hb)
                   replace HO1206 := Aside0.mk (Kd.R_elder' (zO HO1206) (Kd.R_base ho0) hb)
                   replace HO1210 := Aside0.mk (Kd.R_elder' (zO HO1210) (Kd.R_base ho0) hb)
                   replace HO1213 := Aside0.mk (Kd.R_elder' (zO HO1213) (Kd.R_base ho0) hb)
                   replace HO1216 := Aside0.mk (Kd.R_elder' (zO HO1216) (Kd.R_base ho0) hb)
                   replace HO1219 := Aside0.mk (Kd.R_elder' (zO HO1219) (Kd.R_base ho0) hb)
                   replace HO1223 := Aside0.mk (Kd.R_elder' (zO HO1223) (Kd.R_base ho0) hb)
                   replace HO1226 := Aside0.mk (Kd.R_elder' (zO HO1226) (Kd.R_base ho0) hb)
                   replace HO1229 := Aside0.mk (Kd.R_elder' (zO HO1229) (Kd.R_base ho0) hb)
                   replace HO1233 := Aside0.mk (Kd.R_elder' (zO HO1233) (Kd.R_base ho0) hb)
                   replace HO1236 := Aside0.mk (Kd.R_elder' (zO HO1236) (Kd.R_base ho0) hb)
                   replace HO1239 := Aside0.mk (Kd.R_elder' (zO HO1239) (Kd.R_base ho0) hb)
                   replace HO1242 := Aside0.mk (Kd.R_elder' (zO HO1242) (Kd.R_base ho0) hb)
                   replace BK1190 := bB BK1190 hb
                   replace HB := bS hb
                   (try clear hb)
                   (try clear hb2)
                   (try clear hk)
                   (try clear hi)
                   (try clear ho0)
                   obtain ⟨Ao109, co109, eo109⟩ := Kd.R_slice HO1250.out
                   (first | subst eo109 | (injection eo109 with f1_ f2_ f3_; have f4_ := f1_.symm; have f5_ := f3_.symm; clear f1_ f2_ f3_; subst f4_; subst f5_))
                   refine hK.out _ _ zS (fun hHeld => ?_)
                   clear hK K
                   refine nU ?_
                   refine oU 6 (some 137) (fun K hK => ?_)
                   refine goes_ Try.func57 (by kernel_rfl) rfl #[.agg #[.int .i64 a0_0, .int .i64 a0_1, .int .i64 a0_2], .slice Ao109 t1248.length co109, .int .i64 a4] (by rfl) rfl rfl zM ?_
                   with_reducible refine (polynomial_Eval.calls k a0_0 a0_1 a0_2 _ _ t1248 a4 t1251 t1252 _ ?side1 ?side2 A49.out).mono ?_
                   (case side1 => exact zN HO1250)
                   (case side2 => exact (Kd.R_reads' HO1250.out).2.1)
                   rintro e w110 ⟨rfl, hb⟩
                   refine ⟨_, rfl, ?_⟩
                   replace HO1196 := Aside0.mk (Kd.R_below (zO HO1196) hb)
                   replace HO1199 := Aside0.mk (Kd.R_below (zO HO1199) hb)
                   replace HO1202 := Aside0.mk (Kd.R_below (zO HO1202) hb)
                   replace HO1206 := Aside0.mk (Kd.R_below (zO HO1206) hb)
                   replace HO1210 := Aside0.mk (Kd.R_below (zO HO1210) hb)
                   replace HO1213 := Aside0.mk (Kd.R_below (zO HO1213) hb)
                   replace HO1216 := Aside0.mk (Kd.R_below (zO HO1216) hb)
                   replace HO1219 := Aside0.mk (Kd.R_below (zO HO1219) hb)
                   replace HO1223 := Aside0.mk (Kd.R_below (zO HO1223) hb)
                   replace HO1226 := Aside0.mk (Kd.R_below (zO HO1226) hb)
                   replace HO1229 := Aside0.mk (Kd.R_below (zO HO1229) hb)
                   replace HO1233 := Aside0.mk (Kd.R_below (zO HO1233) hb)
                   replace HO1236 := Aside0.mk (Kd.R_below (zO HO1236) hb)
                   replace HO1239 := Aside0.mk (Kd.R_below (zO HO1239) hb)
                   replace HO1242 := Aside0.mk (Kd.R_below (zO HO1242) hb)
                   replace HO1250 := Aside0.mk (Kd.R_below (zO HO1250) hb)
                   replace BK1190 := bB BK1190 hb
                   replace HB := bS hb
                   (try clear hb)
                   (try clear hb2)
                   (try clear hk)
                   (try clear hi)
                   refine hK.out _ _ zS (fun hHeld => ?_)
                   clear hK K
                   refine nU ?_
                   refine pU 7 (some 130) ?_
                   refine pU 8 (some 138) ?_
                   refine pU 9 (some 139) ?_
                   refine pU 10 (some 16) ?_
                   refine pU 11 (some 17) ?_
                   refine dU ?_
                   (try clear z1190_0 z1190_1 z1190_2 f1190_0 f1190_1 f1190_2)
                   obtain ⟨z1190_0, z1190_1, z1190_2, f1190_0, f1190_1, f1190_2⟩ := cz3 BK1190
                   try go_wp2_with (first | ((with_reducible refine gate_callee (f := 57) rfl ?_); refine gL (some 144) Try.func57 #[.agg #[.int .i64 a0_0, .int .i64 a0_1, .int .i64 a0_2], .slice Ao79 t1194.length co79, .int .i64 a4] ?_; (with_reducible refine zCall (polynomial_Eval.calls k a0_0 a0_1 a0_2 _ _ t1194 a4 t1253 t1254 _ ?side1 ?side2 A50.out) ?_); (case side1 => exact zN HO1196); (case side2 => exact (Kd.R_reads' HO1196.out).2.1); intro w112 hb; replace HO1196 := Aside0.mk (Kd.R_below (zO HO1196) hb); replace HO1199 := Aside0.mk (Kd.R_below (zO HO1199) hb); replace HO1202 := Aside0.mk (Kd.R_below (zO HO1202) hb); replace HO1206 := Aside0.mk (Kd.R_below (zO HO1206) hb); replace HO1210 := Aside0.mk (Kd.R_below (zO HO1210) hb); replace HO1213 := Aside0.mk (Kd.R_below (zO HO1213) hb); replace HO1216 := Aside0.mk (Kd.R_below (zO HO1216) hb); replace HO1219 := Aside0.mk (Kd.R_below (zO HO1219) hb); replace HO1223 := Aside0.mk (Kd.R_below (zO HO1223) hb); replace HO1226 := Aside0.mk (Kd.R_below (zO HO1226) hb); replace HO1229 := Aside0.mk (Kd.R_below (zO HO1229) hb); replace HO1233 := Aside0.mk (Kd.R_below (zO HO1233) hb); replace HO1236 := Aside0.mk (Kd.R_below (zO HO1236) hb); replace HO1239 := Aside0.mk (Kd.R_below (zO HO1239) hb); replace HO1242 := Aside0.mk (Kd.R_below (zO HO1242) hb); replace HO1250 := Aside0.mk (Kd.R_below (zO HO1250) hb); replace BK1190 := bB BK1190 hb; replace HB := bS hb; (try clear hb); (try clear z1190_0 z1190_1 z1190_2 f1190_0 f1190_1 f1190_2); obtain ⟨z1190_0, z1190_1, z1190_2, f1190_0, f1190_1, f1190_2⟩ := cz3 BK1190) | ((with_reducible refine gate_callee (f := 34) rfl ?_); refine gL (some 151) Try.func34 #[.agg #[.int .i64 a0_0, .int .i64 a0_1, .int .i64 a0_2], .int .i64 t1244, .int .i64 t1246] ?_; (with_reducible refine zCall (galois_Add.calls k a0_0 a0_1 a0_2 t1244 t1246 t1255 t1256 _ A51.out) ?_); intro w114 hb; replace HO1196 := Aside0.mk (Kd.R_below (zO HO1196) hb); replace HO1199 := Aside0.mk (Kd.R_below (zO HO1199) hb); replace HO1202 := Aside0.mk (Kd.R_below (zO HO1202) hb); replace HO1206 := Aside0.mk (Kd.R_below (zO HO1206) hb); replace HO1210 := Aside0.mk (Kd.R_below (zO HO1210) hb); replace HO1213 := Aside0.mk (Kd.R_below (zO HO1213) hb); replace HO1216 := Aside0.mk (Kd.R_below (zO HO1216) hb); replace HO1219 := Aside0.mk (Kd.R_below (zO HO1219) hb); replace HO1223 := Aside0.mk (Kd.R_below (zO HO1223) hb); replace HO1226 := Aside0.mk (Kd.R_below (zO HO1226) hb); replace HO1229 := Aside0.mk (Kd.R_below (zO HO1229) hb); replace HO1233 := Aside0.mk (Kd.R_below (zO HO1233) hb); replace HO1236 := Aside0.mk (Kd.R_below (zO HO1236) hb); replace HO1239 := Aside0.mk (Kd.R_below (zO HO1239) hb); replace HO1242 := Aside0.mk (Kd.R_below (zO HO1242) hb); replace HO1250 := Aside0.mk (Kd.R_below (zO HO1250) hb); replace BK1190 := bB BK1190 hb; replace HB := bS hb; (try clear hb); (try clear z1190_0 z1190_1 z1190_2 f1190_0 f1190_1 f1190_2); obtain ⟨z1190_0, z1190_1, z1190_2, f1190_0, f1190_1, f1190_2⟩ := cz3 BK1190) | ((with_reducible refine gate_callee (f := 38) rfl ?_); refine gL (some 158) Try.func38 #[.agg #[.int .i64 a0_0, .int .i64 a0_1, .int .i64 a0_2], .int .i64 t1244, .int .i64 t1246] ?_; (with_reducible refine zCall (galois_Mul.calls k a0_0 a0_1 a0_2 t1244 t1246 t1257 t1258 _ A52.out) ?_); intro w116 hb; replace HO1196 := Aside0.mk (Kd.R_below (zO HO1196) hb); replace HO1199 := Aside0.mk (Kd.R_below (zO HO1199) hb); replace HO1202 := Aside0.mk (Kd.R_below (zO HO1202) hb); replace HO1206 := Aside0.mk (Kd.R_below (zO HO1206) hb); replace HO1210 := Aside0.mk (Kd.R_below (zO HO1210) hb); replace HO1213 := Aside0.mk (Kd.R_below (zO HO1213) hb); replace HO1216 := Aside0.mk (Kd.R_below (zO HO1216) hb); replace HO1219 := Aside0.mk (Kd.R_below (zO HO1219) hb); replace HO1223 := Aside0.mk (Kd.R_below (zO HO1223) hb); replace HO1226 := Aside0.mk (Kd.R_below (zO HO1226) hb); replace HO1229 := Aside0.mk (Kd.R_below (zO HO1229) hb); replace HO1233 := Aside0.mk (Kd.R_below (zO HO1233) hb); replace HO1236 := Aside0.mk (Kd.R_below (zO HO1236) hb); replace HO1239 := Aside0.mk (Kd.R_below (zO HO1239) hb); replace HO1242 := Aside0.mk (Kd.R_below (zO HO1242) hb); replace HO1250 := Aside0.mk (Kd.R_below (zO HO1250) hb); replace BK1190 := bB BK1190 hb; replace HB := bS hb; (try clear hb); (try clear z1190_0 z1190_1 z1190_2 f1190_0 f1190_1 f1190_2); obtain ⟨z1190_0, z1190_1, z1190_2, f1190_0, f1190_1, f1190_2⟩ := cz3 BK1190) | ((with_reducible refine gate_dst (N := 196) rfl ?_); (try (refine gate_guard (by rfl) ?_; dsimp only)); refine Kd.R_lit (Kd.int .i64) _ 3 ?hg (N := 196) ?hd (xs := ([1] : List Int)) (inner := [.int .i64 1]) (ok := fun _ => True) (okp := fun _ => True) ?hr ?hp (fun _ hk => hk) trivial (Below.refl _ _) (Nat.le_refl _) (by simp) ?_; (case hd => rfl); (case hg => rfl); (case hr => first | (go_simp; done) | (go_simp; rfl)); (case hp => exact (Reps.one (show Kd.M (Kd.int .i64) _ _ _ 1 [.int .i64 1] from rfl) (Reps.none _ _))); intro v1260 w118 ho119 hb hg_ hnew_; clear hg_ hnew_; (first | rw [← Ny1259.out] at ho119 | (simp only [Int.reduceToNat] at ho119; rw [← Ny1259.out] at ho119)); have HO1261 := Aside0.mk (Kd.R_lower (Kd.R_new' (Kd.R_new' (Kd.R_new' (Kd.R_new' (Kd.R_new' (Kd.R_new' (Kd.R_new' (Kd.R_new' (Kd.R_new' (Kd.R_new' (Kd.R_new' (Kd.R_new' (Kd.R_new' (Kd.R_new' (Kd.R_new' (Kd.R_new' ho119 (Kd.R_lt (zO HO1196))) (Kd.R_lt (zO HO1199))) (Kd.R_lt (zO HO1202))) (Kd.R_lt (zO HO1206))) (Kd.R_lt (zO HO1210))) (Kd.R_lt (zO HO1213))) (Kd.R_lt (zO HO1216))) (Kd.R_lt (zO HO1219))) (Kd.R_lt (zO HO1223))) (Kd.R_lt (zO HO1226))) (Kd.R_lt (zO HO1229))) (Kd.R_lt (zO HO1233))) (Kd.R_lt (zO HO1236))) (Kd.R_lt (zO HO1239))) (Kd.R_lt (zO HO1242))) (Kd.R_lt (zO HO1250))) (below_size zB)); replace HO1196 := Aside0.mk (Kd.R_elder' (zO HO1196) (Kd.R_base ho119) hb); replace HO1199 := Aside0.mk (Kd.R_elder' (zO HO1199) (Kd.R_base ho119) hb); replace HO1202 := Aside0.mk (Kd.R_elder' (zO HO1202) (Kd.R_base ho119) hb); replace HO1206 := Aside0.mk (Kd.R_elder' (zO HO1206) (Kd.R_base ho119) hb); replace HO1210 := Aside0.mk (Kd.R_elder' (zO HO1210) (Kd.R_base ho119) hb); replace HO1213 := Aside0.mk (Kd.R_elder' (zO HO1213) (Kd.R_base ho119) hb); replace HO1216 := Aside0.mk (Kd.R_elder' (zO HO1216) (Kd.R_base ho119) hb); replace HO1219 := Aside0.mk (Kd.R_elder' (zO HO1219) (Kd.R_base ho119) hb); replace HO1223 := Aside0.mk (Kd.R_elder' (zO HO1223) (Kd.R_base ho119) hb); replace HO1226 := Aside0.mk (Kd.R_elder' (zO HO1226) (Kd.R_base ho119) hb); replace HO1229 := Aside0.mk (Kd.R_elder' (zO HO1229) (Kd.R_base ho119) hb); replace HO1233 := Aside0.mk (Kd.R_elder' (zO HO1233) (Kd.R_base ho119) hb); replace HO1236 := Aside0.mk (Kd.R_elder' (zO HO1236) (Kd.R_base ho119) hb); replace HO1239 := Aside0.mk (Kd.R_elder' (zO HO1239) (Kd.R_base ho119) hb); replace HO1242 := Aside0.mk (Kd.R_elder' (zO HO1242) (Kd.R_base ho119) hb); replace HO1250 := Aside0.mk (Kd.R_elder' (zO HO1250) (Kd.R_base ho119) hb); replace BK1190 := bB BK1190 hb; replace HB := bS hb; clear hb ho119; obtain ⟨Ao120, co120, eo120⟩ := Kd.R_slice HO1261.out; subst eo120) | (go_at_call 54; (with_reducible refine (barscanlaw05_mul.calls k a0_0 a0_1 a0_2 _ _ l1 _ _ y1259 t1262 _ ?side1 ?side2 ?side3 ?side4 A61.out).mono ?_); (case side1 => exact zN HR1); (case side2 => exact HC1.out); (case side3 => exact zN HO1261); (case side4 => exact (Kd.R_reads' HO1261.out).2.1); rintro e w121 ⟨v1263, rfl, ho0, hb⟩; have HO1264 := Aside0.mk (Kd.R_lower (Kd.R_new' (Kd.R_new' (Kd.R_new' (Kd.R_new' (Kd.R_new' (Kd.R_new' (Kd.R_new' (Kd.R_new' (Kd.R_new' (Kd.R_new' (Kd.R_new' (Kd.R_new' (Kd.R_new' (Kd.R_new' (Kd.R_new' (Kd.R_new' (Kd.R_new' ho0 (Kd.R_lt (zO HO1196))) (Kd.R_lt (zO HO1199))) (Kd.R_lt (zO HO1202))) (Kd.R_lt (zO HO1206))) (Kd.R_lt (zO HO1210))) (Kd.R_lt (zO HO1213))) (Kd.R_lt (zO HO1216))) (Kd.R_lt (zO HO1219))) (Kd.R_lt (zO HO1223))) (Kd.R_lt (zO HO1226))) (Kd.R_lt (zO HO1229))) (Kd.R_lt (zO HO1233))) (Kd.R_lt (zO HO1236))) (Kd.R_lt (zO HO1239))) (Kd.R_lt (zO HO1242))) (Kd.R_lt (zO HO1250))) (Kd.R_lt (zO HO1261))) (below_size zB)); replace HO1196 := Aside0.mk (Kd.R_elder' (zO HO1196) (Kd.R_base ho0) hb); replace HO1199 := Aside0.mk (Kd.R_elder' (zO HO1199) (Kd.R_base ho0) hb); replace HO1202 := Aside0.mk (Kd.R_elder' (zO HO1202) (Kd.R_base ho0) hb); replace HO1206 := Aside0.mk (Kd.R_elder' (zO HO1206) (Kd.R_base ho0) hb); replace HO1210 := Aside0.mk (Kd.R_elder' (zO HO1210) (Kd.R_base ho0) hb); replace HO1213 := Aside0.mk (Kd.R_elder' (zO HO1213) (Kd.R_base ho0) hb); replace HO1216 := Aside0.mk (Kd.R_elder' (zO HO1216) (Kd.R_base ho0) hb); replace HO1219 := Aside0.mk (Kd.R_elder' (zO HO1219) (Kd.R_base ho0) hb); replace HO1223 := Aside0.mk (Kd.R_elder' (zO HO1223) (Kd.R_base ho0) hb); replace HO1226 := Aside0.mk (Kd.R_elder' (zO HO1226) (Kd.R_base ho0) hb); replace HO1229 := Aside0.mk (Kd.R_elder' (zO HO1229) (Kd.R_base ho0) hb); replace HO1233 := Aside0.mk (Kd.R_elder' (zO HO1233) (Kd.R_base ho0) hb); replace HO1236 := Aside0.mk (Kd.R_elder' (zO HO1236) (Kd.R_base ho0) hb); replace HO1239 := Aside0.mk (Kd.R_elder' (zO HO1239) (Kd.R_base ho0) hb); replace HO1242 := Aside0.mk (Kd.R_elder' (zO HO1242) (Kd.R_base ho0) hb); replace HO1250 := Aside0.mk (Kd.R_elder' (zO HO1250) (Kd.R_base ho0) hb); replace HO1261 := Aside0.mk (Kd.R_elder' (zO HO1261) (Kd.R_base ho0) hb); replace BK1190 := bB BK1190 hb; replace HB := bS hb; (try clear hb); (try clear ho0); obtain ⟨Ao122, co122, eo122⟩ := Kd.R_slice HO1264.out; subst eo122) | (go_at_call 55; (with_reducible refine (barscanlaw05_same.calls k _ _ t1262 _ _ l1 true _ ?side1 ?side2 ?side3 ?side4 A62.out).mono ?_); (case side1 => exact zN HO1264); (case side2 => exact (Kd.R_reads' HO1264.out).2.1); (case side3 => exact zN HR1); (case side4 => exact HC1.out); rintro e w' ⟨rfl, ⟨nd, rfl⟩⟩; (try clear z1190_0 z1190_1 z1190_2 f1190_0 f1190_1 f1190_2); obtain ⟨z1190_0, z1190_1, z1190_2, f1190_0, f1190_1, f1190_2⟩ := cz3 BK1190) | (go_at_call 56; (refine (barscanlaw05_add.calls k a0_0 a0_1 a0_2 _ _ l1 _ _ ([] : List Int) t1266 _ ?side1 ?side2 ?side3 ?side4 A64.out).mono ?_); (case side1 => repeat (first | exact (Kd.C_below HR1.out zB) | (with_reducible refine Kd.C_alloc ?_ _) | (with_reducible refine Kd.C_drewN ?_ _) | (with_reducible refine Kd.C_drew ?_))); (case side2 => exact HC1.out); (case side3 => exact Kd.C_nil _ _); (case side4 => exact Nat.le_refl _); rintro e w124 ⟨v1267, rfl, ho0, hb⟩; have HO1268 := Aside0.mk (Kd.R_lower (Kd.R_new' (Kd.R_new' (Kd.R_new' (Kd.R_new' (Kd.R_new' (Kd.R_new' (Kd.R_new' (Kd.R_new' (Kd.R_new' (Kd.R_new' (Kd.R_new' (Kd.R_new' (Kd.R_new' (Kd.R_new' (Kd.R_new' (Kd.R_new' (Kd.R_new' (Kd.R_new' ho0 (Kd.R_lt (zO HO1196))) (Kd.R_lt (zO HO1199))) (Kd.R_lt (zO HO1202))) (Kd.R_lt (zO HO1206))) (Kd.R_lt (zO HO1210))) (Kd.R_lt (zO HO1213))) (Kd.R_lt (zO HO1216))) (Kd.R_lt (zO HO1219))) (Kd.R_lt (zO HO1223))) (Kd.R_lt (zO HO1226))) (Kd.R_lt (zO HO1229))) (Kd.R_lt (zO HO1233))) (Kd.R_lt (zO HO1236))) (Kd.R_lt (zO HO1239))) (Kd.R_lt (zO HO1242))) (Kd.R_lt (zO HO1250))) (Kd.R_lt (zO HO1261))) (Kd.R_lt (zO HO1264))) (below_size zB)); replace HO1196 := Aside0.mk (Kd.R_elder' (zO HO1196) (Kd.R_base ho0) hb); replace HO1199 := Aside0.mk (Kd.R_elder' (zO HO1199) (Kd.R_base ho0) hb); replace HO1202 := Aside0.mk (Kd.R_elder' (zO HO1202) (Kd.R_base ho0) hb); replace HO1206 := Aside0.mk (Kd.R_elder' (zO HO1206) (Kd.R_base ho0) hb); replace HO1210 := Aside0.mk (Kd.R_elder' (zO HO1210) (Kd.R_base ho0) hb); replace HO1213 := Aside0.mk (Kd.R_elder' (zO HO1213) (Kd.R_base ho0) hb); replace HO1216 := Aside0.mk (Kd.R_elder' (zO HO1216) (Kd.R_base ho0) hb); replace HO1219 := Aside0.mk (Kd.R_elder' (zO HO1219) (Kd.R_base ho0) hb); replace HO1223 := Aside0.mk (Kd.R_elder' (zO HO1223) (Kd.R_base ho0) hb); replace HO1226 := Aside0.mk (Kd.R_elder' (zO HO1226) (Kd.R_base ho0) hb); replace HO1229 := Aside0.mk (Kd.R_elder' (zO HO1229) (Kd.R_base ho0) hb); replace HO1233 := Aside0.mk (Kd.R_elder' (zO HO1233) (Kd.R_base ho0) hb); replace HO1236 := Aside0.mk (Kd.R_elder' (zO HO1236) (Kd.R_base ho0) hb); replace HO1239 := Aside0.mk (Kd.R_elder' (zO HO1239) (Kd.R_base ho0) hb); replace HO1242 := Aside0.mk (Kd.R_elder' (zO HO1242) (Kd.R_base ho0) hb); replace HO1250 := Aside0.mk (Kd.R_elder' (zO HO1250) (Kd.R_base ho0) hb); replace HO1261 := Aside0.mk (Kd.R_elder' (zO HO1261) (Kd.R_base ho0) hb); replace HO1264 := Aside0.mk (Kd.R_elder' (zO HO1264) (Kd.R_base ho0) hb); replace BK1190 := bB BK1190 hb; replace HB := bS hb; (try clear hb); (try clear ho0); obtain ⟨Ao125, co125, eo125⟩ := Kd.R_slice HO1268.out; subst eo125) | (go_at_call 55; (with_reducible refine (barscanlaw05_same.calls k _ _ t1266 _ _ l1 true _ ?side1 ?side2 ?side3 ?side4 A65.out).mono ?_); (case side1 => exact zN HO1268); (case side2 => exact (Kd.R_reads' HO1268.out).2.1); (case side3 => exact zN HR1); (case side4 => exact HC1.out); rintro e w' ⟨rfl, ⟨nd, rfl⟩⟩) | (go_at_call 48; (with_reducible refine (barscanlaw05_examples.calls k  t1270 _ A67.out).mono ?_); rintro e w126 ⟨rfl, hb⟩; replace HO1196 := Aside0.mk (Kd.R_below (zO HO1196) hb); replace HO1199 := Aside0.mk (Kd.R_below (zO HO1199) hb); replace HO1202 := Aside0.mk (Kd.R_below (zO HO1202) hb); replace HO1206 := Aside0.mk (Kd.R_below (zO HO1206) hb); replace HO1210 := Aside0.mk (Kd.R_below (zO HO1210) hb); replace HO1213 := Aside0.mk (Kd.R_below (zO HO1213) hb); replace HO1216 := Aside0.mk (Kd.R_below (zO HO1216) hb); replace HO1219 := Aside0.mk (Kd.R_below (zO HO1219) hb); replace HO1223 := Aside0.mk (Kd.R_below (zO HO1223) hb); replace HO1226 := Aside0.mk (Kd.R_below (zO HO1226) hb); replace HO1229 := Aside0.mk (Kd.R_below (zO HO1229) hb); replace HO1233 := Aside0.mk (Kd.R_below (zO HO1233) hb); replace HO1236 := Aside0.mk (Kd.R_below (zO HO1236) hb); replace HO1239 := Aside0.mk (Kd.R_below (zO HO1239) hb); replace HO1242 := Aside0.mk (Kd.R_below (zO HO1242) hb); replace HO1250 := Aside0.mk (Kd.R_below (zO HO1250) hb); replace HO1261 := Aside0.mk (Kd.R_below (zO HO1261) hb); replace HO1264 := Aside0.mk (Kd.R_below (zO HO1264) hb); replace HO1268 := Aside0.mk (Kd.R_below (zO HO1268) hb); replace BK1190 := bB BK1190 hb; replace HB := bS hb; (try clear hb)))
                   go_ret
                   exact ⟨zE, zB⟩
                  ·replace c66 := Bool.eq_false_iff.mpr c66
                   subst c66
                   rw [if_neg (show ¬ (false = true) by decide)] at H
                   exact absurd H (by simp)
                 ·replace c63 := Bool.eq_false_iff.mpr c63
                  subst c63
                  rw [if_neg (show ¬ (false = true) by decide)] at H
                  exact absurd H (by simp)
                ·rw [if_neg c60] at H
                 exact absurd H (by simp)
               ·rw [if_neg c59] at H
                exact absurd H (by simp)
              ·rw [if_neg c58] at H
               exact absurd H (by simp)
             ·rw [if_neg c57] at H
              exact absurd H (by simp)
            ·rw [if_neg c56] at H
             exact absurd H (by simp)
           ·rw [if_neg c55] at H
            exact absurd H (by simp)
          ·rw [if_neg c54] at H
           exact absurd H (by simp)
         ·rw [if_neg c53] at H
          exact absurd H (by simp)
        ·replace c45 := Bool.eq_false_iff.mpr c45
         subst c45
         rw [if_neg (show ¬ (false = true) by decide)] at H
         exact absurd H (by simp)
       ·replace c39 := Bool.eq_false_iff.mpr c39
        subst c39
        rw [if_neg (show ¬ (false = true) by decide)] at H
        exact absurd H (by simp)
      ·replace c34 := Bool.eq_false_iff.mpr c34
       subst c34
       rw [if_neg (show ¬ (false = true) by decide)] at H
       exact absurd H (by simp)
     ·replace c28 := Bool.eq_false_iff.mpr c28
      subst c28
      rw [if_neg (show ¬ (false = true) by decide)] at H
      exact absurd H (by simp)
    ·replace c25 := Bool.eq_false_iff.mpr c25
     subst c25
     rw [if_neg (show ¬ (false = true) by decide)] at H
     exact absurd H (by simp)
 ·replace c7 := Bool.eq_false_iff.mpr c7
  subst c7
  rw [if_neg (show ¬ (false = true) by decide)] at H
  obtain ⟨t1271, A127, H⟩ := zD H
  obtain rfl := Option.some.inj H
  go_enter Try.func9, Try.ntmps9
  go_wp2_with (first | ((with_reducible refine gate_dst (N := 5) rfl ?_); (try (refine gate_guard (by rfl) ?_; dsimp only)); refine zBox 5 #[.int .i64 a0_0, .int .i64 a0_1, .int .i64 a0_2] 23 ?_; clear HB; intro gb1190 w128 BK1190 GE1190 HB; (try clear z1190_0 z1190_1 z1190_2 f1190_0 f1190_1 f1190_2); obtain ⟨z1190_0, z1190_1, z1190_2, f1190_0, f1190_1, f1190_2⟩ := cz3 BK1190) | (go_at_call 47; (with_reducible refine (valid3.calls k a0_0 a0_1 a0_2 40 _ _ l1 _ _ l2 _ _ l3 false _ ?side1 ?side2 ?side3 ?side4 ?side5 ?side6 A6.out).mono ?_); (case side1 => exact zN HR1); (case side2 => exact HC1.out); (case side3 => exact zN HR2); (case side4 => exact HC2.out); (case side5 => exact zN HR3); (case side6 => exact HC3.out); rintro e w130 ⟨rfl, hb⟩; replace BK1190 := bB BK1190 hb; replace HB := bS hb; (try clear hb)) | ((with_reducible refine gate_callee (f := 48) rfl ?_); refine gL (some 41) Try.func48 #[] ?_; (with_reducible refine zCall (barscanlaw05_examples.calls k  t1271 _ A127.out) ?_); intro w131 hb; replace BK1190 := bB BK1190 hb; replace HB := bS hb; (try clear hb)))
  go_ret
  exact ⟨zE, zB⟩
end Go.Proofs.Ytlhaclammaaabaa.Pg
