-- Written by a program of this session over the print of the kit.
import Derived.Test.YtlhaclammaaabaaY
import Derived.Test.YtlhaclammaaabaaB0
import Derived.Test.YtlhaclammaaabaaB1
import Derived.Test.YtlhaclammaaabaaB6
import Derived.Test.YtlhaclammaaabaaB9
import Derived.Test.YtlhaclammaaabaaB16
import Derived.Test.YtlhaclammaaabaaHS42
namespace Go.Proofs.Ytlhaclammaaabaa.Pg
open Go.RowKit Go.Proofs.YtlhaclammaaabaaW.PrintWords Go.Proofs.YtlhaclammaaabaaW.PrintLast Go.Proofs.YtlhaclammaaabaaW.PrintMore
attribute [local go_sem] max2_int min2_int max_two min_two max_three min_three max_four min_four
set_option linter.unusedVariables false
set_option maxHeartbeats 8000000
set_option maxRecDepth 100000
set_option linter.unusedSimpArgs false
/-! ### barscanlaw04_GaloisExponents: function 11 -/
def barscanlaw04_GaloisExponents.f (k : Nat) (a0_0 : Int) (a0_1 : Int) (a0_2 : Int) (a0_3 : Int) (a0_4 : Int) (a0_5 : Int) (a1 : Int) : Option (Bool) := (barscanref04_Valid.f k a0_0 a0_1 a0_2).bind fun t1303 => (if t1303 = true then ((barscanref04_Is.f a0_0 a0_1 a0_2 a0_3).bind fun t1304 => (if t1304 = true then ((barscanref04_Is.f a0_0 a0_1 a0_2 a0_4).bind fun t1305 => (if t1305 = true then (if a0_3 = 0 then ((barscanlaw04_alive.f k).bind fun t1306 => (some t1306)) else (if a0_5 < (-1099511627776) then ((barscanlaw04_alive.f k).bind fun t1307 => (some t1307)) else (if a0_5 > 1099511627776 then ((barscanlaw04_alive.f k).bind fun t1308 => (some t1308)) else (if a1 < (-1099511627776) then ((barscanlaw04_alive.f k).bind fun t1309 => (some t1309)) else (if a1 > 1099511627776 then ((barscanlaw04_alive.f k).bind fun t1310 => (some t1310)) else ((galois_Order.f k a0_0 a0_1 a0_2 a0_3).bind fun bt1312 => (if bt1312.2 = 0 then (if bt1312.1 < 1 then (none) else (if bt1312.1 = 0 then (none) else (if (Int.tmod (wrap64 (a0_1 - 1)) bt1312.1) = 0 then ((barscanlaw04_calc_pow.f k a0_0 a0_1 a0_2 true a0_3 bt1312.1).bind fun bt1314 => (if bt1314.1 = 1 then ((barscanlaw04_calc_pow.f k bt1314.2.1 bt1314.2.2.1 bt1314.2.2.2.1 bt1314.2.2.2.2 a0_3 (wrap64 (a0_5 + a1))).bind fun bt1319 => ((barscanlaw04_calc_pow.f k bt1319.2.1 bt1319.2.2.1 bt1319.2.2.2.1 bt1319.2.2.2.2 a0_3 a0_5).bind fun bt1324 => ((barscanlaw04_calc_pow.f k bt1324.2.1 bt1324.2.2.1 bt1324.2.2.2.1 bt1324.2.2.2.2 a0_3 a1).bind fun bt1329 => ((barscanlaw04_calc_mul.f k bt1329.2.1 bt1329.2.2.1 bt1329.2.2.2.1 bt1329.2.2.2.2 bt1324.1 bt1329.1).bind fun bt1334 => (if bt1319.1 = bt1334.1 then ((barscanlaw04_calc_add.f k bt1334.2.1 bt1334.2.2.1 bt1334.2.2.2.1 bt1334.2.2.2.2 a0_3 a0_4).bind fun bt1339 => ((barscanlaw04_calc_pow.f k bt1339.2.1 bt1339.2.2.1 bt1339.2.2.2.1 bt1339.2.2.2.2 bt1339.1 a0_0).bind fun bt1344 => ((barscanlaw04_calc_pow.f k bt1344.2.1 bt1344.2.2.1 bt1344.2.2.2.1 bt1344.2.2.2.2 a0_3 a0_0).bind fun bt1349 => ((barscanlaw04_calc_pow.f k bt1349.2.1 bt1349.2.2.1 bt1349.2.2.2.1 bt1349.2.2.2.2 a0_4 a0_0).bind fun bt1354 => ((barscanlaw04_calc_add.f k bt1354.2.1 bt1354.2.2.1 bt1354.2.2.2.1 bt1354.2.2.2.2 bt1349.1 bt1354.1).bind fun bt1359 => (if bt1344.1 = bt1359.1 then (if bt1359.2.2.2.2 = true then ((barscanlaw04_alive.f k).bind fun t1364 => (some t1364)) else (none)) else (none))))))) else (none)))))) else (none))) else (none)))) else (none)))))))) else ((barscanlaw04_alive.f k).bind fun t1365 => (some t1365)))) else ((barscanlaw04_alive.f k).bind fun t1366 => (some t1366)))) else ((barscanlaw04_alive.f k).bind fun t1367 => (some t1367)))
theorem barscanlaw04_GaloisExponents.mono : ∀ a0 a1 a2 a3 a4 a5 a6 k, LeO (barscanlaw04_GaloisExponents.f k a0 a1 a2 a3 a4 a5 a6) (barscanlaw04_GaloisExponents.f (k + 1) a0 a1 a2 a3 a4 a5 a6) := by
 intro a0 a1 a2 a3 a4 a5 a6 k
 unfold barscanlaw04_GaloisExponents.f
 have m0_ := @barscanlaw04_alive.mono
 have m1_ := @barscanlaw04_calc_add.mono
 have m2_ := @barscanlaw04_calc_mul.mono
 have m3_ := @barscanlaw04_calc_pow.mono
 have m4_ := @barscanref04_Valid.mono
 have m5_ := @galois_Order.mono
 exact zMo
def barscanlaw04_GaloisExponents.T8 : Bool × List (List Nat × List Nat) := (true, [([], []), ([], []), ([1], [1]), ([], []), ([3], [3]), ([], []), ([4, 5], [4, 5]), ([0, 2, 6], [0, 2, 6]), ([], []), ([], []), ([], []), ([10], [10]), ([], []), ([12], [12]), ([9, 11, 13, 7], [9, 11, 13]), ([], []), ([], []), ([16], [16]), ([], []), ([15, 17, 18, 14], [15, 17, 18]), ([8, 14, 19, 19], [8, 14, 19]), ([7, 20], [7, 20]), ([21, 20], [21]), ([22], [22]), ([22], [22]), ([22], [22]), ([25, 22], [22, 25]), ([22], [22]), ([27, 22], [22, 27]), ([24, 26, 28, 22, 22], [22, 24, 26, 28]), ([22], [22]), ([23, 29, 30, 29, 22], [22, 23, 29, 30]), ([22], [22]), ([22], [22]), ([22], [22]), ([34, 22], [22, 34]), ([22], [22]), ([33, 35, 36, 31, 22], [22, 33, 35, 36]), ([22], [22]), ([22], [22]), ([39, 22], [22, 39]), ([22], [22]), ([38, 40, 41, 37, 22], [22, 38, 40, 41]), ([32, 37, 42, 42, 22], [22, 32, 37, 42]), ([31, 43, 22], [22, 31, 43]), ([22, 44], [22, 44]), ([45, 43], [45]), ([46], [46]), ([47, 46], [46, 47]), ([48, 46], [46, 48]), ([49, 46], [46, 49]), ([46, 50], [46, 50]), ([51, 46], [51]), ([52, 52], [52]), ([52, 53], [52, 53]), ([54, 53, 0, 1, 2, 3, 4, 5, 6, 7, 8, 9, 10, 11, 12, 13, 14, 15, 16, 17, 18, 19, 20, 21, 22, 23, 24, 25, 26, 27, 28, 29, 30, 31, 32, 33, 34, 35, 36, 37, 38, 39, 40, 41, 42, 43, 44, 45, 46, 47, 48, 49, 50, 51, 52, 53, 54], [54])])
def barscanlaw04_GaloisExponents.B8 : List Nat := [0, 0, 2, 0, 8, 0, 56, 127, 0, 0, 0, 1024, 0, 4096, 16127, 0, 0, 65536, 0, 524031, 1048575, 2097151, 4194303, 8388607, 8388607, 8388607, 41943039, 8388607, 142606335, 528482303, 8388607, 2147483647, 8388607, 8388607, 8388607, 17188257791, 8388607, 133143986175, 8388607, 8388607, 549764202495, 8388607, 4393751543807, 8796093022207, 17592186044415, 35184372088831, 70368744177663, 140737488355327, 281474976710655, 562949953421311, 1125899906842623, 2251799813685247, 4503599627370495, 9007199254740991, 18014398509481983, 36028797018963967]
theorem barscanlaw04_GaloisExponents.tab8 : rtab .any (opsOf Try.f11 8) = barscanlaw04_GaloisExponents.T8 := by kernel_rfl
theorem barscanlaw04_GaloisExponents.bits8 : waitsOk barscanlaw04_GaloisExponents.T8.2 barscanlaw04_GaloisExponents.B8 = true := by kernel_rfl
theorem barscanlaw04_GaloisExponents.calls (k : Nat) (a0_0 : Int) (a0_1 : Int) (a0_2 : Int) (a0_3 : Int) (a0_4 : Int) (a0_5 : Int) (a1 : Int) (r : Bool) (w : World) (h : barscanlaw04_GaloisExponents.f k a0_0 a0_1 a0_2 a0_3 a0_4 a0_5 a1 = some r) :
  Calls Try.prog 11 #[.agg #[.int .i64 a0_0, .int .i64 a0_1, .int .i64 a0_2, .int .i64 a0_3, .int .i64 a0_4, .int .i64 a0_5], .int .i64 a1] w fun e w' => e = .returned (.bool r) ∧ Below w.heap.size w w' := by
 have hu32 := Try.underlying32
 have hu23 := Try.underlying23
 have hu42 := Try.underlying42
 have HB := Aside0.mk (Below.refl w.heap.size w)
 have H := h
 unfold barscanlaw04_GaloisExponents.f at H
 clear h
 obtain ⟨t1303, A3, H⟩ := zD H
 by_cases c4 : t1303 = true
 ·subst c4
  rw [if_pos rfl] at H
  obtain ⟨t1304, A5, H⟩ := zD H
  by_cases c6 : t1304 = true
  ·subst c6
   rw [if_pos rfl] at H
   obtain ⟨t1305, A7, H⟩ := zD H
   by_cases c8 : t1305 = true
   ·subst c8
    rw [if_pos rfl] at H
    by_cases c9 : a0_3 = 0
    ·rw [if_pos c9] at H
     have c9b0 := beq_iff_eq.mpr c9
     have c9b1 := bne_eq_false_iff_eq.mpr c9
     clear c9
     obtain ⟨t1306, A10, H⟩ := zD H
     obtain rfl := Option.some.inj H
     go_enter Try.func11, Try.ntmps11
     go_wp2_with (first | ((with_reducible refine gate_dst (N := 2) rfl ?_); refine zBox 2 #[.int .i64 a0_0, .int .i64 a0_1, .int .i64 a0_2, .int .i64 a0_3, .int .i64 a0_4, .int .i64 a0_5] 32 ?_; clear HB; intro gb1302 w11 BK1302 GE1302 HB; (try clear z1302_0 z1302_1 z1302_2 z1302_3 z1302_4 z1302_5 f1302_0 f1302_1 f1302_2 f1302_3 f1302_4 f1302_5); obtain ⟨z1302_0, z1302_1, z1302_2, z1302_3, z1302_4, z1302_5, f1302_0, f1302_1, f1302_2, f1302_3, f1302_4, f1302_5⟩ := cz6 BK1302) | ((with_reducible refine gate_callee (f := 26) rfl ?_); refine gL (some 11) Try.func26 #[.agg #[.int .i64 a0_0, .int .i64 a0_1, .int .i64 a0_2]] ?_; (with_reducible refine zCall (barscanref04_Valid.calls k a0_0 a0_1 a0_2 true _ A3.out) ?_); intro w13 hb; replace BK1302 := bB BK1302 hb; replace HB := bS hb; (try clear hb); (try clear z1302_0 z1302_1 z1302_2 z1302_3 z1302_4 z1302_5 f1302_0 f1302_1 f1302_2 f1302_3 f1302_4 f1302_5); obtain ⟨z1302_0, z1302_1, z1302_2, z1302_3, z1302_4, z1302_5, f1302_0, f1302_1, f1302_2, f1302_3, f1302_4, f1302_5⟩ := cz6 BK1302) | (go_at_call 44; (with_reducible refine (barscanref04_Is.calls a0_0 a0_1 a0_2 a0_3 true _ A5.out).mono ?_); rintro e w15 ⟨rfl, hb⟩; replace BK1302 := bB BK1302 hb; replace HB := bS hb; (try clear hb); (try clear z1302_0 z1302_1 z1302_2 z1302_3 z1302_4 z1302_5 f1302_0 f1302_1 f1302_2 f1302_3 f1302_4 f1302_5); obtain ⟨z1302_0, z1302_1, z1302_2, z1302_3, z1302_4, z1302_5, f1302_0, f1302_1, f1302_2, f1302_3, f1302_4, f1302_5⟩ := cz6 BK1302) | (go_at_call 44; (with_reducible refine (barscanref04_Is.calls a0_0 a0_1 a0_2 a0_4 true _ A7.out).mono ?_); rintro e w17 ⟨rfl, hb⟩; replace BK1302 := bB BK1302 hb; replace HB := bS hb; (try clear hb); (try clear z1302_0 z1302_1 z1302_2 z1302_3 z1302_4 z1302_5 f1302_0 f1302_1 f1302_2 f1302_3 f1302_4 f1302_5); obtain ⟨z1302_0, z1302_1, z1302_2, z1302_3, z1302_4, z1302_5, f1302_0, f1302_1, f1302_2, f1302_3, f1302_4, f1302_5⟩ := cz6 BK1302) | ((with_reducible refine gate_callee (f := 27) rfl ?_); refine gL (some 52) Try.func27 #[] ?_; (with_reducible refine zCall (barscanlaw04_alive.calls k  t1306 _ A10.out) ?_); intro w19 hb; replace BK1302 := bB BK1302 hb; replace HB := bS hb; (try clear hb)))
     go_ret
     exact ⟨zE, zB⟩
    ·rw [if_neg c9] at H
     have c9b0 := beq_eq_false_iff_ne.mpr c9
     have c9b1 := bne_iff_ne.mpr c9
     by_cases c20 : a0_5 < (-1099511627776)
     ·rw [if_pos c20] at H
      have c20b0 : decide (a0_5 < (-1099511627776)) = true := decide_eq_true c20
      clear c20
      obtain ⟨t1307, A21, H⟩ := zD H
      obtain rfl := Option.some.inj H
      go_enter Try.func11, Try.ntmps11
      go_wp2_with (first | ((with_reducible refine gate_dst (N := 2) rfl ?_); refine zBox 2 #[.int .i64 a0_0, .int .i64 a0_1, .int .i64 a0_2, .int .i64 a0_3, .int .i64 a0_4, .int .i64 a0_5] 32 ?_; clear HB; intro gb1302 w22 BK1302 GE1302 HB; (try clear z1302_0 z1302_1 z1302_2 z1302_3 z1302_4 z1302_5 f1302_0 f1302_1 f1302_2 f1302_3 f1302_4 f1302_5); obtain ⟨z1302_0, z1302_1, z1302_2, z1302_3, z1302_4, z1302_5, f1302_0, f1302_1, f1302_2, f1302_3, f1302_4, f1302_5⟩ := cz6 BK1302) | ((with_reducible refine gate_callee (f := 26) rfl ?_); refine gL (some 11) Try.func26 #[.agg #[.int .i64 a0_0, .int .i64 a0_1, .int .i64 a0_2]] ?_; (with_reducible refine zCall (barscanref04_Valid.calls k a0_0 a0_1 a0_2 true _ A3.out) ?_); intro w24 hb; replace BK1302 := bB BK1302 hb; replace HB := bS hb; (try clear hb); (try clear z1302_0 z1302_1 z1302_2 z1302_3 z1302_4 z1302_5 f1302_0 f1302_1 f1302_2 f1302_3 f1302_4 f1302_5); obtain ⟨z1302_0, z1302_1, z1302_2, z1302_3, z1302_4, z1302_5, f1302_0, f1302_1, f1302_2, f1302_3, f1302_4, f1302_5⟩ := cz6 BK1302) | (go_at_call 44; (with_reducible refine (barscanref04_Is.calls a0_0 a0_1 a0_2 a0_3 true _ A5.out).mono ?_); rintro e w26 ⟨rfl, hb⟩; replace BK1302 := bB BK1302 hb; replace HB := bS hb; (try clear hb); (try clear z1302_0 z1302_1 z1302_2 z1302_3 z1302_4 z1302_5 f1302_0 f1302_1 f1302_2 f1302_3 f1302_4 f1302_5); obtain ⟨z1302_0, z1302_1, z1302_2, z1302_3, z1302_4, z1302_5, f1302_0, f1302_1, f1302_2, f1302_3, f1302_4, f1302_5⟩ := cz6 BK1302) | (go_at_call 44; (with_reducible refine (barscanref04_Is.calls a0_0 a0_1 a0_2 a0_4 true _ A7.out).mono ?_); rintro e w28 ⟨rfl, hb⟩; replace BK1302 := bB BK1302 hb; replace HB := bS hb; (try clear hb); (try clear z1302_0 z1302_1 z1302_2 z1302_3 z1302_4 z1302_5 f1302_0 f1302_1 f1302_2 f1302_3 f1302_4 f1302_5); obtain ⟨z1302_0, z1302_1, z1302_2, z1302_3, z1302_4, z1302_5, f1302_0, f1302_1, f1302_2, f1302_3, f1302_4, f1302_5⟩ := cz6 BK1302) | ((with_reducible refine gate_callee (f := 27) rfl ?_); refine gL (some 52) Try.func27 #[] ?_; (with_reducible refine zCall (barscanlaw04_alive.calls k  t1307 _ A21.out) ?_); intro w30 hb; replace BK1302 := bB BK1302 hb; replace HB := bS hb; (try clear hb)))
      go_ret
      exact ⟨zE, zB⟩
     ·rw [if_neg c20] at H
      have c20b0 : decide (a0_5 < (-1099511627776)) = false := decide_eq_false c20
      clear c20
      by_cases c31 : a0_5 > 1099511627776
      ·rw [if_pos c31] at H
       have c31b0 : decide (1099511627776 < a0_5) = true := decide_eq_true c31
       clear c31
       obtain ⟨t1308, A32, H⟩ := zD H
       obtain rfl := Option.some.inj H
       go_enter Try.func11, Try.ntmps11
       go_wp2_with (first | ((with_reducible refine gate_dst (N := 2) rfl ?_); refine zBox 2 #[.int .i64 a0_0, .int .i64 a0_1, .int .i64 a0_2, .int .i64 a0_3, .int .i64 a0_4, .int .i64 a0_5] 32 ?_; clear HB; intro gb1302 w33 BK1302 GE1302 HB; (try clear z1302_0 z1302_1 z1302_2 z1302_3 z1302_4 z1302_5 f1302_0 f1302_1 f1302_2 f1302_3 f1302_4 f1302_5); obtain ⟨z1302_0, z1302_1, z1302_2, z1302_3, z1302_4, z1302_5, f1302_0, f1302_1, f1302_2, f1302_3, f1302_4, f1302_5⟩ := cz6 BK1302) | ((with_reducible refine gate_callee (f := 26) rfl ?_); refine gL (some 11) Try.func26 #[.agg #[.int .i64 a0_0, .int .i64 a0_1, .int .i64 a0_2]] ?_; (with_reducible refine zCall (barscanref04_Valid.calls k a0_0 a0_1 a0_2 true _ A3.out) ?_); intro w35 hb; replace BK1302 := bB BK1302 hb; replace HB := bS hb; (try clear hb); (try clear z1302_0 z1302_1 z1302_2 z1302_3 z1302_4 z1302_5 f1302_0 f1302_1 f1302_2 f1302_3 f1302_4 f1302_5); obtain ⟨z1302_0, z1302_1, z1302_2, z1302_3, z1302_4, z1302_5, f1302_0, f1302_1, f1302_2, f1302_3, f1302_4, f1302_5⟩ := cz6 BK1302) | (go_at_call 44; (with_reducible refine (barscanref04_Is.calls a0_0 a0_1 a0_2 a0_3 true _ A5.out).mono ?_); rintro e w37 ⟨rfl, hb⟩; replace BK1302 := bB BK1302 hb; replace HB := bS hb; (try clear hb); (try clear z1302_0 z1302_1 z1302_2 z1302_3 z1302_4 z1302_5 f1302_0 f1302_1 f1302_2 f1302_3 f1302_4 f1302_5); obtain ⟨z1302_0, z1302_1, z1302_2, z1302_3, z1302_4, z1302_5, f1302_0, f1302_1, f1302_2, f1302_3, f1302_4, f1302_5⟩ := cz6 BK1302) | (go_at_call 44; (with_reducible refine (barscanref04_Is.calls a0_0 a0_1 a0_2 a0_4 true _ A7.out).mono ?_); rintro e w39 ⟨rfl, hb⟩; replace BK1302 := bB BK1302 hb; replace HB := bS hb; (try clear hb); (try clear z1302_0 z1302_1 z1302_2 z1302_3 z1302_4 z1302_5 f1302_0 f1302_1 f1302_2 f1302_3 f1302_4 f1302_5); obtain ⟨z1302_0, z1302_1, z1302_2, z1302_3, z1302_4, z1302_5, f1302_0, f1302_1, f1302_2, f1302_3, f1302_4, f1302_5⟩ := cz6 BK1302) | ((with_reducible refine gate_callee (f := 27) rfl ?_); refine gL (some 52) Try.func27 #[] ?_; (with_reducible refine zCall (barscanlaw04_alive.calls k  t1308 _ A32.out) ?_); intro w41 hb; replace BK1302 := bB BK1302 hb; replace HB := bS hb; (try clear hb)))
       go_ret
       exact ⟨zE, zB⟩
      ·rw [if_neg c31] at H
       have c31b0 : decide (1099511627776 < a0_5) = false := decide_eq_false c31
       clear c31
       by_cases c42 : a1 < (-1099511627776)
       ·rw [if_pos c42] at H
        have c42b0 : decide (a1 < (-1099511627776)) = true := decide_eq_true c42
        clear c42
        obtain ⟨t1309, A43, H⟩ := zD H
        obtain rfl := Option.some.inj H
        go_enter Try.func11, Try.ntmps11
        go_wp2_with (first | ((with_reducible refine gate_dst (N := 2) rfl ?_); refine zBox 2 #[.int .i64 a0_0, .int .i64 a0_1, .int .i64 a0_2, .int .i64 a0_3, .int .i64 a0_4, .int .i64 a0_5] 32 ?_; clear HB; intro gb1302 w44 BK1302 GE1302 HB; (try clear z1302_0 z1302_1 z1302_2 z1302_3 z1302_4 z1302_5 f1302_0 f1302_1 f1302_2 f1302_3 f1302_4 f1302_5); obtain ⟨z1302_0, z1302_1, z1302_2, z1302_3, z1302_4, z1302_5, f1302_0, f1302_1, f1302_2, f1302_3, f1302_4, f1302_5⟩ := cz6 BK1302) | ((with_reducible refine gate_callee (f := 26) rfl ?_); refine gL (some 11) Try.func26 #[.agg #[.int .i64 a0_0, .int .i64 a0_1, .int .i64 a0_2]] ?_; (with_reducible refine zCall (barscanref04_Valid.calls k a0_0 a0_1 a0_2 true _ A3.out) ?_); intro w46 hb; replace BK1302 := bB BK1302 hb; replace HB := bS hb; (try clear hb); (try clear z1302_0 z1302_1 z1302_2 z1302_3 z1302_4 z1302_5 f1302_0 f1302_1 f1302_2 f1302_3 f1302_4 f1302_5); obtain ⟨z1302_0, z1302_1, z1302_2, z1302_3, z1302_4, z1302_5, f1302_0, f1302_1, f1302_2, f1302_3, f1302_4, f1302_5⟩ := cz6 BK1302) | (go_at_call 44; (with_reducible refine (barscanref04_Is.calls a0_0 a0_1 a0_2 a0_3 true _ A5.out).mono ?_); rintro e w48 ⟨rfl, hb⟩; replace BK1302 := bB BK1302 hb; replace HB := bS hb; (try clear hb); (try clear z1302_0 z1302_1 z1302_2 z1302_3 z1302_4 z1302_5 f1302_0 f1302_1 f1302_2 f1302_3 f1302_4 f1302_5); obtain ⟨z1302_0, z1302_1, z1302_2, z1302_3, z1302_4, z1302_5, f1302_0, f1302_1, f1302_2, f1302_3, f1302_4, f1302_5⟩ := cz6 BK1302) | (go_at_call 44; (with_reducible refine (barscanref04_Is.calls a0_0 a0_1 a0_2 a0_4 true _ A7.out).mono ?_); rintro e w50 ⟨rfl, hb⟩; replace BK1302 := bB BK1302 hb; replace HB := bS hb; (try clear hb); (try clear z1302_0 z1302_1 z1302_2 z1302_3 z1302_4 z1302_5 f1302_0 f1302_1 f1302_2 f1302_3 f1302_4 f1302_5); obtain ⟨z1302_0, z1302_1, z1302_2, z1302_3, z1302_4, z1302_5, f1302_0, f1302_1, f1302_2, f1302_3, f1302_4, f1302_5⟩ := cz6 BK1302) | ((with_reducible refine gate_callee (f := 27) rfl ?_); refine gL (some 52) Try.func27 #[] ?_; (with_reducible refine zCall (barscanlaw04_alive.calls k  t1309 _ A43.out) ?_); intro w52 hb; replace BK1302 := bB BK1302 hb; replace HB := bS hb; (try clear hb)))
        go_ret
        exact ⟨zE, zB⟩
       ·rw [if_neg c42] at H
        have c42b0 : decide (a1 < (-1099511627776)) = false := decide_eq_false c42
        clear c42
        by_cases c53 : a1 > 1099511627776
        ·rw [if_pos c53] at H
         have c53b0 : decide (1099511627776 < a1) = true := decide_eq_true c53
         clear c53
         obtain ⟨t1310, A54, H⟩ := zD H
         obtain rfl := Option.some.inj H
         go_enter Try.func11, Try.ntmps11
         go_wp2_with (first | ((with_reducible refine gate_dst (N := 2) rfl ?_); refine zBox 2 #[.int .i64 a0_0, .int .i64 a0_1, .int .i64 a0_2, .int .i64 a0_3, .int .i64 a0_4, .int .i64 a0_5] 32 ?_; clear HB; intro gb1302 w55 BK1302 GE1302 HB; (try clear z1302_0 z1302_1 z1302_2 z1302_3 z1302_4 z1302_5 f1302_0 f1302_1 f1302_2 f1302_3 f1302_4 f1302_5); obtain ⟨z1302_0, z1302_1, z1302_2, z1302_3, z1302_4, z1302_5, f1302_0, f1302_1, f1302_2, f1302_3, f1302_4, f1302_5⟩ := cz6 BK1302) | ((with_reducible refine gate_callee (f := 26) rfl ?_); refine gL (some 11) Try.func26 #[.agg #[.int .i64 a0_0, .int .i64 a0_1, .int .i64 a0_2]] ?_; (with_reducible refine zCall (barscanref04_Valid.calls k a0_0 a0_1 a0_2 true _ A3.out) ?_); intro w57 hb; replace BK1302 := bB BK1302 hb; replace HB := bS hb; (try clear hb); (try clear z1302_0 z1302_1 z1302_2 z1302_3 z1302_4 z1302_5 f1302_0 f1302_1 f1302_2 f1302_3 f1302_4 f1302_5); obtain ⟨z1302_0, z1302_1, z1302_2, z1302_3, z1302_4, z1302_5, f1302_0, f1302_1, f1302_2, f1302_3, f1302_4, f1302_5⟩ := cz6 BK1302) | (go_at_call 44; (with_reducible refine (barscanref04_Is.calls a0_0 a0_1 a0_2 a0_3 true _ A5.out).mono ?_); rintro e w59 ⟨rfl, hb⟩; replace BK1302 := bB BK1302 hb; replace HB := bS hb; (try clear hb); (try clear z1302_0 z1302_1 z1302_2 z1302_3 z1302_4 z1302_5 f1302_0 f1302_1 f1302_2 f1302_3 f1302_4 f1302_5); obtain ⟨z1302_0, z1302_1, z1302_2, z1302_3, z1302_4, z1302_5, f1302_0, f1302_1, f1302_2, f1302_3, f1302_4, f1302_5⟩ := cz6 BK1302) | (go_at_call 44; (with_reducible refine (barscanref04_Is.calls a0_0 a0_1 a0_2 a0_4 true _ A7.out).mono ?_); rintro e w61 ⟨rfl, hb⟩; replace BK1302 := bB BK1302 hb; replace HB := bS hb; (try clear hb); (try clear z1302_0 z1302_1 z1302_2 z1302_3 z1302_4 z1302_5 f1302_0 f1302_1 f1302_2 f1302_3 f1302_4 f1302_5); obtain ⟨z1302_0, z1302_1, z1302_2, z1302_3, z1302_4, z1302_5, f1302_0, f1302_1, f1302_2, f1302_3, f1302_4, f1302_5⟩ := cz6 BK1302) | ((with_reducible refine gate_callee (f := 27) rfl ?_); refine gL (some 52) Try.func27 #[] ?_; (with_reducible refine zCall (barscanlaw04_alive.calls k  t1310 _ A54.out) ?_); intro w63 hb; replace BK1302 := bB BK1302 hb; replace HB := bS hb; (try clear hb)))
         go_ret
         exact ⟨zE, zB⟩
        ·rw [if_neg c53] at H
         have c53b0 : decide (1099511627776 < a1) = false := decide_eq_false c53
         clear c53
         obtain ⟨⟨t1312, t1313⟩, A64, H⟩ := zD H
         dsimp only at H
         by_cases c65 : t1313 = 0
         ·rw [if_pos c65] at H
          have c65b0 := beq_iff_eq.mpr c65
          have c65b1 := bne_eq_false_iff_eq.mpr c65
          clear c65
          by_cases c66 : t1312 < 1
          ·rw [if_pos c66] at H
           exact absurd H (by simp)
          ·rw [if_neg c66] at H
           have c66b0 : decide (t1312 < 1) = false := decide_eq_false c66
           clear c66
           by_cases c67 : t1312 = 0
           ·rw [if_pos c67] at H
            exact absurd H (by simp)
           ·rw [if_neg c67] at H
            have c67b0 := beq_eq_false_iff_ne.mpr c67
            have c67b1 := bne_iff_ne.mpr c67
            by_cases c68 : (Int.tmod (wrap64 (a0_1 - 1)) t1312) = 0
            ·rw [if_pos c68] at H
             have c68b0 := beq_iff_eq.mpr c68
             have c68b1 := bne_eq_false_iff_eq.mpr c68
             clear c68
             obtain ⟨⟨t1314, t1315, t1316, t1317, t1318⟩, A69, H⟩ := zD H
             dsimp only at H
             by_cases c70 : t1314 = 1
             ·rw [if_pos c70] at H
              have c70b0 := beq_iff_eq.mpr c70
              have c70b1 := bne_eq_false_iff_eq.mpr c70
              clear c70
              obtain ⟨⟨t1319, t1320, t1321, t1322, t1323⟩, A71, H⟩ := zD H
              dsimp only at H
              obtain ⟨⟨t1324, t1325, t1326, t1327, t1328⟩, A72, H⟩ := zD H
              dsimp only at H
              obtain ⟨⟨t1329, t1330, t1331, t1332, t1333⟩, A73, H⟩ := zD H
              dsimp only at H
              obtain ⟨⟨t1334, t1335, t1336, t1337, t1338⟩, A74, H⟩ := zD H
              dsimp only at H
              by_cases c75 : t1319 = t1334
              ·rw [if_pos c75] at H
               have c75b0 := beq_iff_eq.mpr c75
               have c75b1 := bne_eq_false_iff_eq.mpr c75
               clear c75
               obtain ⟨⟨t1339, t1340, t1341, t1342, t1343⟩, A76, H⟩ := zD H
               dsimp only at H
               obtain ⟨⟨t1344, t1345, t1346, t1347, t1348⟩, A77, H⟩ := zD H
               dsimp only at H
               obtain ⟨⟨t1349, t1350, t1351, t1352, t1353⟩, A78, H⟩ := zD H
               dsimp only at H
               obtain ⟨⟨t1354, t1355, t1356, t1357, t1358⟩, A79, H⟩ := zD H
               dsimp only at H
               obtain ⟨⟨t1359, t1360, t1361, t1362, t1363⟩, A80, H⟩ := zD H
               dsimp only at H
               by_cases c81 : t1344 = t1359
               ·rw [if_pos c81] at H
                have c81b0 := beq_iff_eq.mpr c81
                have c81b1 := bne_eq_false_iff_eq.mpr c81
                clear c81
                by_cases c82 : t1363 = true
                ·subst c82
                 rw [if_pos rfl] at H
                 obtain ⟨t1364, A83, H⟩ := zD H
                 obtain rfl := Option.some.inj H
                 go_enter Try.func11, Try.ntmps11
                 try go_wp2_with (first | ((with_reducible refine gate_dst (N := 2) rfl ?_); refine zBox 2 #[.int .i64 a0_0, .int .i64 a0_1, .int .i64 a0_2, .int .i64 a0_3, .int .i64 a0_4, .int .i64 a0_5] 32 ?_; clear HB; intro gb1302 w84 BK1302 GE1302 HB; (try clear z1302_0 z1302_1 z1302_2 z1302_3 z1302_4 z1302_5 f1302_0 f1302_1 f1302_2 f1302_3 f1302_4 f1302_5); obtain ⟨z1302_0, z1302_1, z1302_2, z1302_3, z1302_4, z1302_5, f1302_0, f1302_1, f1302_2, f1302_3, f1302_4, f1302_5⟩ := cz6 BK1302) | ((with_reducible refine gate_callee (f := 26) rfl ?_); refine gL (some 11) Try.func26 #[.agg #[.int .i64 a0_0, .int .i64 a0_1, .int .i64 a0_2]] ?_; (with_reducible refine zCall (barscanref04_Valid.calls k a0_0 a0_1 a0_2 true _ A3.out) ?_); intro w86 hb; replace BK1302 := bB BK1302 hb; replace HB := bS hb; (try clear hb); (try clear z1302_0 z1302_1 z1302_2 z1302_3 z1302_4 z1302_5 f1302_0 f1302_1 f1302_2 f1302_3 f1302_4 f1302_5); obtain ⟨z1302_0, z1302_1, z1302_2, z1302_3, z1302_4, z1302_5, f1302_0, f1302_1, f1302_2, f1302_3, f1302_4, f1302_5⟩ := cz6 BK1302) | (go_at_call 44; (with_reducible refine (barscanref04_Is.calls a0_0 a0_1 a0_2 a0_3 true _ A5.out).mono ?_); rintro e w88 ⟨rfl, hb⟩; replace BK1302 := bB BK1302 hb; replace HB := bS hb; (try clear hb); (try clear z1302_0 z1302_1 z1302_2 z1302_3 z1302_4 z1302_5 f1302_0 f1302_1 f1302_2 f1302_3 f1302_4 f1302_5); obtain ⟨z1302_0, z1302_1, z1302_2, z1302_3, z1302_4, z1302_5, f1302_0, f1302_1, f1302_2, f1302_3, f1302_4, f1302_5⟩ := cz6 BK1302) | (go_at_call 44; (with_reducible refine (barscanref04_Is.calls a0_0 a0_1 a0_2 a0_4 true _ A7.out).mono ?_); rintro e w90 ⟨rfl, hb⟩; replace BK1302 := bB BK1302 hb; replace HB := bS hb; (try clear hb); (try clear z1302_0 z1302_1 z1302_2 z1302_3 z1302_4 z1302_5 f1302_0 f1302_1 f1302_2 f1302_3 f1302_4 f1302_5); obtain ⟨z1302_0, z1302_1, z1302_2, z1302_3, z1302_4, z1302_5, f1302_0, f1302_1, f1302_2, f1302_3, f1302_4, f1302_5⟩ := cz6 BK1302) | ((with_reducible refine gate_dst (N := 56) rfl ?_); refine box_event ?hg (N := 56) ?hd (cs := #[.int .i64 a0_0, .int .i64 a0_1, .int .i64 a0_2, .bool true]) (t := 42) ?hr ?_; (case hd => rfl); (case hg => rfl); (case hr => first | (go_simp; done) | (go_simp; rfl)); intro gb1311 hg w92 hbox hb; have HI1311 := Aside0.mk ((⟨hbox, by rw [hg]; exact (below_size zB)⟩ : IsS42 w w92 gb1311 a0_0 a0_1 a0_2 true)); have GE1311 := gE hg; replace HB := bS hb; have NB1302_1311 := Aside0.mk ((by rw [hg]; exact Nat.ne_of_lt (blk_lt (g := gb1302) (o := .cells #[.int .i64 a0_0, .int .i64 a0_1, .int .i64 a0_2, .int .i64 a0_3, .int .i64 a0_4, .int .i64 a0_5] 32 (0, 0)) (zK BK1302)) : gb1302 ≠ gb1311)); have NB1311_1302 := Aside0.mk ((by rw [hg]; exact Nat.ne_of_gt (blk_lt (g := gb1302) (o := .cells #[.int .i64 a0_0, .int .i64 a0_1, .int .i64 a0_2, .int .i64 a0_3, .int .i64 a0_4, .int .i64 a0_5] 32 (0, 0)) (zK BK1302)) : gb1311 ≠ gb1302)); replace BK1302 := bB BK1302 hb; clear hb hbox hg; have hnb93 := NB1302_1311.out; have hnc93 := NB1311_1302.out; (try clear z1302_0 z1302_1 z1302_2 z1302_3 z1302_4 z1302_5 f1302_0 f1302_1 f1302_2 f1302_3 f1302_4 f1302_5); obtain ⟨z1302_0, z1302_1, z1302_2, z1302_3, z1302_4, z1302_5, f1302_0, f1302_1, f1302_2, f1302_3, f1302_4, f1302_5⟩ := cz6 BK1302) | ((with_reducible refine gate_callee (f := 28) rfl ?_); refine gL (some 62) Try.func28 #[.agg #[.int .i64 a0_0, .int .i64 a0_1, .int .i64 a0_2], .int .i64 a0_3] ?_; (with_reducible refine zCall (galois_Order.calls k a0_0 a0_1 a0_2 a0_3 t1312 t1313 _ A64.out) ?_); intro w95 hb; replace BK1302 := bB BK1302 hb; replace HB := bS hb (by exact b42 HI1311); replace HI1311 := Aside0.mk (IsS42.below (by exact s42 HI1311) hb); (try clear hb); (try clear z1302_0 z1302_1 z1302_2 z1302_3 z1302_4 z1302_5 f1302_0 f1302_1 f1302_2 f1302_3 f1302_4 f1302_5); obtain ⟨z1302_0, z1302_1, z1302_2, z1302_3, z1302_4, z1302_5, f1302_0, f1302_1, f1302_2, f1302_3, f1302_4, f1302_5⟩ := cz6 BK1302) | (go_at_call 61; (with_reducible refine (barscanlaw04_calc_pow.calls k gb1311 a0_0 a0_1 a0_2 true a0_3 t1312 t1314 t1315 t1316 t1317 t1318 w _ ?side1 ?side2 A69.out).mono ?_); (case side1 => exact s42 HI1311); (case side2 => exact b42 HI1311); rintro e w97 ⟨rfl, hi, hb, hk⟩; replace BK1302 := k42 BK1302 hk NB1302_1311; replace HB := Aside0.mk (hb); replace HI1311 := Aside0.mk (hi); (try clear hb); (try clear hk); (try clear hi); (try clear z1302_0 z1302_1 z1302_2 z1302_3 z1302_4 z1302_5 f1302_0 f1302_1 f1302_2 f1302_3 f1302_4 f1302_5); obtain ⟨z1302_0, z1302_1, z1302_2, z1302_3, z1302_4, z1302_5, f1302_0, f1302_1, f1302_2, f1302_3, f1302_4, f1302_5⟩ := cz6 BK1302))
                 replace BK1302 := Aside0.mk (blk_drew BK1302.out)
                 replace HI1311 := Aside0.mk (IsS42.drew HI1311.out)
                 replace HB := Aside0.mk (below_drew1 HB.out)
                 refine start_ (n := 56) (S := fun w' => w'.cell? ⟨gb1302, 0, none⟩ = some (.int .i64 a0_0) ∧ w'.cell? ⟨gb1302, 1, none⟩ = some (.int .i64 a0_1) ∧ w'.cell? ⟨gb1302, 2, none⟩ = some (.int .i64 a0_2) ∧ w'.cell? ⟨gb1302, 3, none⟩ = some (.int .i64 a0_3) ∧ w'.cell? ⟨gb1302, 4, none⟩ = some (.int .i64 a0_4) ∧ w'.cell? ⟨gb1302, 5, none⟩ = some (.int .i64 a0_5)) (ds := []) #[false, false, false, false, false, false, false, false, false, false, false, false, false, false, false, false, false, false, false, false, false, false, false, false, false, false, false, false, false, false, false, false, false, false, false, false, false, false, false, false, false, false, false, false, false, false, false, false, false, false, false, false, false, false, false, false] (by kernel_rfl) rfl rfl zS (fun hHeld => ?_); refine with_tabW barscanlaw04_GaloisExponents.tab8 barscanlaw04_GaloisExponents.bits8 (fun HT_ HW_ => ?_)
                 generalize w97.drew = w99 at BK1302 HI1311 HB hHeld ⊢
                 refine pU 0 (some 91) ?_
                 refine pU 1 (some 92) ?_
                 refine pU 3 (some 94) ?_
                 refine pU 5 (some 96) ?_
                 refine pU 8 (some 99) ?_
                 refine pU 9 (some 100) ?_
                 refine pU 10 (some 101) ?_
                 refine pU 12 (some 103) ?_
                 refine pU 15 (some 106) ?_
                 refine pU 16 (some 107) ?_
                 refine pU 18 (some 109) ?_
                 refine tU 2 (some 93) hHeld ?_
                 refine tU 4 (some 95) hHeld ?_
                 refine pU 6 (some 97) ?_
                 refine tU 11 (some 102) hHeld ?_
                 refine tU 13 (some 104) hHeld ?_
                 refine tU 17 (some 108) hHeld ?_
                 refine oU 7 (some 98) (fun K hK => ?_)
                 refine goes_ Try.func61 (by kernel_rfl) rfl #[.pointer (some ⟨gb1311, 0, none⟩), .int .i64 a0_3, .int .i64 (wrap64 (a0_5 + a1))] (by rfl) rfl rfl zM ?_
                 with_reducible refine (barscanlaw04_calc_pow.calls k gb1311 t1315 t1316 t1317 t1318 a0_3 (wrap64 (a0_5 + a1)) t1319 t1320 t1321 t1322 t1323 w _ ?side1 ?side2 A71.out).mono ?_
                 (case side1 => exact s42 HI1311)
                 (case side2 => exact b42 HI1311)
                 rintro e w100 ⟨rfl, hi, hb, hk⟩
                 refine ⟨_, rfl, ?_⟩
                 replace BK1302 := k42 BK1302 hk NB1302_1311
                 replace HB := Aside0.mk (hb)
                 replace HI1311 := Aside0.mk (hi)
                 (try clear hb)
                 (try clear hb2)
                 (try clear hk)
                 (try clear hi)
                 refine hK.out _ _ zS (fun hHeld => ?_)
                 clear hK K
                 refine nU ?_
                 refine oU 14 (some 105) (fun K hK => ?_)
                 refine goes_ Try.func61 (by kernel_rfl) rfl #[.pointer (some ⟨gb1311, 0, none⟩), .int .i64 a0_3, .int .i64 a0_5] (by rfl) rfl rfl zM ?_
                 with_reducible refine (barscanlaw04_calc_pow.calls k gb1311 t1320 t1321 t1322 t1323 a0_3 a0_5 t1324 t1325 t1326 t1327 t1328 w _ ?side1 ?side2 A72.out).mono ?_
                 (case side1 => exact s42 HI1311)
                 (case side2 => exact b42 HI1311)
                 rintro e w101 ⟨rfl, hi, hb, hk⟩
                 refine ⟨_, rfl, ?_⟩
                 replace BK1302 := k42 BK1302 hk NB1302_1311
                 replace HB := Aside0.mk (hb)
                 replace HI1311 := Aside0.mk (hi)
                 (try clear hb)
                 (try clear hb2)
                 (try clear hk)
                 (try clear hi)
                 refine hK.out _ _ zS (fun hHeld => ?_)
                 clear hK K
                 refine nU ?_
                 refine oU 19 (some 110) (fun K hK => ?_)
                 refine goes_ Try.func61 (by kernel_rfl) rfl #[.pointer (some ⟨gb1311, 0, none⟩), .int .i64 a0_3, .int .i64 a1] (by rfl) rfl rfl zM ?_
                 with_reducible refine (barscanlaw04_calc_pow.calls k gb1311 t1325 t1326 t1327 t1328 a0_3 a1 t1329 t1330 t1331 t1332 t1333 w _ ?side1 ?side2 A73.out).mono ?_
                 (case side1 => exact s42 HI1311)
                 (case side2 => exact b42 HI1311)
                 rintro e w102 ⟨rfl, hi, hb, hk⟩
                 refine ⟨_, rfl, ?_⟩
                 replace BK1302 := k42 BK1302 hk NB1302_1311
                 replace HB := Aside0.mk (hb)
                 replace HI1311 := Aside0.mk (hi)
                 (try clear hb)
                 (try clear hb2)
                 (try clear hk)
                 (try clear hi)
                 refine hK.out _ _ zS (fun hHeld => ?_)
                 clear hK K
                 refine nU ?_
                 refine oU 20 (some 111) (fun K hK => ?_)
                 refine goes_ Try.func46 (by kernel_rfl) rfl #[.pointer (some ⟨gb1311, 0, none⟩), .int .i64 t1324, .int .i64 t1329] (by rfl) rfl rfl zM ?_
                 with_reducible refine (barscanlaw04_calc_mul.calls k gb1311 t1330 t1331 t1332 t1333 t1324 t1329 t1334 t1335 t1336 t1337 t1338 w _ ?side1 ?side2 A74.out).mono ?_
                 (case side1 => exact s42 HI1311)
                 (case side2 => exact b42 HI1311)
                 rintro e w103 ⟨rfl, hi, hb, hk⟩
                 refine ⟨_, rfl, ?_⟩
                 replace BK1302 := k42 BK1302 hk NB1302_1311
                 replace HB := Aside0.mk (hb)
                 replace HI1311 := Aside0.mk (hi)
                 (try clear hb)
                 (try clear hb2)
                 (try clear hk)
                 (try clear hi)
                 refine hK.out _ _ zS (fun hHeld => ?_)
                 clear hK K
                 refine nU ?_
                 refine pU 21 (some 112) ?_
                 refine pU 22 (some 113) ?_
                 refine pU 23 (some 114) ?_
                 refine pU 24 (some 115) ?_
                 refine pU 25 (some 116) ?_
                 refine pU 27 (some 118) ?_
                 refine pU 30 (some 121) ?_
                 refine pU 32 (some 123) ?_
                 refine pU 33 (some 124) ?_
                 refine pU 34 (some 125) ?_
                 refine pU 36 (some 127) ?_
                 refine pU 38 (some 129) ?_
                 refine pU 39 (some 130) ?_
                 refine pU 41 (some 132) ?_
                 refine tU 26 (some 117) hHeld ?_
                 refine tU 28 (some 119) hHeld ?_
                 refine tU 35 (some 126) hHeld ?_
                 refine tU 40 (some 131) hHeld ?_
                 refine oU 29 (some 120) (fun K hK => ?_)
                 refine goes_ Try.func45 (by kernel_rfl) rfl #[.pointer (some ⟨gb1311, 0, none⟩), .int .i64 a0_3, .int .i64 a0_4] (by rfl) rfl rfl zM ?_
                 with_reducible refine (barscanlaw04_calc_add.calls k gb1311 t1335 t1336 t1337 t1338 a0_3 a0_4 t1339 t1340 t1341 t1342 t1343 w _ ?side1 ?side2 A76.out).mono ?_
                 (case side1 => exact s42 HI1311)
                 (case side2 => exact b42 HI1311)
                 rintro e w104 ⟨rfl, hi, hb, hk⟩
                 refine ⟨_, rfl, ?_⟩
                 replace BK1302 := k42 BK1302 hk NB1302_1311
                 replace HB := Aside0.mk (hb)
                 replace HI1311 := Aside0.mk (hi)
                 (try clear hb)
                 (try clear hb2)
                 (try clear hk)
                 (try clear hi)
                 refine hK.out _ _ zS (fun hHeld => ?_)
                 clear hK K
                 refine nU ?_
                 refine oU 31 (some 122) (fun K hK => ?_)
                 refine goes_ Try.func61 (by kernel_rfl) rfl #[.pointer (some ⟨gb1311, 0, none⟩), .int .i64 t1339, .int .i64 a0_0] (by rfl) rfl rfl zM ?_
                 with_reducible refine (barscanlaw04_calc_pow.calls k gb1311 t1340 t1341 t1342 t1343 t1339 a0_0 t1344 t1345 t1346 t1347 t1348 w _ ?side1 ?side2 A77.out).mono ?_
                 (case side1 => exact s42 HI1311)
                 (case side2 => exact b42 HI1311)
                 rintro e w105 ⟨rfl, hi, hb, hk⟩
                 refine ⟨_, rfl, ?_⟩
                 replace BK1302 := k42 BK1302 hk NB1302_1311
                 replace HB := Aside0.mk (hb)
                 replace HI1311 := Aside0.mk (hi)
                 (try clear hb)
                 (try clear hb2)
                 (try clear hk)
                 (try clear hi)
                 refine hK.out _ _ zS (fun hHeld => ?_)
                 clear hK K
                 refine nU ?_
                 refine oU 37 (some 128) (fun K hK => ?_)
                 refine goes_ Try.func61 (by kernel_rfl) rfl #[.pointer (some ⟨gb1311, 0, none⟩), .int .i64 a0_3, .int .i64 a0_0] (by rfl) rfl rfl zM ?_
                 with_reducible refine (barscanlaw04_calc_pow.calls k gb1311 t1345 t1346 t1347 t1348 a0_3 a0_0 t1349 t1350 t1351 t1352 t1353 w _ ?side1 ?side2 A78.out).mono ?_
                 (case side1 => exact s42 HI1311)
                 (case side2 => exact b42 HI1311)
                 rintro e w106 ⟨rfl, hi, hb, hk⟩
                 refine ⟨_, rfl, ?_⟩
                 replace BK1302 := k42 BK1302 hk NB1302_1311
                 replace HB := Aside0.mk (hb)
                 replace HI1311 := Aside0.mk (hi)
                 (try clear hb)
                 (try clear hb2)
                 (try clear hk)
                 (try clear hi)
                 refine hK.out _ _ zS (fun hHeld => ?_)
                 clear hK K
                 refine nU ?_
                 refine oU 42 (some 133) (fun K hK => ?_)
                 refine goes_ Try.func61 (by kernel_rfl) rfl #[.pointer (some ⟨gb1311, 0, none⟩), .int .i64 a0_4, .int .i64 a0_0] (by rfl) rfl rfl zM ?_
                 with_reducible refine (barscanlaw04_calc_pow.calls k gb1311 t1350 t1351 t1352 t1353 a0_4 a0_0 t1354 t1355 t1356 t1357 t1358 w _ ?side1 ?side2 A79.out).mono ?_
                 (case side1 => exact s42 HI1311)
                 (case side2 => exact b42 HI1311)
                 rintro e w107 ⟨rfl, hi, hb, hk⟩
                 refine ⟨_, rfl, ?_⟩
                 replace BK1302 := k42 BK1302 hk NB1302_1311
                 replace HB := Aside0.mk (hb)
                 replace HI1311 := Aside0.mk (hi)
                 (try clear hb)
                 (try clear hb2)
                 (try clear hk)
                 (try clear hi)
                 refine hK.out _ _ zS (fun hHeld => ?_)
                 clear hK K
                 refine nU ?_
                 refine oU 43 (some 134) (fun K hK => ?_)
                 refine goes_ Try.func45 (by kernel_rfl) rfl #[.pointer (some ⟨gb1311, 0, none⟩), .int .i64 t1349, .int .i64 t1354] (by rfl) rfl rfl zM ?_
                 with_reducible refine (barscanlaw04_calc_add.calls k gb1311 t1355 t1356 t1357 t1358 t1349 t1354 t1359 t1360 t1361 t1362 true w _ ?side1 ?side2 A80.out).mono ?_
                 (case side1 => exact s42 HI1311)
                 (case side2 => exact b42 HI1311)
                 rintro e w108 ⟨rfl, hi, hb, hk⟩
                 refine ⟨_, rfl, ?_⟩
                 replace BK1302 := k42 BK1302 hk NB1302_1311
                 replace HB := Aside0.mk (hb)
                 replace HI1311 := Aside0.mk (hi)
                 (try clear hb)
                 (try clear hb2)
                 (try clear hk)
                 (try clear hi)
                 refine hK.out _ _ zS (fun hHeld => ?_)
                 clear hK K
                 refine nU ?_
                 refine pU 44 (some 135) ?_
                 refine pU 45 (some 136) ?_
                 refine pU 46 (some 137) ?_
                 refine pU 47 (some 138) ?_
                 refine pU 48 (some 139) ?_
                 refine pU 49 (some 140) ?_
                 refine oU 50 (some 141) (fun K hK => ?_)
                 (obtain ⟨HGz_, hgz_⟩ := HI1311.out; have hczv_ := cellS42_3 HGz_; have hfzv_ := blk_frozen HGz_ 3; clear HGz_ hgz_)
                 refine value_ (w1 := ?_) (v := ?_) (by rfl) rfl ?_ ?_
                 rotate_left 2
                 ·go_simp
                  constructor
                  ·rfl
                  ·rfl
                 clear hczv_ hfzv_
                 refine hK.out _ _ zS (fun hHeld => ?_)
                 clear hK K
                 refine nU ?_
                 refine pU 51 (some 142) ?_
                 refine pU 52 (some 143) ?_
                 refine oU 53 (some 144) (fun K hK => ?_)
                 refine goes_ Try.func27 (by kernel_rfl) rfl #[] (by rfl) rfl rfl zM ?_
                 with_reducible refine (barscanlaw04_alive.calls k  t1364 _ A83.out).mono ?_
                 rintro e w109 ⟨rfl, hb⟩
                 refine ⟨_, rfl, ?_⟩
                 replace BK1302 := bB BK1302 hb
                 replace HB := bS hb (by exact b42 HI1311)
                 replace HI1311 := Aside0.mk (IsS42.below (by exact s42 HI1311) hb)
                 (try clear hb)
                 (try clear hb2)
                 (try clear hk)
                 (try clear hi)
                 refine hK.out _ _ zS (fun hHeld => ?_)
                 clear hK K
                 refine nU ?_
                 refine pU 54 (some 145) ?_
                 refine pU 55 (some 4) ?_
                 refine dU ?_
                 try go_wp2
                 go_ret
                 exact ⟨zE, by exact b42 HI1311⟩
                ·replace c82 := Bool.eq_false_iff.mpr c82
                 subst c82
                 rw [if_neg (show ¬ (false = true) by decide)] at H
                 exact absurd H (by simp)
               ·rw [if_neg c81] at H
                exact absurd H (by simp)
              ·rw [if_neg c75] at H
               exact absurd H (by simp)
             ·rw [if_neg c70] at H
              exact absurd H (by simp)
            ·rw [if_neg c68] at H
             exact absurd H (by simp)
         ·rw [if_neg c65] at H
          exact absurd H (by simp)
   ·replace c8 := Bool.eq_false_iff.mpr c8
    subst c8
    rw [if_neg (show ¬ (false = true) by decide)] at H
    obtain ⟨t1365, A110, H⟩ := zD H
    obtain rfl := Option.some.inj H
    go_enter Try.func11, Try.ntmps11
    go_wp2_with (first | ((with_reducible refine gate_dst (N := 2) rfl ?_); refine zBox 2 #[.int .i64 a0_0, .int .i64 a0_1, .int .i64 a0_2, .int .i64 a0_3, .int .i64 a0_4, .int .i64 a0_5] 32 ?_; clear HB; intro gb1302 w111 BK1302 GE1302 HB; (try clear z1302_0 z1302_1 z1302_2 z1302_3 z1302_4 z1302_5 f1302_0 f1302_1 f1302_2 f1302_3 f1302_4 f1302_5); obtain ⟨z1302_0, z1302_1, z1302_2, z1302_3, z1302_4, z1302_5, f1302_0, f1302_1, f1302_2, f1302_3, f1302_4, f1302_5⟩ := cz6 BK1302) | ((with_reducible refine gate_callee (f := 26) rfl ?_); refine gL (some 11) Try.func26 #[.agg #[.int .i64 a0_0, .int .i64 a0_1, .int .i64 a0_2]] ?_; (with_reducible refine zCall (barscanref04_Valid.calls k a0_0 a0_1 a0_2 true _ A3.out) ?_); intro w113 hb; replace BK1302 := bB BK1302 hb; replace HB := bS hb; (try clear hb); (try clear z1302_0 z1302_1 z1302_2 z1302_3 z1302_4 z1302_5 f1302_0 f1302_1 f1302_2 f1302_3 f1302_4 f1302_5); obtain ⟨z1302_0, z1302_1, z1302_2, z1302_3, z1302_4, z1302_5, f1302_0, f1302_1, f1302_2, f1302_3, f1302_4, f1302_5⟩ := cz6 BK1302) | (go_at_call 44; (with_reducible refine (barscanref04_Is.calls a0_0 a0_1 a0_2 a0_3 true _ A5.out).mono ?_); rintro e w115 ⟨rfl, hb⟩; replace BK1302 := bB BK1302 hb; replace HB := bS hb; (try clear hb); (try clear z1302_0 z1302_1 z1302_2 z1302_3 z1302_4 z1302_5 f1302_0 f1302_1 f1302_2 f1302_3 f1302_4 f1302_5); obtain ⟨z1302_0, z1302_1, z1302_2, z1302_3, z1302_4, z1302_5, f1302_0, f1302_1, f1302_2, f1302_3, f1302_4, f1302_5⟩ := cz6 BK1302) | (go_at_call 44; (with_reducible refine (barscanref04_Is.calls a0_0 a0_1 a0_2 a0_4 false _ A7.out).mono ?_); rintro e w117 ⟨rfl, hb⟩; replace BK1302 := bB BK1302 hb; replace HB := bS hb; (try clear hb)) | ((with_reducible refine gate_callee (f := 27) rfl ?_); refine gL (some 52) Try.func27 #[] ?_; (with_reducible refine zCall (barscanlaw04_alive.calls k  t1365 _ A110.out) ?_); intro w118 hb; replace BK1302 := bB BK1302 hb; replace HB := bS hb; (try clear hb)))
    go_ret
    exact ⟨zE, zB⟩
  ·replace c6 := Bool.eq_false_iff.mpr c6
   subst c6
   rw [if_neg (show ¬ (false = true) by decide)] at H
   obtain ⟨t1366, A119, H⟩ := zD H
   obtain rfl := Option.some.inj H
   go_enter Try.func11, Try.ntmps11
   go_wp2_with (first | ((with_reducible refine gate_dst (N := 2) rfl ?_); refine zBox 2 #[.int .i64 a0_0, .int .i64 a0_1, .int .i64 a0_2, .int .i64 a0_3, .int .i64 a0_4, .int .i64 a0_5] 32 ?_; clear HB; intro gb1302 w120 BK1302 GE1302 HB; (try clear z1302_0 z1302_1 z1302_2 z1302_3 z1302_4 z1302_5 f1302_0 f1302_1 f1302_2 f1302_3 f1302_4 f1302_5); obtain ⟨z1302_0, z1302_1, z1302_2, z1302_3, z1302_4, z1302_5, f1302_0, f1302_1, f1302_2, f1302_3, f1302_4, f1302_5⟩ := cz6 BK1302) | ((with_reducible refine gate_callee (f := 26) rfl ?_); refine gL (some 11) Try.func26 #[.agg #[.int .i64 a0_0, .int .i64 a0_1, .int .i64 a0_2]] ?_; (with_reducible refine zCall (barscanref04_Valid.calls k a0_0 a0_1 a0_2 true _ A3.out) ?_); intro w122 hb; replace BK1302 := bB BK1302 hb; replace HB := bS hb; (try clear hb); (try clear z1302_0 z1302_1 z1302_2 z1302_3 z1302_4 z1302_5 f1302_0 f1302_1 f1302_2 f1302_3 f1302_4 f1302_5); obtain ⟨z1302_0, z1302_1, z1302_2, z1302_3, z1302_4, z1302_5, f1302_0, f1302_1, f1302_2, f1302_3, f1302_4, f1302_5⟩ := cz6 BK1302) | (go_at_call 44; (with_reducible refine (barscanref04_Is.calls a0_0 a0_1 a0_2 a0_3 false _ A5.out).mono ?_); rintro e w124 ⟨rfl, hb⟩; replace BK1302 := bB BK1302 hb; replace HB := bS hb; (try clear hb)) | ((with_reducible refine gate_callee (f := 27) rfl ?_); refine gL (some 52) Try.func27 #[] ?_; (with_reducible refine zCall (barscanlaw04_alive.calls k  t1366 _ A119.out) ?_); intro w125 hb; replace BK1302 := bB BK1302 hb; replace HB := bS hb; (try clear hb)))
   go_ret
   exact ⟨zE, zB⟩
 ·replace c4 := Bool.eq_false_iff.mpr c4
  subst c4
  rw [if_neg (show ¬ (false = true) by decide)] at H
  obtain ⟨t1367, A126, H⟩ := zD H
  obtain rfl := Option.some.inj H
  go_enter Try.func11, Try.ntmps11
  go_wp2_with (first | ((with_reducible refine gate_dst (N := 2) rfl ?_); refine zBox 2 #[.int .i64 a0_0, .int .i64 a0_1, .int .i64 a0_2, .int .i64 a0_3, .int .i64 a0_4, .int .i64 a0_5] 32 ?_; clear HB; intro gb1302 w127 BK1302 GE1302 HB; (try clear z1302_0 z1302_1 z1302_2 z1302_3 z1302_4 z1302_5 f1302_0 f1302_1 f1302_2 f1302_3 f1302_4 f1302_5); obtain ⟨z1302_0, z1302_1, z1302_2, z1302_3, z1302_4, z1302_5, f1302_0, f1302_1, f1302_2, f1302_3, f1302_4, f1302_5⟩ := cz6 BK1302) | ((with_reducible refine gate_callee (f := 26) rfl ?_); refine gL (some 11) Try.func26 #[.agg #[.int .i64 a0_0, .int .i64 a0_1, .int .i64 a0_2]] ?_; (with_reducible refine zCall (barscanref04_Valid.calls k a0_0 a0_1 a0_2 false _ A3.out) ?_); intro w129 hb; replace BK1302 := bB BK1302 hb; replace HB := bS hb; (try clear hb)) | ((with_reducible refine gate_callee (f := 27) rfl ?_); refine gL (some 52) Try.func27 #[] ?_; (with_reducible refine zCall (barscanlaw04_alive.calls k  t1367 _ A126.out) ?_); intro w130 hb; replace BK1302 := bB BK1302 hb; replace HB := bS hb; (try clear hb)))
  go_ret
  exact ⟨zE, zB⟩
end Go.Proofs.Ytlhaclammaaabaa.Pg
