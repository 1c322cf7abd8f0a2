-- Written by a program of this session over the print of the kit.
import Derived.Test.YtlhaclammaaabaaY
import Derived.Test.YtlhaclammaaabaaB1
import Derived.Test.YtlhaclammaaabaaB3
import Derived.Test.YtlhaclammaaabaaB5
import Derived.Test.YtlhaclammaaabaaB18
import Derived.Test.YtlhaclammaaabaaB33
import Derived.Test.YtlhaclammaaabaaB45
namespace Go.Proofs.Ytlhaclammaaabaa.Pg
open Go.RowKit Go.Proofs.YtlhaclammaaabaaW.PrintWords Go.Proofs.YtlhaclammaaabaaW.PrintLast Go.Proofs.YtlhaclammaaabaaW.PrintMore
attribute [local go_sem] max2_int min2_int max_two min_two max_three min_three max_four min_four
set_option linter.unusedVariables false
set_option maxHeartbeats 8000000
set_option maxRecDepth 100000
set_option linter.unusedSimpArgs false
/-! ### barscanlaw05_PolynomialEvaluates: function 19 -/
mutual
def barscanlaw05_PolynomialEvaluates.j0 : Nat → List Int → List Int → Int → Bool → Int → Int → Int → Option (Bool)
 | 0, _, _, _, _, _, _, _ => none
 | k + 1, x1, x2, x3, x33, x1761000, x1761001, x1761002 => if x33 = true then ((barscanlaw05_examples.f k).bind fun t1761 => (some t1761)) else ((polynomial_Eval.f k x1761000 x1761001 x1761002 x1 x3).bind fun bt1762 => ((barscanref05_Eval.f k x1761000 x1761001 x1761002 x1 x3).bind fun bt1764 => ((polynomial_FromRoots.f k x1761000 x1761001 x1761002 x2).bind fun bt1766 => ((barscanref05_FromRoots.f k x1761000 x1761001 x1761002 x2).bind fun bt1770 => (if bt1762.1 = bt1764.1 then (if bt1762.2 = bt1764.2 then ((barscanlaw05_same.f k bt1766.1 bt1770.1).bind fun t1774 => (if t1774 = true then (barscanlaw05_PolynomialEvaluates.j1 k x1 (bt1766.2 != bt1770.2) x1761000 x1761001 x1761002) else (barscanlaw05_PolynomialEvaluates.j1 k x1 true x1761000 x1761001 x1761002))) else (barscanlaw05_PolynomialEvaluates.j1 k x1 true x1761000 x1761001 x1761002)) else (barscanlaw05_PolynomialEvaluates.j1 k x1 true x1761000 x1761001 x1761002))))))
def barscanlaw05_PolynomialEvaluates.j1 : Nat → List Int → Bool → Int → Int → Int → Option (Bool)
 | 0, _, _, _, _, _ => none
 | k + 1, x1, x79, x1761000, x1761001, x1761002 => if x79 = true then (some false) else (if x1761001 > 4096 then (barscanlaw05_PolynomialEvaluates.j2 k x1 true x1761000 x1761001 x1761002) else (barscanlaw05_PolynomialEvaluates.j2 k x1 (decide ((wrap64 (x1761001 * (x1.length : Int))) > 20000)) x1761000 x1761001 x1761002))
def barscanlaw05_PolynomialEvaluates.j2 : Nat → List Int → Bool → Int → Int → Int → Option (Bool)
 | 0, _, _, _, _, _ => none
 | k + 1, x1, x90, x1761000, x1761001, x1761002 => if x90 = true then ((barscanlaw05_examples.f k).bind fun t1775 => (some t1775)) else ((polynomial_Roots.f k x1761000 x1761001 x1761002 x1).bind fun bt1776 => ((barscanref05_Roots.f k x1761000 x1761001 x1761002 x1).bind fun bt1780 => ((barscanlaw05_same.f k bt1776.1 bt1780.1).bind fun t1784 => (if t1784 = true then (if bt1776.2 = bt1780.2 then ((barscanlaw05_examples.f k).bind fun t1785 => (some t1785)) else (some false)) else (some false)))))
end
def barscanlaw05_PolynomialEvaluates.f (k : Nat) (a0_0 : Int) (a0_1 : Int) (a0_2 : Int) (l1 : List Int) (l2 : List Int) (a3 : Int) : Option (Bool) := if (l1.length : Int) > 100 then (barscanlaw05_PolynomialEvaluates.j0 k l1 l2 a3 true a0_0 a0_1 a0_2) else (if (l2.length : Int) > 100 then (barscanlaw05_PolynomialEvaluates.j0 k l1 l2 a3 (decide ((l2.length : Int) ≤ 4096)) a0_0 a0_1 a0_2) else (barscanlaw05_PolynomialEvaluates.j0 k l1 l2 a3 false a0_0 a0_1 a0_2))
theorem barscanlaw05_PolynomialEvaluates.mono_l : ∀ k, (∀ y0 y1 y2 y3 y4 y5 y6, LeO (barscanlaw05_PolynomialEvaluates.j0 k y0 y1 y2 y3 y4 y5 y6) (barscanlaw05_PolynomialEvaluates.j0 (k + 1) y0 y1 y2 y3 y4 y5 y6)) ∧ (∀ y0 y1 y2 y3 y4, LeO (barscanlaw05_PolynomialEvaluates.j1 k y0 y1 y2 y3 y4) (barscanlaw05_PolynomialEvaluates.j1 (k + 1) y0 y1 y2 y3 y4)) ∧ (∀ y0 y1 y2 y3 y4, LeO (barscanlaw05_PolynomialEvaluates.j2 k y0 y1 y2 y3 y4) (barscanlaw05_PolynomialEvaluates.j2 (k + 1) y0 y1 y2 y3 y4))
 | 0 => ⟨fun _ _ _ _ _ _ _ r h => by simp [barscanlaw05_PolynomialEvaluates.j0] at h, fun _ _ _ _ _ r h => by simp [barscanlaw05_PolynomialEvaluates.j1] at h, fun _ _ _ _ _ r h => by simp [barscanlaw05_PolynomialEvaluates.j2] at h⟩
 | k + 1 => by
  obtain ⟨ih0, ih1, ih2⟩ := barscanlaw05_PolynomialEvaluates.mono_l k
  refine ⟨?_, ?_, ?_⟩
  ·intro y0 y1 y2 y3 y4 y5 y6
   unfold barscanlaw05_PolynomialEvaluates.j0
   have m0_ := @barscanlaw05_examples.mono
   have m1_ := @barscanlaw05_same.mono
   have m2_ := @barscanref05_Eval.mono
   have m3_ := @barscanref05_FromRoots.mono
   have m4_ := @barscanref05_Roots.mono
   have m5_ := @polynomial_Eval.mono
   have m6_ := @polynomial_FromRoots.mono
   have m7_ := @polynomial_Roots.mono
   exact zMo
  ·intro y0 y1 y2 y3 y4
   unfold barscanlaw05_PolynomialEvaluates.j1
   have m0_ := @barscanlaw05_examples.mono
   have m1_ := @barscanlaw05_same.mono
   have m2_ := @barscanref05_Eval.mono
   have m3_ := @barscanref05_FromRoots.mono
   have m4_ := @barscanref05_Roots.mono
   have m5_ := @polynomial_Eval.mono
   have m6_ := @polynomial_FromRoots.mono
   have m7_ := @polynomial_Roots.mono
   exact zMo
  ·intro y0 y1 y2 y3 y4
   unfold barscanlaw05_PolynomialEvaluates.j2
   have m0_ := @barscanlaw05_examples.mono
   have m1_ := @barscanlaw05_same.mono
   have m2_ := @barscanref05_Eval.mono
   have m3_ := @barscanref05_FromRoots.mono
   have m4_ := @barscanref05_Roots.mono
   have m5_ := @polynomial_Eval.mono
   have m6_ := @polynomial_FromRoots.mono
   have m7_ := @polynomial_Roots.mono
   exact zMo
theorem barscanlaw05_PolynomialEvaluates.mono : ∀ a0 a1 a2 a3 a4 a5 k, LeO (barscanlaw05_PolynomialEvaluates.f k a0 a1 a2 a3 a4 a5) (barscanlaw05_PolynomialEvaluates.f (k + 1) a0 a1 a2 a3 a4 a5) := by
 intro a0 a1 a2 a3 a4 a5 k
 obtain ⟨ih0, ih1, ih2⟩ := barscanlaw05_PolynomialEvaluates.mono_l k
 unfold barscanlaw05_PolynomialEvaluates.f
 have m0_ := @barscanlaw05_examples.mono
 have m1_ := @barscanlaw05_same.mono
 have m2_ := @barscanref05_Eval.mono
 have m3_ := @barscanref05_FromRoots.mono
 have m4_ := @barscanref05_Roots.mono
 have m5_ := @polynomial_Eval.mono
 have m6_ := @polynomial_FromRoots.mono
 have m7_ := @polynomial_Roots.mono
 exact zMo
theorem barscanlaw05_PolynomialEvaluates.calls (k : Nat) (a0_0 : Int) (a0_1 : Int) (a0_2 : Int) (A1 : Option Addr) (c1 : Nat) (l1 : List Int) (A2 : Option Addr) (c2 : Nat) (l2 : List Int) (a3 : Int) (r : Bool) (w : World) (hr1 : Kd.C (Kd.int .i64) w A1 l1.length l1) (hc1 : l1.length ≤ c1) (hr2 : Kd.C (Kd.int .i64) w A2 l2.length l2) (hc2 : l2.length ≤ c2) (h : barscanlaw05_PolynomialEvaluates.f k a0_0 a0_1 a0_2 l1 l2 a3 = some r) :
  Calls Try.prog 19 #[.agg #[.int .i64 a0_0, .int .i64 a0_1, .int .i64 a0_2], .slice A1 l1.length c1, .slice A2 l2.length c2, .int .i64 a3] w fun e w' => e = .returned (.bool r) ∧ Below w.heap.size w w' := by
 have hu23 := Try.underlying23
 have HR1 := Aside0.mk hr1
 have HC1 := Aside0.mk hc1
 clear hr1 hc1
 have HR2 := Aside0.mk hr2
 have HC2 := Aside0.mk hc2
 clear hr2 hc2
 have HB := Aside0.mk (Below.refl w.heap.size w)
 have H := h
 unfold barscanlaw05_PolynomialEvaluates.f at H
 clear h
 have HC5 := Aside0.mk H
 clear H
 go_enter Try.func19, Try.ntmps19
 go_upto_region 1 with (first | ((with_reducible refine gate_dst (N := 4) rfl ?_); (try (refine gate_guard (by rfl) ?_; dsimp only)); refine zBox 4 #[.int .i64 a0_0, .int .i64 a0_1, .int .i64 a0_2] 23 ?_; clear HB; intro gb1760 w6 BK1760 GE1760 HB))
 (try simp only [Act.put, List.setIfInBounds_toArray, List.set_cons_zero, List.set_cons_succ])
 go_cut [33] (fun v33 wc => ∃ (kq : Nat) (x33_4 : Bool), v33 = .bool x33_4 ∧ Aside0 (barscanlaw05_PolynomialEvaluates.j0 kq l1 l2 a3 x33_4 a0_0 a0_1 a0_2 = some r) ∧ Aside0 (kq ≤ k) ∧ Aside0 (wc.heap[gb1760]? = some (.cells #[.int .i64 a0_0, .int .i64 a0_1, .int .i64 a0_2] 23 (0, 0))) ∧ Aside0 (Below w.heap.size w wc))
 case first =>
  have H := HC5.out
  clear HC5
  by_cases c7 : (l1.length : Int) > 100
  ·rw [if_pos c7] at H
   have c7b0 : decide (100 < (l1.length : Int)) = true := decide_eq_true c7
   have c7b1 : decide (100 < l1.length) = true := decide_eq_true (by omega)
   clear c7
   (first | rw [c7b0] | (simp only [i64_w, i32_w]; rw [c7b0]) | rw [c7b1] | skip)
   have H' := zA H
   clear H
   go_wp2
   go_meet
   case rel => exact ⟨_, (true), zR, H', zL, ⟨zK BK1760⟩, ⟨zB⟩⟩
  ·rw [if_neg c7] at H
   have c7b0 : decide (100 < (l1.length : Int)) = false := decide_eq_false c7
   have c7b1 : decide (100 < l1.length) = false := decide_eq_false (by omega)
   clear c7
   (first | rw [c7b0] | (simp only [i64_w, i32_w]; rw [c7b0]) | rw [c7b1] | skip)
   by_cases c8 : (l2.length : Int) > 100
   ·rw [if_pos c8] at H
    have c8b0 : decide (100 < (l2.length : Int)) = true := decide_eq_true c8
    have c8b1 : decide (100 < l2.length) = true := decide_eq_true (by omega)
    clear c8
    have H' := zA H
    clear H
    go_wp2
    go_meet
    case rel => exact ⟨_, (decide ((l2.length : Int) ≤ 4096)), zR, H', zL, ⟨zK BK1760⟩, ⟨zB⟩⟩
   ·rw [if_neg c8] at H
    have c8b0 : decide (100 < (l2.length : Int)) = false := decide_eq_false c8
    have c8b1 : decide (100 < l2.length) = false := decide_eq_false (by omega)
    clear c8
    have H' := zA H
    clear H
    go_wp2
    go_meet
    case rel => exact ⟨_, (false), zR, H', zL, ⟨zK BK1760⟩, ⟨zB⟩⟩
 case rest =>
  clear HC5
  try clear c1
  try clear c2
  try clear p2
  try clear c7
  try clear c7b0
  try clear c7b1
  try clear c8
  try clear c8b0
  try clear c8b1
  obtain ⟨kq, x33_4, rfl, HA, HJ4, BK1760, HB⟩ := hcut
  cases kq with
  | zero => exact absurd HA.out (by simp [barscanlaw05_PolynomialEvaluates.j0])
  | succ kj4 =>
   have H := HA.out
   clear HA
   simp only [barscanlaw05_PolynomialEvaluates.j0] at H
   by_cases c9 : x33_4 = true
   ·subst c9
    rw [if_pos rfl] at H
    obtain ⟨t1761, A10, H⟩ := zD H
    obtain rfl := Option.some.inj H
    go_wp2_with (first | ((with_reducible refine gate_callee (f := 48) rfl ?_); refine gL (some 34) Try.func48 #[] ?_; (with_reducible refine zCall (barscanlaw05_examples.calls kj4  t1761 _ A10.out) ?_); intro w11 hb; replace BK1760 := bB BK1760 hb; replace HB := bS hb; (try clear hb)))
    go_ret
    exact ⟨zE, zB⟩
   ·replace c9 := Bool.eq_false_iff.mpr c9
    subst c9
    rw [if_neg (show ¬ (false = true) by decide)] at H
    obtain ⟨⟨t1762, t1763⟩, A12, H⟩ := zD H
    dsimp only at H
    obtain ⟨⟨t1764, t1765⟩, A13, H⟩ := zD H
    dsimp only at H
    obtain ⟨⟨t1766, t1769⟩, A14, H⟩ := zD H
    dsimp only at H
    obtain ⟨⟨t1770, t1773⟩, A15, H⟩ := zD H
    dsimp only at H
    have HC16 := Aside0.mk H
    clear H
    (try clear z1760_0 z1760_1 z1760_2 f1760_0 f1760_1 f1760_2)
    obtain ⟨z1760_0, z1760_1, z1760_2, f1760_0, f1760_1, f1760_2⟩ := cz3 BK1760
    go_upto_region 7 with (first | ((with_reducible refine gate_callee (f := 57) rfl ?_); refine gL (some 39) Try.func57 #[.agg #[.int .i64 a0_0, .int .i64 a0_1, .int .i64 a0_2], .slice A1 l1.length c1, .int .i64 a3] ?_; (with_reducible refine zCall (polynomial_Eval.calls kj4 a0_0 a0_1 a0_2 _ _ l1 a3 t1762 t1763 _ ?side1 ?side2 A12.out) ?_); (case side1 => exact zN HR1); (case side2 => exact HC1.out); intro w18 hb; replace BK1760 := bB BK1760 hb; replace HB := bS hb; (try clear hb); (try clear z1760_0 z1760_1 z1760_2 f1760_0 f1760_1 f1760_2); obtain ⟨z1760_0, z1760_1, z1760_2, f1760_0, f1760_1, f1760_2⟩ := cz3 BK1760) | ((with_reducible refine gate_callee (f := 73) rfl ?_); refine gL (some 46) Try.func73 #[.agg #[.int .i64 a0_0, .int .i64 a0_1, .int .i64 a0_2], .slice A1 l1.length c1, .int .i64 a3] ?_; (with_reducible refine zCall (barscanref05_Eval.calls kj4 a0_0 a0_1 a0_2 _ _ l1 a3 t1764 t1765 _ ?side1 ?side2 A13.out) ?_); (case side1 => exact zN HR1); (case side2 => exact HC1.out); intro w20 hb; replace BK1760 := bB BK1760 hb; replace HB := bS hb; (try clear hb); (try clear z1760_0 z1760_1 z1760_2 f1760_0 f1760_1 f1760_2); obtain ⟨z1760_0, z1760_1, z1760_2, f1760_0, f1760_1, f1760_2⟩ := cz3 BK1760) | ((with_reducible refine gate_callee (f := 50) rfl ?_); refine gL (some 52) Try.func50 #[.agg #[.int .i64 a0_0, .int .i64 a0_1, .int .i64 a0_2], .slice A2 l2.length c2] ?_; (with_reducible refine (polynomial_FromRoots.calls kj4 a0_0 a0_1 a0_2 _ _ l2 t1766 t1769 _ ?side1 ?side2 A14.out).mono ?_); (case side1 => exact zN HR2); (case side2 => exact HC2.out); rintro e w22 ⟨v1767, rfl, ho0, hb⟩; refine ⟨_, rfl, ?_⟩; have HO1768 := Aside0.mk (Kd.R_lower ho0 (below_size zB)); replace BK1760 := bB BK1760 hb; replace HB := bS hb; (try clear hb); (try clear ho0); (try clear z1760_0 z1760_1 z1760_2 f1760_0 f1760_1 f1760_2); obtain ⟨z1760_0, z1760_1, z1760_2, f1760_0, f1760_1, f1760_2⟩ := cz3 BK1760) | ((with_reducible refine gate_callee (f := 74) rfl ?_); refine gL (some 58) Try.func74 #[.agg #[.int .i64 a0_0, .int .i64 a0_1, .int .i64 a0_2], .slice A2 l2.length c2] ?_; (with_reducible refine (barscanref05_FromRoots.calls kj4 a0_0 a0_1 a0_2 _ _ l2 t1770 t1773 _ ?side1 ?side2 A15.out).mono ?_); (case side1 => exact zN HR2); (case side2 => exact HC2.out); rintro e w24 ⟨v1771, rfl, ho0, hb⟩; refine ⟨_, rfl, ?_⟩; have HO1772 := Aside0.mk (Kd.R_lower (Kd.R_new' ho0 (Kd.R_lt (zO HO1768))) (below_size zB)); replace HO1768 := Aside0.mk (Kd.R_elder' (zO HO1768) (Kd.R_base ho0) hb); replace BK1760 := bB BK1760 hb; replace HB := bS hb; (try clear hb); (try clear ho0)))
    (try simp only [Act.put, List.setIfInBounds_toArray, List.set_cons_zero, List.set_cons_succ])
    go_cut [79] (fun v79 wc => ∃ (kq : Nat) (x79_15 : Bool), v79 = .bool x79_15 ∧ Aside0 (barscanlaw05_PolynomialEvaluates.j1 kq l1 x79_15 a0_0 a0_1 a0_2 = some r) ∧ Aside0 (kq ≤ kj4) ∧ Aside0 (wc.heap[gb1760]? = some (.cells #[.int .i64 a0_0, .int .i64 a0_1, .int .i64 a0_2] 23 (0, 0))) ∧ Aside0 (Below w.heap.size w wc))
    case first =>
     have H := HC16.out
     clear HC16
     by_cases c25 : t1762 = t1764
     ·rw [if_pos c25] at H
      have c25b0 := beq_iff_eq.mpr c25
      have c25b1 := bne_eq_false_iff_eq.mpr c25
      clear c25
      (first | rw [c25b0] | (simp only [i64_w, i32_w]; rw [c25b0]) | skip)
      by_cases c26 : t1763 = t1765
      ·rw [if_pos c26] at H
       have c26b0 := beq_iff_eq.mpr c26
       have c26b1 := bne_eq_false_iff_eq.mpr c26
       clear c26
       obtain ⟨t1774, A27, H⟩ := zD H
       by_cases c28 : t1774 = true
       ·subst c28
        rw [if_pos rfl] at H
        have H' := zA H
        clear H
        obtain ⟨Ao29, co29, eo29⟩ := Kd.R_slice HO1768.out
        subst eo29
        obtain ⟨Ao30, co30, eo30⟩ := Kd.R_slice HO1772.out
        subst eo30
        go_wp2_with (first | (go_at_call 55; (with_reducible refine (barscanlaw05_same.calls kj4 _ _ t1766 _ _ t1770 true _ ?side1 ?side2 ?side3 ?side4 A27.out).mono ?_); (case side1 => exact zN HO1768); (case side2 => exact (Kd.R_reads' HO1768.out).2.1); (case side3 => exact zN HO1772); (case side4 => exact (Kd.R_reads' HO1772.out).2.1); rintro e w' ⟨rfl, ⟨nd, rfl⟩⟩))
        go_meet
        case rel => exact ⟨_, ((t1769 != t1773)), zR, H', ⟨by have := HJ4.out; first | omega | exact Nat.le_refl _⟩, ⟨zK BK1760⟩, ⟨zB⟩⟩
       ·replace c28 := Bool.eq_false_iff.mpr c28
        subst c28
        rw [if_neg (show ¬ (false = true) by decide)] at H
        have H' := zA H
        clear H
        obtain ⟨Ao31, co31, eo31⟩ := Kd.R_slice HO1768.out
        subst eo31
        obtain ⟨Ao32, co32, eo32⟩ := Kd.R_slice HO1772.out
        subst eo32
        go_wp2_with (first | (go_at_call 55; (with_reducible refine (barscanlaw05_same.calls kj4 _ _ t1766 _ _ t1770 false _ ?side1 ?side2 ?side3 ?side4 A27.out).mono ?_); (case side1 => exact zN HO1768); (case side2 => exact (Kd.R_reads' HO1768.out).2.1); (case side3 => exact zN HO1772); (case side4 => exact (Kd.R_reads' HO1772.out).2.1); rintro e w' ⟨rfl, ⟨nd, rfl⟩⟩))
        go_meet
        case rel => exact ⟨_, (true), zR, H', ⟨by have := HJ4.out; first | omega | exact Nat.le_refl _⟩, ⟨zK BK1760⟩, ⟨zB⟩⟩
      ·rw [if_neg c26] at H
       have c26b0 := beq_eq_false_iff_ne.mpr c26
       have c26b1 := bne_iff_ne.mpr c26
       have H' := zA H
       clear H
       go_wp2
       go_meet
       case rel => exact ⟨_, (true), zR, H', ⟨by have := HJ4.out; first | omega | exact Nat.le_refl _⟩, ⟨zK BK1760⟩, ⟨zB⟩⟩
     ·rw [if_neg c25] at H
      have c25b0 := beq_eq_false_iff_ne.mpr c25
      have c25b1 := bne_iff_ne.mpr c25
      (first | rw [c25b0] | (simp only [i64_w, i32_w]; rw [c25b0]) | skip)
      have H' := zA H
      clear H
      go_wp2
      go_meet
      case rel => exact ⟨_, (true), zR, H', ⟨by have := HJ4.out; first | omega | exact Nat.le_refl _⟩, ⟨zK BK1760⟩, ⟨zB⟩⟩
    case rest =>
     clear HC16
     try clear c1
     try clear c2
     try clear p2
     try clear c4
     try clear c5
     try clear c7
     try clear c7b0
     try clear c7b1
     try clear c8
     try clear c8b0
     try clear c8b1
     try clear c9
     try clear c19
     try clear c25
     try clear c25b0
     try clear c25b1
     try clear c26
     try clear c26b0
     try clear c26b1
     try clear c28
     try clear z1760_0 z1760_1 z1760_2 f1760_0 f1760_1 f1760_2
     try clear p2
     obtain ⟨kq, x79_15, rfl, HA, HJ15, BK1760, HB⟩ := hcut
     cases kq with
     | zero => exact absurd HA.out (by simp [barscanlaw05_PolynomialEvaluates.j1])
     | succ kj15 =>
      have H := HA.out
      clear HA
      simp only [barscanlaw05_PolynomialEvaluates.j1] at H
      by_cases c33 : x79_15 = true
      ·subst c33
       rw [if_pos rfl] at H
       obtain rfl := Option.some.inj H
       go_wp2
       go_ret
       exact ⟨zE, zB⟩
      ·replace c33 := Bool.eq_false_iff.mpr c33
       subst c33
       rw [if_neg (show ¬ (false = true) by decide)] at H
       have HC34 := Aside0.mk H
       clear H
       go_upto_region 9 with (fail)
       go_cut [90] (fun v90 wc => ∃ (kq : Nat) (x90_33 : Bool), v90 = .bool x90_33 ∧ Aside0 (barscanlaw05_PolynomialEvaluates.j2 kq l1 x90_33 a0_0 a0_1 a0_2 = some r) ∧ Aside0 (kq ≤ kj15) ∧ Aside0 (wc.heap[gb1760]? = some (.cells #[.int .i64 a0_0, .int .i64 a0_1, .int .i64 a0_2] 23 (0, 0))) ∧ Aside0 (Below w.heap.size w wc))
       case first =>
        have H := HC34.out
        clear HC34
        by_cases c35 : a0_1 > 4096
        ·rw [if_pos c35] at H
         have c35b0 : decide (4096 < a0_1) = true := decide_eq_true c35
         clear c35
         (first | rw [c35b0] | (simp only [i64_w, i32_w]; rw [c35b0]) | skip)
         have H' := zA H
         clear H
         (try clear z1760_0 z1760_1 z1760_2 f1760_0 f1760_1 f1760_2)
         obtain ⟨z1760_0, z1760_1, z1760_2, f1760_0, f1760_1, f1760_2⟩ := cz3 BK1760
         go_wp2
         go_meet
         case rel => exact ⟨_, (true), zR, H', ⟨by have := HJ4.out; have := HJ15.out; first | omega | exact Nat.le_refl _⟩, ⟨zK BK1760⟩, ⟨zB⟩⟩
        ·rw [if_neg c35] at H
         have c35b0 : decide (4096 < a0_1) = false := decide_eq_false c35
         clear c35
         (first | rw [c35b0] | (simp only [i64_w, i32_w]; rw [c35b0]) | skip)
         have H' := zA H
         clear H
         (try clear z1760_0 z1760_1 z1760_2 f1760_0 f1760_1 f1760_2)
         obtain ⟨z1760_0, z1760_1, z1760_2, f1760_0, f1760_1, f1760_2⟩ := cz3 BK1760
         go_wp2
         go_meet
         case rel => exact ⟨_, (decide ((wrap64 (a0_1 * (l1.length : Int))) > 20000)), zR, H', ⟨by have := HJ4.out; have := HJ15.out; first | omega | exact Nat.le_refl _⟩, ⟨zK BK1760⟩, ⟨zB⟩⟩
       case rest =>
        clear HC34
        try clear c1
        try clear c2
        try clear p2
        try clear c3
        try clear c4
        try clear c5
        try clear p6
        try clear c7
        try clear c7b0
        try clear c7b1
        try clear c8
        try clear c8b0
        try clear c8b1
        try clear c9
        try clear c19
        try clear c25
        try clear c25b0
        try clear c25b1
        try clear c26
        try clear c26b0
        try clear c26b1
        try clear c28
        try clear c33
        try clear c35
        try clear c35b0
        try clear z1760_0 z1760_1 z1760_2 f1760_0 f1760_1 f1760_2
        try clear p2
        obtain ⟨kq, x90_33, rfl, HA, HJ33, BK1760, HB⟩ := hcut
        cases kq with
        | zero => exact absurd HA.out (by simp [barscanlaw05_PolynomialEvaluates.j2])
        | succ kj33 =>
         have H := HA.out
         clear HA
         simp only [barscanlaw05_PolynomialEvaluates.j2] at H
         by_cases c38 : x90_33 = true
         ·subst c38
          rw [if_pos rfl] at H
          obtain ⟨t1775, A39, H⟩ := zD H
          obtain rfl := Option.some.inj H
          go_wp2_with (first | ((with_reducible refine gate_callee (f := 48) rfl ?_); refine gL (some 91) Try.func48 #[] ?_; (with_reducible refine zCall (barscanlaw05_examples.calls kj33  t1775 _ A39.out) ?_); intro w40 hb; replace BK1760 := bB BK1760 hb; replace HB := bS hb; (try clear hb)))
          go_ret
          exact ⟨zE, zB⟩
         ·replace c38 := Bool.eq_false_iff.mpr c38
          subst c38
          rw [if_neg (show ¬ (false = true) by decide)] at H
          obtain ⟨⟨t1776, t1779⟩, A41, H⟩ := zD H
          dsimp only at H
          obtain ⟨⟨t1780, t1783⟩, A42, H⟩ := zD H
          dsimp only at H
          obtain ⟨t1784, A43, H⟩ := zD H
          by_cases c44 : t1784 = true
          ·subst c44
           rw [if_pos rfl] at H
           by_cases c45 : t1779 = t1783
           ·rw [if_pos c45] at H
            have c45b0 := beq_iff_eq.mpr c45
            have c45b1 := bne_eq_false_iff_eq.mpr c45
            clear c45
            obtain ⟨t1785, A46, H⟩ := zD H
            obtain rfl := Option.some.inj H
            (try clear z1760_0 z1760_1 z1760_2 f1760_0 f1760_1 f1760_2)
            obtain ⟨z1760_0, z1760_1, z1760_2, f1760_0, f1760_1, f1760_2⟩ := cz3 BK1760
            go_wp2_with (first | ((with_reducible refine gate_callee (f := 49) rfl ?_); refine gL (some 95) Try.func49 #[.agg #[.int .i64 a0_0, .int .i64 a0_1, .int .i64 a0_2], .slice A1 l1.length c1] ?_; (with_reducible refine (polynomial_Roots.calls kj33 a0_0 a0_1 a0_2 _ _ l1 t1776 t1779 _ ?side1 ?side2 A41.out).mono ?_); (case side1 => exact zN HR1); (case side2 => exact HC1.out); rintro e w48 ⟨v1777, rfl, ho0, hb⟩; refine ⟨_, rfl, ?_⟩; have HO1778 := Aside0.mk (Kd.R_lower ho0 (below_size zB)); replace BK1760 := bB BK1760 hb; replace HB := bS hb; (try clear hb); (try clear ho0); (try clear z1760_0 z1760_1 z1760_2 f1760_0 f1760_1 f1760_2); obtain ⟨z1760_0, z1760_1, z1760_2, f1760_0, f1760_1, f1760_2⟩ := cz3 BK1760) | ((with_reducible refine gate_callee (f := 75) rfl ?_); refine gL (some 101) Try.func75 #[.agg #[.int .i64 a0_0, .int .i64 a0_1, .int .i64 a0_2], .slice A1 l1.length c1] ?_; (with_reducible refine (barscanref05_Roots.calls kj33 a0_0 a0_1 a0_2 _ _ l1 t1780 t1783 _ ?side1 ?side2 A42.out).mono ?_); (case side1 => exact zN HR1); (case side2 => exact HC1.out); rintro e w50 ⟨v1781, rfl, ho0, hb⟩; refine ⟨_, rfl, ?_⟩; have HO1782 := Aside0.mk (Kd.R_lower (Kd.R_new' ho0 (Kd.R_lt (zO HO1778))) (below_size zB)); replace HO1778 := Aside0.mk (Kd.R_elder' (zO HO1778) (Kd.R_base ho0) hb); replace BK1760 := bB BK1760 hb; replace HB := bS hb; (try clear hb); (try clear ho0); obtain ⟨Ao51, co51, eo51⟩ := Kd.R_slice HO1778.out; subst eo51; obtain ⟨Ao52, co52, eo52⟩ := Kd.R_slice HO1782.out; subst eo52) | ((with_reducible refine gate_callee (f := 55) rfl ?_); refine gL (some 106) Try.func55 #[.slice Ao51 t1776.length co51, .slice Ao52 t1780.length co52] ?_; (with_reducible refine (barscanlaw05_same.calls kj33 _ _ t1776 _ _ t1780 true _ ?side1 ?side2 ?side3 ?side4 A43.out).mono ?_); (case side1 => exact zN HO1778); (case side2 => exact (Kd.R_reads' HO1778.out).2.1); (case side3 => exact zN HO1782); (case side4 => exact (Kd.R_reads' HO1782.out).2.1); rintro e w' ⟨rfl, ⟨nd, rfl⟩⟩; refine ⟨_, rfl, ?_⟩) | (go_at_call 48; (with_reducible refine (barscanlaw05_examples.calls kj33  t1785 _ A46.out).mono ?_); rintro e w53 ⟨rfl, hb⟩; replace HO1778 := Aside0.mk (Kd.R_below (zO HO1778) hb); replace HO1782 := Aside0.mk (Kd.R_below (zO HO1782) hb); replace BK1760 := bB BK1760 hb; replace HB := bS hb; (try clear hb)))
            go_ret
            exact ⟨zE, zB⟩
           ·rw [if_neg c45] at H
            have c45b0 := beq_eq_false_iff_ne.mpr c45
            have c45b1 := bne_iff_ne.mpr c45
            obtain rfl := Option.some.inj H
            (try clear z1760_0 z1760_1 z1760_2 f1760_0 f1760_1 f1760_2)
            obtain ⟨z1760_0, z1760_1, z1760_2, f1760_0, f1760_1, f1760_2⟩ := cz3 BK1760
            go_wp2_with (first | ((with_reducible refine gate_callee (f := 49) rfl ?_); refine gL (some 95) Try.func49 #[.agg #[.int .i64 a0_0, .int .i64 a0_1, .int .i64 a0_2], .slice A1 l1.length c1] ?_; (with_reducible refine (polynomial_Roots.calls kj33 a0_0 a0_1 a0_2 _ _ l1 t1776 t1779 _ ?side1 ?side2 A41.out).mono ?_); (case side1 => exact zN HR1); (case side2 => exact HC1.out); rintro e w55 ⟨v1777, rfl, ho0, hb⟩; refine ⟨_, rfl, ?_⟩; have HO1778 := Aside0.mk (Kd.R_lower ho0 (below_size zB)); replace BK1760 := bB BK1760 hb; replace HB := bS hb; (try clear hb); (try clear ho0); (try clear z1760_0 z1760_1 z1760_2 f1760_0 f1760_1 f1760_2); obtain ⟨z1760_0, z1760_1, z1760_2, f1760_0, f1760_1, f1760_2⟩ := cz3 BK1760) | ((with_reducible refine gate_callee (f := 75) rfl ?_); refine gL (some 101) Try.func75 #[.agg #[.int .i64 a0_0, .int .i64 a0_1, .int .i64 a0_2], .slice A1 l1.length c1] ?_; (with_reducible refine (barscanref05_Roots.calls kj33 a0_0 a0_1 a0_2 _ _ l1 t1780 t1783 _ ?side1 ?side2 A42.out).mono ?_); (case side1 => exact zN HR1); (case side2 => exact HC1.out); rintro e w57 ⟨v1781, rfl, ho0, hb⟩; refine ⟨_, rfl, ?_⟩; have HO1782 := Aside0.mk (Kd.R_lower (Kd.R_new' ho0 (Kd.R_lt (zO HO1778))) (below_size zB)); replace HO1778 := Aside0.mk (Kd.R_elder' (zO HO1778) (Kd.R_base ho0) hb); replace BK1760 := bB BK1760 hb; replace HB := bS hb; (try clear hb); (try clear ho0); obtain ⟨Ao58, co58, eo58⟩ := Kd.R_slice HO1778.out; subst eo58; obtain ⟨Ao59, co59, eo59⟩ := Kd.R_slice HO1782.out; subst eo59) | ((with_reducible refine gate_callee (f := 55) rfl ?_); refine gL (some 106) Try.func55 #[.slice Ao58 t1776.length co58, .slice Ao59 t1780.length co59] ?_; (with_reducible refine (barscanlaw05_same.calls kj33 _ _ t1776 _ _ t1780 true _ ?side1 ?side2 ?side3 ?side4 A43.out).mono ?_); (case side1 => exact zN HO1778); (case side2 => exact (Kd.R_reads' HO1778.out).2.1); (case side3 => exact zN HO1782); (case side4 => exact (Kd.R_reads' HO1782.out).2.1); rintro e w' ⟨rfl, ⟨nd, rfl⟩⟩; refine ⟨_, rfl, ?_⟩))
            go_ret
            exact ⟨zE, zB⟩
          ·replace c44 := Bool.eq_false_iff.mpr c44
           subst c44
           rw [if_neg (show ¬ (false = true) by decide)] at H
           obtain rfl := Option.some.inj H
           (try clear z1760_0 z1760_1 z1760_2 f1760_0 f1760_1 f1760_2)
           obtain ⟨z1760_0, z1760_1, z1760_2, f1760_0, f1760_1, f1760_2⟩ := cz3 BK1760
           go_wp2_with (first | ((with_reducible refine gate_callee (f := 49) rfl ?_); refine gL (some 95) Try.func49 #[.agg #[.int .i64 a0_0, .int .i64 a0_1, .int .i64 a0_2], .slice A1 l1.length c1] ?_; (with_reducible refine (polynomial_Roots.calls kj33 a0_0 a0_1 a0_2 _ _ l1 t1776 t1779 _ ?side1 ?side2 A41.out).mono ?_); (case side1 => exact zN HR1); (case side2 => exact HC1.out); rintro e w61 ⟨v1777, rfl, ho0, hb⟩; refine ⟨_, rfl, ?_⟩; have HO1778 := Aside0.mk (Kd.R_lower ho0 (below_size zB)); replace BK1760 := bB BK1760 hb; replace HB := bS hb; (try clear hb); (try clear ho0); (try clear z1760_0 z1760_1 z1760_2 f1760_0 f1760_1 f1760_2); obtain ⟨z1760_0, z1760_1, z1760_2, f1760_0, f1760_1, f1760_2⟩ := cz3 BK1760) | ((with_reducible refine gate_callee (f := 75) rfl ?_); refine gL (some 101) Try.func75 #[.agg #[.int .i64 a0_0, .int .i64 a0_1, .int .i64 a0_2], .slice A1 l1.length c1] ?_; (with_reducible refine (barscanref05_Roots.calls kj33 a0_0 a0_1 a0_2 _ _ l1 t1780 t1783 _ ?side1 ?side2 A42.out).mono ?_); (case side1 => exact zN HR1); (case side2 => exact HC1.out); rintro e w63 ⟨v1781, rfl, ho0, hb⟩; refine ⟨_, rfl, ?_⟩; have HO1782 := Aside0.mk (Kd.R_lower (Kd.R_new' ho0 (Kd.R_lt (zO HO1778))) (below_size zB)); replace HO1778 := Aside0.mk (Kd.R_elder' (zO HO1778) (Kd.R_base ho0) hb); replace BK1760 := bB BK1760 hb; replace HB := bS hb; (try clear hb); (try clear ho0); obtain ⟨Ao64, co64, eo64⟩ := Kd.R_slice HO1778.out; subst eo64; obtain ⟨Ao65, co65, eo65⟩ := Kd.R_slice HO1782.out; subst eo65) | ((with_reducible refine gate_callee (f := 55) rfl ?_); refine gL (some 106) Try.func55 #[.slice Ao64 t1776.length co64, .slice Ao65 t1780.length co65] ?_; (with_reducible refine (barscanlaw05_same.calls kj33 _ _ t1776 _ _ t1780 false _ ?side1 ?side2 ?side3 ?side4 A43.out).mono ?_); (case side1 => exact zN HO1778); (case side2 => exact (Kd.R_reads' HO1778.out).2.1); (case side3 => exact zN HO1782); (case side4 => exact (Kd.R_reads' HO1782.out).2.1); rintro e w' ⟨rfl, ⟨nd, rfl⟩⟩; refine ⟨_, rfl, ?_⟩))
           go_ret
           exact ⟨zE, zB⟩
end Go.Proofs.Ytlhaclammaaabaa.Pg
