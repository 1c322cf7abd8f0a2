-- Written by a program of this session over the print of the kit.
import Derived.Test.YtlhaclammaaabaaY
import Derived.Test.YtlhaclammaaabaaB1
import Derived.Test.YtlhaclammaaabaaB4
import Derived.Test.YtlhaclammaaabaaB5
import Derived.Test.YtlhaclammaaabaaHValid
namespace Go.Proofs.Ytlhaclammaaabaa.Pg
open Go.RowKit Go.Proofs.YtlhaclammaaabaaW.PrintWords Go.Proofs.YtlhaclammaaabaaW.PrintLast Go.Proofs.YtlhaclammaaabaaW.PrintMore
attribute [local go_sem] max2_int min2_int max_two min_two max_three min_three max_four min_four
set_option linter.unusedVariables false
set_option maxHeartbeats 8000000
set_option maxRecDepth 100000
set_option linter.unusedSimpArgs false
/-! ### barscanlaw05_PolynomialRestores: function 14 -/
def barscanlaw05_PolynomialRestores.l0 : Nat → List Int → List Int → List Int → List Int → Int → Int → Int → Int → Int → Option (Bool)
 | 0, _, _, _, _, _, _, _, _, _ => none
 | k + 1, x1, x2, x7, x32, x33, x34, x1509000, x1509001, x1509002 => if x34 < x33 then (if 0 ≤ x34 then (if x34 < (x32.length : Int) then ((polynomial_Eval.f k x1509000 x1509001 x1509002 x1 (rd x32 x34)).bind fun bt1513 => (if bt1513.2 = 0 then (if x7.length < 17592186044416 then (barscanlaw05_PolynomialRestores.l0 k x1 x2 (x7 ++ [bt1513.1]) x32 x33 (wrap64 (x34 + 1)) x1509000 x1509001 x1509002) else (none)) else (if bt1513.2 = 1 then (if (rd x32 x34) < 0 then ((barscanlaw05_examples.f k).bind fun t1518 => (some t1518)) else (if (rd x32 x34) ≥ x1509001 then ((barscanlaw05_examples.f k).bind fun t1519 => (some t1519)) else (none))) else (none)))) else (none)) else (none)) else ((polynomial_Interpolate.f k x1509000 x1509001 x1509002 x2 x7).bind fun bt1520 => (if bt1520.2 = 0 then ((barscanlaw05_same.f k x1 bt1520.1).bind fun t1524 => (if t1524 = true then ((barscanlaw05_examples.f k).bind fun t1525 => (some t1525)) else (none))) else (if bt1520.2 = 30 then ((barscanlaw05_examples.f k).bind fun t1526 => (some t1526)) else (none))))
def barscanlaw05_PolynomialRestores.f (k : Nat) (a0_0 : Int) (a0_1 : Int) (a0_2 : Int) (l1 : List Int) (l2 : List Int) : Option (Bool) := (valid1.f k a0_0 a0_1 a0_2 30 l1).bind fun t1509 => (if t1509 = true then (if (l2.length : Int) > 30 then ((barscanlaw05_examples.f k).bind fun t1510 => (some t1510)) else (if (l2.length : Int) < (l1.length : Int) then ((barscanlaw05_examples.f k).bind fun t1511 => (some t1511)) else (barscanlaw05_PolynomialRestores.l0 k l1 l2 ([] : List Int) l2 (l2.length : Int) 0 a0_0 a0_1 a0_2))) else ((barscanlaw05_examples.f k).bind fun t1527 => (some t1527)))
theorem barscanlaw05_PolynomialRestores.mono_l : ∀ k, (∀ y0 y1 y2 y3 y4 y5 y6 y7 y8, LeO (barscanlaw05_PolynomialRestores.l0 k y0 y1 y2 y3 y4 y5 y6 y7 y8) (barscanlaw05_PolynomialRestores.l0 (k + 1) y0 y1 y2 y3 y4 y5 y6 y7 y8))
 | 0 => fun _ _ _ _ _ _ _ _ _ r h => by simp [barscanlaw05_PolynomialRestores.l0] at h
 | k + 1 => by
  have ih0 := barscanlaw05_PolynomialRestores.mono_l k
  ·intro y0 y1 y2 y3 y4 y5 y6 y7 y8
   unfold barscanlaw05_PolynomialRestores.l0
   have m0_ := @barscanlaw05_examples.mono
   have m1_ := @barscanlaw05_same.mono
   have m2_ := @polynomial_Eval.mono
   have m3_ := @polynomial_Interpolate.mono
   have m4_ := @valid1.mono
   exact zMo
theorem barscanlaw05_PolynomialRestores.mono : ∀ a0 a1 a2 a3 a4 k, LeO (barscanlaw05_PolynomialRestores.f k a0 a1 a2 a3 a4) (barscanlaw05_PolynomialRestores.f (k + 1) a0 a1 a2 a3 a4) := by
 intro a0 a1 a2 a3 a4 k
 have ih0 := barscanlaw05_PolynomialRestores.mono_l k
 unfold barscanlaw05_PolynomialRestores.f
 have m0_ := @barscanlaw05_examples.mono
 have m1_ := @barscanlaw05_same.mono
 have m2_ := @polynomial_Eval.mono
 have m3_ := @polynomial_Interpolate.mono
 have m4_ := @valid1.mono
 exact zMo
theorem barscanlaw05_PolynomialRestores.calls (k : Nat) (a0_0 : Int) (a0_1 : Int) (a0_2 : Int) (A1 : Option Addr) (c1 : Nat) (l1 : List Int) (A2 : Option Addr) (c2 : Nat) (l2 : List Int) (r : Bool) (w : World) (hr1 : Kd.C (Kd.int .i64) w A1 l1.length l1) (hc1 : l1.length ≤ c1) (hr2 : Kd.C (Kd.int .i64) w A2 l2.length l2) (hc2 : l2.length ≤ c2) (h : barscanlaw05_PolynomialRestores.f k a0_0 a0_1 a0_2 l1 l2 = some r) :
  Calls Try.prog 14 #[.agg #[.int .i64 a0_0, .int .i64 a0_1, .int .i64 a0_2], .slice A1 l1.length c1, .slice A2 l2.length c2] w fun e w' => e = .returned (.bool r) ∧ Below w.heap.size w w' := by
 have hu23 := Try.underlying23
 have HR1 := Aside0.mk hr1
 have HC1 := Aside0.mk hc1
 clear hr1 hc1
 have HR2 := Aside0.mk hr2
 have HC2 := Aside0.mk hc2
 clear hr2 hc2
 have HB := Aside0.mk (Below.refl w.heap.size w)
 have H := h
 unfold barscanlaw05_PolynomialRestores.f at H
 clear h
 obtain ⟨t1509, A4, H⟩ := zD H
 by_cases c5 : t1509 = true
 ·subst c5
  rw [if_pos rfl] at H
  by_cases c6 : (l2.length : Int) > 30
  ·rw [if_pos c6] at H
   have c6b0 : decide (30 < (l2.length : Int)) = true := decide_eq_true c6
   have c6b1 : decide (30 < l2.length) = true := decide_eq_true (by omega)
   clear c6
   obtain ⟨t1510, A7, H⟩ := zD H
   obtain rfl := Option.some.inj H
   go_enter Try.func14, Try.ntmps14
   go_wp2_with (first | ((with_reducible refine gate_dst (N := 3) rfl ?_); (try (refine gate_guard (by rfl) ?_; dsimp only)); refine zBox 3 #[.int .i64 a0_0, .int .i64 a0_1, .int .i64 a0_2] 23 ?_; clear HB; intro gb1508 w8 BK1508 GE1508 HB; (try clear z1508_0 z1508_1 z1508_2 f1508_0 f1508_1 f1508_2); obtain ⟨z1508_0, z1508_1, z1508_2, f1508_0, f1508_1, f1508_2⟩ := cz3 BK1508) | (go_at_call 47; (with_reducible refine (valid1.calls k a0_0 a0_1 a0_2 30 _ _ l1 true _ ?side1 ?side2 A4.out).mono ?_); (case side1 => exact zN HR1); (case side2 => exact HC1.out); rintro e w10 ⟨rfl, hb⟩; replace BK1508 := bB BK1508 hb; replace HB := bS hb; (try clear hb)) | ((with_reducible refine gate_callee (f := 48) rfl ?_); refine gL (some 31) Try.func48 #[] ?_; (with_reducible refine zCall (barscanlaw05_examples.calls k  t1510 _ A7.out) ?_); intro w11 hb; replace BK1508 := bB BK1508 hb; replace HB := bS hb; (try clear hb)))
   go_ret
   exact ⟨zE, zB⟩
  ·rw [if_neg c6] at H
   have c6b0 : decide (30 < (l2.length : Int)) = false := decide_eq_false c6
   have c6b1 : decide (30 < l2.length) = false := decide_eq_false (by omega)
   clear c6
   by_cases c12 : (l2.length : Int) < (l1.length : Int)
   ·rw [if_pos c12] at H
    have c12b0 : decide ((l2.length : Int) < (l1.length : Int)) = true := decide_eq_true c12
    have c12b1 : decide (l2.length < l1.length) = true := decide_eq_true (Int.ofNat_lt.mp c12)
    clear c12
    obtain ⟨t1511, A13, H⟩ := zD H
    obtain rfl := Option.some.inj H
    go_enter Try.func14, Try.ntmps14
    go_wp2_with (first | ((with_reducible refine gate_dst (N := 3) rfl ?_); (try (refine gate_guard (by rfl) ?_; dsimp only)); refine zBox 3 #[.int .i64 a0_0, .int .i64 a0_1, .int .i64 a0_2] 23 ?_; clear HB; intro gb1508 w14 BK1508 GE1508 HB; (try clear z1508_0 z1508_1 z1508_2 f1508_0 f1508_1 f1508_2); obtain ⟨z1508_0, z1508_1, z1508_2, f1508_0, f1508_1, f1508_2⟩ := cz3 BK1508) | (go_at_call 47; (with_reducible refine (valid1.calls k a0_0 a0_1 a0_2 30 _ _ l1 true _ ?side1 ?side2 A4.out).mono ?_); (case side1 => exact zN HR1); (case side2 => exact HC1.out); rintro e w16 ⟨rfl, hb⟩; replace BK1508 := bB BK1508 hb; replace HB := bS hb; (try clear hb)) | ((with_reducible refine gate_callee (f := 48) rfl ?_); refine gL (some 31) Try.func48 #[] ?_; (with_reducible refine zCall (barscanlaw05_examples.calls k  t1511 _ A13.out) ?_); intro w17 hb; replace BK1508 := bB BK1508 hb; replace HB := bS hb; (try clear hb)))
    go_ret
    exact ⟨zE, zB⟩
   ·rw [if_neg c12] at H
    have c12b0 : decide ((l2.length : Int) < (l1.length : Int)) = false := decide_eq_false c12
    have c12b1 : decide (l2.length < l1.length) = false := decide_eq_false (fun h => c12 (Int.ofNat_lt.mpr h))
    clear c12
    have H' := zA H
    clear H
    go_enter Try.func14, Try.ntmps14
    go_wp2_with (first | ((with_reducible refine gate_dst (N := 3) rfl ?_); (try (refine gate_guard (by rfl) ?_; dsimp only)); refine zBox 3 #[.int .i64 a0_0, .int .i64 a0_1, .int .i64 a0_2] 23 ?_; clear HB; intro gb1508 w18 BK1508 GE1508 HB; (try clear z1508_0 z1508_1 z1508_2 f1508_0 f1508_1 f1508_2); obtain ⟨z1508_0, z1508_1, z1508_2, f1508_0, f1508_1, f1508_2⟩ := cz3 BK1508) | (go_at_call 47; (with_reducible refine (valid1.calls k a0_0 a0_1 a0_2 30 _ _ l1 true _ ?side1 ?side2 A4.out).mono ?_); (case side1 => exact zN HR1); (case side2 => exact HC1.out); rintro e w20 ⟨rfl, hb⟩; replace BK1508 := bB BK1508 hb; replace HB := bS hb; (try clear hb)))
    go_loopg [7, 34] k (fun kq v7 v34 w' => ∃ (x7_1 : List Int) (x34_1 : Int), v34 = .int .i64 x34_1 ∧ Aside0 (barscanlaw05_PolynomialRestores.l0 kq l1 l2 x7_1 l2 (l2.length : Int) x34_1 a0_0 a0_1 a0_2 = some r) ∧ Aside0 (kq ≤ k) ∧ Aside0 (Kd.R (Kd.int .i64) 3 w' w.heap.size (fun _ => True) v7 x7_1) ∧ Aside0 (w'.heap[gb1508]? = some (.cells #[.int .i64 a0_0, .int .i64 a0_1, .int .i64 a0_2] 23 (0, 0))) ∧ Aside0 (Below w.heap.size w w'))
    case atStart => exact ⟨(([] : List Int)), (0), zR, H', ⟨Nat.le_refl _⟩, ⟨by first | exact Kd.R_nil _ _ _ _ _ | exact Kd.N_nil _ _ _ _ _ | exact Kd.V_nil _ _ _ _ _ | exact Kd.Q_nil _ _ _ _ _ | exact Kd.S_nil _ _ _ _ _⟩, ⟨zK BK1508⟩, ⟨zB⟩⟩
    case round =>
     clear H'
     try clear c1
     try clear c2
     try clear p2
     try clear c4
     try clear c5
     try clear c6
     try clear c6b0
     try clear c6b1
     try clear c9
     try clear c12
     try clear c12b0
     try clear c12b1
     try clear c14
     try clear z1508_0 z1508_1 z1508_2 f1508_0 f1508_1 f1508_2
     obtain ⟨x7_1, x34_1, rfl, HA, HK1, HO_7, BK1508, HB⟩ := hrel
     cases gk with
     | zero => exact absurd HA.out (by simp [barscanlaw05_PolynomialRestores.l0])
     | succ k1 =>
      have H := HA.out
      clear HA
      simp only [barscanlaw05_PolynomialRestores.l0] at H
      by_cases c21 : x34_1 < (l2.length : Int)
      ·rw [if_pos c21] at H
       have c21b0 : decide (x34_1 < (l2.length : Int)) = true := decide_eq_true c21
       clear c21
       by_cases c22 : 0 ≤ x34_1
       ·rw [if_pos c22] at H
        have c22b0 : decide (0 ≤ x34_1) = true := decide_eq_true c22
        clear c22
        by_cases c23 : x34_1 < (l2.length : Int)
        ·rw [if_pos c23] at H
         have c23b0 : decide (x34_1 < (l2.length : Int)) = true := decide_eq_true c23
         clear c23
         obtain ⟨⟨t1513, t1514⟩, A24, H⟩ := zD H
         dsimp only at H
         by_cases c25 : t1514 = 0
         ·rw [if_pos c25] at H
          have c25b0 := beq_iff_eq.mpr c25
          have c25b1 := bne_eq_false_iff_eq.mpr c25
          clear c25
          by_cases c26 : x7_1.length < 17592186044416
          ·rw [if_pos c26] at H
           have LMc26 := Aside0.mk c26
           clear c26
           obtain ⟨y1515, hy1515⟩ : ∃ y_ : List Int, y_ = (x7_1 ++ [t1513]) := ⟨_, rfl⟩
           replace H : (barscanlaw05_PolynomialRestores.l0 k1 l1 l2 y1515 l2 (l2.length : Int) (wrap64 (x34_1 + 1)) a0_0 a0_1 a0_2) = some r := by first | (rw [hy1515]; with_reducible exact H) | (have H2_ := (Option.bind_some _ _).symm.trans H; rw [hy1515]; with_reducible exact H2_) | (have H2_ := (Option.bind_some _ _).symm.trans H; with_reducible exact H2_) | with_reducible exact H | (rw [hy1515]; exact H) | exact H
           have Ny1515 := Aside0.mk hy1515
           clear hy1515
           have H' := zA H
           clear H
           have p1512 : 0 ≤ (x34_1 : Int) := of_decide_eq_true (by first | (with_reducible assumption) | assumption)
           have q1512 : x34_1 < (l2.length : Int) := of_decide_eq_true (by first | (with_reducible assumption) | assumption)
           obtain ⟨ad1512, e1512, hx1512_0⟩ := Kd.at_int HR2.out x34_1 p1512 q1512
           cases e1512
           replace hx1512_0 := (HB.out.cell (World.block_lt_of_cell? w _ hx1512_0)).trans hx1512_0
           replace p1512 := eq_true p1512
           replace q1512 := eq_true q1512
           (try clear z1508_0 z1508_1 z1508_2 f1508_0 f1508_1 f1508_2)
           obtain ⟨z1508_0, z1508_1, z1508_2, f1508_0, f1508_1, f1508_2⟩ := cz3 BK1508
           go_wp2_with (first | ((with_reducible refine gate_callee (f := 57) rfl ?_); refine gL (some 42) Try.func57 #[.agg #[.int .i64 a0_0, .int .i64 a0_1, .int .i64 a0_2], .slice A1 l1.length c1, .int .i64 (rd l2 x34_1)] ?_; (with_reducible refine zCall (polynomial_Eval.calls k1 a0_0 a0_1 a0_2 _ _ l1 (rd l2 x34_1) t1513 t1514 _ ?side1 ?side2 A24.out) ?_); (case side1 => exact zN HR1); (case side2 => exact HC1.out); intro w28 hb; replace HO_7 := Aside0.mk (Kd.R_below (zO HO_7) hb); replace BK1508 := bB BK1508 hb; replace HB := bS hb; (try clear hb)) | ((with_reducible refine gate_builtin (b := .append) (xs := #[.tmp 62, .tmp 64]) rfl ?_); (try (refine gate_guard (by rfl) ?_; dsimp only)); at_builtin; refine Kd.R_append (Kd.int .i64) (w0 := w) w.heap.size rfl (.tmp 62) (.tmp 64) 45 3 (.int .i64 0) 8 rfl Try.underlying45 info3 rfl (by decide) (by omega) u7 x7_1 t1513 [.int .i64 t1513] (fun _ => True) (fun _ => False) rfl rfl ?aP (fun _ hk => hk.elim) ?aF ?aO ?aB ?aS ?aL ?_; (case aP => exact rfl); (case aB => exact zB); (case aF => exact (fun _ _ => trivial)); (case aO => exact (zO HO_7)); (case aS => exact (below_size zB)); (case aL => have := LMc26.out; omega); intro v1516 w29 ho hb hg hat; rw [← Ny1515.out] at ho; replace BK1508 := Aside0.mk (blk_grown (g := gb1508) (o := .cells #[.int .i64 a0_0, .int .i64 a0_1, .int .i64 a0_2] 23 (0, 0)) (zK BK1508) hg (Kd.R_ne HO_7.out BK1508.out (by decide))); replace HB := Aside0.mk (hb); have HO1517 := Aside0.mk (ho); clear HO_7; clear ho hb hg hat))
           go_roundg k1
           case measure => have := HK1.out; omega
           case rel => exact ⟨(y1515), (wrap64 (x34_1 + 1)), zR, H', zH, ⟨zO HO1517⟩, ⟨zK BK1508⟩, ⟨zB⟩⟩
          ·rw [if_neg c26] at H
           exact absurd H (by simp)
         ·rw [if_neg c25] at H
          have c25b0 := beq_eq_false_iff_ne.mpr c25
          have c25b1 := bne_iff_ne.mpr c25
          by_cases c30 : t1514 = 1
          ·rw [if_pos c30] at H
           have c30b0 := beq_iff_eq.mpr c30
           have c30b1 := bne_eq_false_iff_eq.mpr c30
           clear c30
           by_cases c31 : (rd l2 x34_1) < 0
           ·rw [if_pos c31] at H
            have c31b0 : decide ((rd l2 x34_1) < 0) = true := decide_eq_true c31
            clear c31
            obtain ⟨t1518, A32, H⟩ := zD H
            obtain rfl := Option.some.inj H
            have p1512 : 0 ≤ (x34_1 : Int) := of_decide_eq_true (by first | (with_reducible assumption) | assumption)
            have q1512 : x34_1 < (l2.length : Int) := of_decide_eq_true (by first | (with_reducible assumption) | assumption)
            obtain ⟨ad1512, e1512, hx1512_0⟩ := Kd.at_int HR2.out x34_1 p1512 q1512
            cases e1512
            replace hx1512_0 := (HB.out.cell (World.block_lt_of_cell? w _ hx1512_0)).trans hx1512_0
            replace p1512 := eq_true p1512
            replace q1512 := eq_true q1512
            (try clear z1508_0 z1508_1 z1508_2 f1508_0 f1508_1 f1508_2)
            obtain ⟨z1508_0, z1508_1, z1508_2, f1508_0, f1508_1, f1508_2⟩ := cz3 BK1508
            go_wp2_with (first | ((with_reducible refine gate_callee (f := 57) rfl ?_); refine gL (some 42) Try.func57 #[.agg #[.int .i64 a0_0, .int .i64 a0_1, .int .i64 a0_2], .slice A1 l1.length c1, .int .i64 (rd l2 x34_1)] ?_; (with_reducible refine zCall (polynomial_Eval.calls k1 a0_0 a0_1 a0_2 _ _ l1 (rd l2 x34_1) t1513 t1514 _ ?side1 ?side2 A24.out) ?_); (case side1 => exact zN HR1); (case side2 => exact HC1.out); intro w34 hb; replace HO_7 := Aside0.mk (Kd.R_below (zO HO_7) hb); replace BK1508 := bB BK1508 hb; replace HB := bS hb; (try clear hb)) | (go_at_call 48; (with_reducible refine (barscanlaw05_examples.calls k1  t1518 _ A32.out).mono ?_); rintro e w35 ⟨rfl, hb⟩; replace HO_7 := Aside0.mk (Kd.R_below (zO HO_7) hb); replace BK1508 := bB BK1508 hb; replace HB := bS hb; (try clear hb)))
            go_ret
            exact ⟨zE, zB⟩
           ·rw [if_neg c31] at H
            have c31b0 : decide ((rd l2 x34_1) < 0) = false := decide_eq_false c31
            clear c31
            by_cases c36 : (rd l2 x34_1) ≥ a0_1
            ·rw [if_pos c36] at H
             have c36b0 : decide (a0_1 ≤ (rd l2 x34_1)) = true := decide_eq_true c36
             clear c36
             obtain ⟨t1519, A37, H⟩ := zD H
             obtain rfl := Option.some.inj H
             have p1512 : 0 ≤ (x34_1 : Int) := of_decide_eq_true (by first | (with_reducible assumption) | assumption)
             have q1512 : x34_1 < (l2.length : Int) := of_decide_eq_true (by first | (with_reducible assumption) | assumption)
             obtain ⟨ad1512, e1512, hx1512_0⟩ := Kd.at_int HR2.out x34_1 p1512 q1512
             cases e1512
             replace hx1512_0 := (HB.out.cell (World.block_lt_of_cell? w _ hx1512_0)).trans hx1512_0
             replace p1512 := eq_true p1512
             replace q1512 := eq_true q1512
             (try clear z1508_0 z1508_1 z1508_2 f1508_0 f1508_1 f1508_2)
             obtain ⟨z1508_0, z1508_1, z1508_2, f1508_0, f1508_1, f1508_2⟩ := cz3 BK1508
             go_wp2_with (first | ((with_reducible refine gate_callee (f := 57) rfl ?_); refine gL (some 42) Try.func57 #[.agg #[.int .i64 a0_0, .int .i64 a0_1, .int .i64 a0_2], .slice A1 l1.length c1, .int .i64 (rd l2 x34_1)] ?_; (with_reducible refine zCall (polynomial_Eval.calls k1 a0_0 a0_1 a0_2 _ _ l1 (rd l2 x34_1) t1513 t1514 _ ?side1 ?side2 A24.out) ?_); (case side1 => exact zN HR1); (case side2 => exact HC1.out); intro w39 hb; replace HO_7 := Aside0.mk (Kd.R_below (zO HO_7) hb); replace BK1508 := bB BK1508 hb; replace HB := bS hb; (try clear hb); (try clear z1508_0 z1508_1 z1508_2 f1508_0 f1508_1 f1508_2); obtain ⟨z1508_0, z1508_1, z1508_2, f1508_0, f1508_1, f1508_2⟩ := cz3 BK1508) | (go_at_call 48; (with_reducible refine (barscanlaw05_examples.calls k1  t1519 _ A37.out).mono ?_); rintro e w41 ⟨rfl, hb⟩; replace HO_7 := Aside0.mk (Kd.R_below (zO HO_7) hb); replace BK1508 := bB BK1508 hb; replace HB := bS hb; (try clear hb)))
             go_ret
             exact ⟨zE, zB⟩
            ·rw [if_neg c36] at H
             exact absurd H (by simp)
          ·rw [if_neg c30] at H
           exact absurd H (by simp)
        ·rw [if_neg c23] at H
         exact absurd H (by simp)
       ·rw [if_neg c22] at H
        exact absurd H (by simp)
      ·rw [if_neg c21] at H
       have c21b0 : decide (x34_1 < (l2.length : Int)) = false := decide_eq_false c21
       clear c21
       obtain ⟨⟨t1520, t1523⟩, A42, H⟩ := zD H
       dsimp only at H
       by_cases c43 : t1523 = 0
       ·rw [if_pos c43] at H
        have c43b0 := beq_iff_eq.mpr c43
        have c43b1 := bne_eq_false_iff_eq.mpr c43
        clear c43
        obtain ⟨t1524, A44, H⟩ := zD H
        by_cases c45 : t1524 = true
        ·subst c45
         rw [if_pos rfl] at H
         obtain ⟨t1525, A46, H⟩ := zD H
         obtain rfl := Option.some.inj H
         (try clear z1508_0 z1508_1 z1508_2 f1508_0 f1508_1 f1508_2)
         obtain ⟨z1508_0, z1508_1, z1508_2, f1508_0, f1508_1, f1508_2⟩ := cz3 BK1508
         obtain ⟨Ao48, co48, eo48⟩ := Kd.R_slice HO_7.out
         subst eo48
         go_wp2_with (first | ((with_reducible refine gate_callee (f := 64) rfl ?_); refine gL (some 71) Try.func64 #[.agg #[.int .i64 a0_0, .int .i64 a0_1, .int .i64 a0_2], .slice A2 l2.length c2, .slice Ao48 x7_1.length co48] ?_; (with_reducible refine (polynomial_Interpolate.calls k1 a0_0 a0_1 a0_2 _ _ l2 _ _ x7_1 t1520 t1523 _ ?side1 ?side2 ?side3 ?side4 A42.out).mono ?_); (case side1 => exact zN HR2); (case side2 => exact HC2.out); (case side3 => exact zN HO_7); (case side4 => exact (Kd.R_reads' HO_7.out).2.1); rintro e w49 ⟨v1521, rfl, ho0, hb⟩; refine ⟨_, rfl, ?_⟩; have HO1522 := Aside0.mk (Kd.R_lower (Kd.R_new' ho0 (Kd.R_lt (zO HO_7))) (below_size zB)); replace HO_7 := Aside0.mk (Kd.R_elder' (zO HO_7) (Kd.R_base ho0) hb); replace BK1508 := bB BK1508 hb; replace HB := bS hb; (try clear hb); (try clear ho0); obtain ⟨Ao50, co50, eo50⟩ := Kd.R_slice HO1522.out; subst eo50) | ((with_reducible refine gate_callee (f := 55) rfl ?_); refine gL (some 83) Try.func55 #[.slice A1 l1.length c1, .slice Ao50 t1520.length co50] ?_; (with_reducible refine (barscanlaw05_same.calls k1 _ _ l1 _ _ t1520 true _ ?side1 ?side2 ?side3 ?side4 A44.out).mono ?_); (case side1 => exact zN HR1); (case side2 => exact HC1.out); (case side3 => exact zN HO1522); (case side4 => exact (Kd.R_reads' HO1522.out).2.1); rintro e w' ⟨rfl, ⟨nd, rfl⟩⟩; refine ⟨_, rfl, ?_⟩) | (go_at_call 48; (with_reducible refine (barscanlaw05_examples.calls k1  t1525 _ A46.out).mono ?_); rintro e w51 ⟨rfl, hb⟩; replace HO_7 := Aside0.mk (Kd.R_below (zO HO_7) hb); replace HO1522 := Aside0.mk (Kd.R_below (zO HO1522) hb); replace BK1508 := bB BK1508 hb; replace HB := bS hb; (try clear hb)))
         go_ret
         exact ⟨zE, zB⟩
        ·replace c45 := Bool.eq_false_iff.mpr c45
         subst c45
         rw [if_neg (show ¬ (false = true) by decide)] at H
         exact absurd H (by simp)
       ·rw [if_neg c43] at H
        have c43b0 := beq_eq_false_iff_ne.mpr c43
        have c43b1 := bne_iff_ne.mpr c43
        by_cases c52 : t1523 = 30
        ·rw [if_pos c52] at H
         have c52b0 := beq_iff_eq.mpr c52
         have c52b1 := bne_eq_false_iff_eq.mpr c52
         clear c52
         obtain ⟨t1526, A53, H⟩ := zD H
         obtain rfl := Option.some.inj H
         (try clear z1508_0 z1508_1 z1508_2 f1508_0 f1508_1 f1508_2)
         obtain ⟨z1508_0, z1508_1, z1508_2, f1508_0, f1508_1, f1508_2⟩ := cz3 BK1508
         obtain ⟨Ao55, co55, eo55⟩ := Kd.R_slice HO_7.out
         subst eo55
         go_wp2_with (first | ((with_reducible refine gate_callee (f := 64) rfl ?_); refine gL (some 71) Try.func64 #[.agg #[.int .i64 a0_0, .int .i64 a0_1, .int .i64 a0_2], .slice A2 l2.length c2, .slice Ao55 x7_1.length co55] ?_; (with_reducible refine (polynomial_Interpolate.calls k1 a0_0 a0_1 a0_2 _ _ l2 _ _ x7_1 t1520 t1523 _ ?side1 ?side2 ?side3 ?side4 A42.out).mono ?_); (case side1 => exact zN HR2); (case side2 => exact HC2.out); (case side3 => exact zN HO_7); (case side4 => exact (Kd.R_reads' HO_7.out).2.1); rintro e w56 ⟨v1521, rfl, ho0, hb⟩; refine ⟨_, rfl, ?_⟩; have HO1522 := Aside0.mk (Kd.R_lower (Kd.R_new' ho0 (Kd.R_lt (zO HO_7))) (below_size zB)); replace HO_7 := Aside0.mk (Kd.R_elder' (zO HO_7) (Kd.R_base ho0) hb); replace BK1508 := bB BK1508 hb; replace HB := bS hb; (try clear hb); (try clear ho0)) | (go_at_call 48; (with_reducible refine (barscanlaw05_examples.calls k1  t1526 _ A53.out).mono ?_); rintro e w57 ⟨rfl, hb⟩; replace HO_7 := Aside0.mk (Kd.R_below (zO HO_7) hb); replace HO1522 := Aside0.mk (Kd.R_below (zO HO1522) hb); replace BK1508 := bB BK1508 hb; replace HB := bS hb; (try clear hb)))
         go_ret
         exact ⟨zE, zB⟩
        ·rw [if_neg c52] at H
         exact absurd H (by simp)
 ·replace c5 := Bool.eq_false_iff.mpr c5
  subst c5
  rw [if_neg (show ¬ (false = true) by decide)] at H
  obtain ⟨t1527, A58, H⟩ := zD H
  obtain rfl := Option.some.inj H
  go_enter Try.func14, Try.ntmps14
  go_wp2_with (first | ((with_reducible refine gate_dst (N := 3) rfl ?_); (try (refine gate_guard (by rfl) ?_; dsimp only)); refine zBox 3 #[.int .i64 a0_0, .int .i64 a0_1, .int .i64 a0_2] 23 ?_; clear HB; intro gb1508 w59 BK1508 GE1508 HB; (try clear z1508_0 z1508_1 z1508_2 f1508_0 f1508_1 f1508_2); obtain ⟨z1508_0, z1508_1, z1508_2, f1508_0, f1508_1, f1508_2⟩ := cz3 BK1508) | (go_at_call 47; (with_reducible refine (valid1.calls k a0_0 a0_1 a0_2 30 _ _ l1 false _ ?side1 ?side2 A4.out).mono ?_); (case side1 => exact zN HR1); (case side2 => exact HC1.out); rintro e w61 ⟨rfl, hb⟩; replace BK1508 := bB BK1508 hb; replace HB := bS hb; (try clear hb)) | ((with_reducible refine gate_callee (f := 48) rfl ?_); refine gL (some 31) Try.func48 #[] ?_; (with_reducible refine zCall (barscanlaw05_examples.calls k  t1527 _ A58.out) ?_); intro w62 hb; replace BK1508 := bB BK1508 hb; replace HB := bS hb; (try clear hb)))
  go_ret
  exact ⟨zE, zB⟩
end Go.Proofs.Ytlhaclammaaabaa.Pg
