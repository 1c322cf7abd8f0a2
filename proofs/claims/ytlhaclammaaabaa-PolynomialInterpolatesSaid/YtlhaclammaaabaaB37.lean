-- Written by a program of this session over the print of the kit.
import Derived.Test.YtlhaclammaaabaaY
import Derived.Test.YtlhaclammaaabaaB1
import Derived.Test.YtlhaclammaaabaaB2
import Derived.Test.YtlhaclammaaabaaB14
import Derived.Test.YtlhaclammaaabaaB32
namespace Go.Proofs.Ytlhaclammaaabaa.Pg
open Go.RowKit Go.Proofs.YtlhaclammaaabaaW.PrintWords Go.Proofs.YtlhaclammaaabaaW.PrintLast Go.Proofs.YtlhaclammaaabaaW.PrintMore
attribute [local go_sem] max2_int min2_int max_two min_two max_three min_three max_four min_four
set_option linter.unusedVariables false
set_option maxHeartbeats 8000000
set_option maxRecDepth 100000
set_option linter.unusedSimpArgs false
/-! ### barscanref05_DivMod: function 67 -/
mutual
def barscanref05_DivMod.j0 : Nat → List Int → List Int → Bool → Int → Int → Int → Option (List Int × List Int × Int)
 | 0, _, _, _, _, _, _ => none
 | k + 1, x1, x2, x26, x1529000, x1529001, x1529002 => if x26 = true then (some (([] : List Int), ([] : List Int), 1)) else (if (x2.length : Int) = 0 then (some (([] : List Int), ([] : List Int), 12)) else (if 0 ≤ (wrap64 ((x2.length : Int) - 1)) then (if (wrap64 ((x2.length : Int) - 1)) < (x2.length : Int) then ((barscanref04_Inv.f k x1529000 x1529001 x1529002 (rd x2 (wrap64 ((x2.length : Int) - 1)))).bind fun bt1532 => ((some (([] : List Int) : List Int)).bind fun y1534 => (if y1534.length + x1.length < 17592186044416 then (if 0 ≤ (x1.length : Int) then (if ((x1.length : Int) : Int).toNat ≤ 35184372088832 then (barscanref05_DivMod.l0 k x2 (wrap64 ((x2.length : Int) - 1)) bt1532.1 (y1534 ++ x1) (List.replicate ((x1.length : Int) : Int).toNat 0) (wrap64 ((x1.length : Int) - 1)) x1529000 x1529001 x1529002) else (none)) else (none)) else (none)))) else (none)) else (none)))
def barscanref05_DivMod.l0 : Nat → List Int → Int → Int → List Int → List Int → Int → Int → Int → Int → Option (List Int × List Int × Int)
 | 0, _, _, _, _, _, _, _, _, _ => none
 | k + 1, x2, x9, x10, x12, x13, x14, x1529000, x1529001, x1529002 => if x14 ≥ x9 then (if 0 ≤ x14 then (if x14 < (x12.length : Int) then ((barscanref05_times.f k x1529000 x1529001 x1529002 (rd x12 x14) x10).bind fun t1550 => (if 0 ≤ (wrap64 (x14 - x9)) then (if (wrap64 (x14 - x9)) < (x13.length : Int) then (barscanref05_DivMod.l1 k x2 x9 x10 x12 (x13.set ((wrap64 (x14 - x9)) : Int).toNat t1550) x14 t1550 0 x1529000 x1529001 x1529002) else (none)) else (none))) else (none)) else (none)) else ((barscanref05_Trim.f k x13).bind fun t1543 => ((barscanref05_Trim.f k x12).bind fun t1546 => (some (t1543, t1546, 0))))
def barscanref05_DivMod.l1 : Nat → List Int → Int → Int → List Int → List Int → Int → Int → Int → Int → Int → Int → Option (List Int × List Int × Int)
 | 0, _, _, _, _, _, _, _, _, _, _, _ => none
 | k + 1, x2, x9, x10, x12, x13, x14, x15, x16, x1529000, x1529001, x1529002 => if x16 ≤ x9 then (if 0 ≤ (wrap64 ((wrap64 (x14 - x9)) + x16)) then (if (wrap64 ((wrap64 (x14 - x9)) + x16)) < (x12.length : Int) then (if 0 ≤ x16 then (if x16 < (x2.length : Int) then ((barscanref05_times.f k x1529000 x1529001 x1529002 x15 (rd x2 x16)).bind fun t1554 => ((barscanref05_less.f x1529000 x1529001 x1529002 (rd x12 (wrap64 ((wrap64 (x14 - x9)) + x16))) t1554).bind fun t1555 => (barscanref05_DivMod.l1 k x2 x9 x10 (x12.set ((wrap64 ((wrap64 (x14 - x9)) + x16)) : Int).toNat t1555) x13 x14 x15 (wrap64 (x16 + 1)) x1529000 x1529001 x1529002))) else (none)) else (none)) else (none)) else (none)) else (barscanref05_DivMod.l0 k x2 x9 x10 x12 x13 (wrap64 (x14 - 1)) x1529000 x1529001 x1529002)
end
def barscanref05_DivMod.f (k : Nat) (a0_0 : Int) (a0_1 : Int) (a0_2 : Int) (l1 : List Int) (l2 : List Int) : Option (List Int × List Int × Int) := (barscanref05_Valid.f k a0_0 a0_1 a0_2 l1).bind fun t1529 => (if t1529 = true then ((barscanref05_Valid.f k a0_0 a0_1 a0_2 l2).bind fun t1530 => (barscanref05_DivMod.j0 k l1 l2 (!t1530) a0_0 a0_1 a0_2)) else (barscanref05_DivMod.j0 k l1 l2 true a0_0 a0_1 a0_2))
theorem barscanref05_DivMod.mono_l : ∀ k, (∀ y0 y1 y2 y3 y4 y5, LeO (barscanref05_DivMod.j0 k y0 y1 y2 y3 y4 y5) (barscanref05_DivMod.j0 (k + 1) y0 y1 y2 y3 y4 y5)) ∧ (∀ y0 y1 y2 y3 y4 y5 y6 y7 y8, LeO (barscanref05_DivMod.l0 k y0 y1 y2 y3 y4 y5 y6 y7 y8) (barscanref05_DivMod.l0 (k + 1) y0 y1 y2 y3 y4 y5 y6 y7 y8)) ∧ (∀ y0 y1 y2 y3 y4 y5 y6 y7 y8 y9 y10, LeO (barscanref05_DivMod.l1 k y0 y1 y2 y3 y4 y5 y6 y7 y8 y9 y10) (barscanref05_DivMod.l1 (k + 1) y0 y1 y2 y3 y4 y5 y6 y7 y8 y9 y10))
 | 0 => ⟨fun _ _ _ _ _ _ r h => by simp [barscanref05_DivMod.j0] at h, fun _ _ _ _ _ _ _ _ _ r h => by simp [barscanref05_DivMod.l0] at h, fun _ _ _ _ _ _ _ _ _ _ _ r h => by simp [barscanref05_DivMod.l1] at h⟩
 | k + 1 => by
  obtain ⟨ih0, ih1, ih2⟩ := barscanref05_DivMod.mono_l k
  refine ⟨?_, ?_, ?_⟩
  ·intro y0 y1 y2 y3 y4 y5
   unfold barscanref05_DivMod.j0
   have m0_ := @barscanref04_Inv.mono
   have m1_ := @barscanref05_Trim.mono
   have m2_ := @barscanref05_Valid.mono
   have m3_ := @barscanref05_times.mono
   exact zMo
  ·intro y0 y1 y2 y3 y4 y5 y6 y7 y8
   unfold barscanref05_DivMod.l0
   have m0_ := @barscanref04_Inv.mono
   have m1_ := @barscanref05_Trim.mono
   have m2_ := @barscanref05_Valid.mono
   have m3_ := @barscanref05_times.mono
   exact zMo
  ·intro y0 y1 y2 y3 y4 y5 y6 y7 y8 y9 y10
   unfold barscanref05_DivMod.l1
   have m0_ := @barscanref04_Inv.mono
   have m1_ := @barscanref05_Trim.mono
   have m2_ := @barscanref05_Valid.mono
   have m3_ := @barscanref05_times.mono
   exact zMo
theorem barscanref05_DivMod.mono : ∀ a0 a1 a2 a3 a4 k, LeO (barscanref05_DivMod.f k a0 a1 a2 a3 a4) (barscanref05_DivMod.f (k + 1) a0 a1 a2 a3 a4) := by
 intro a0 a1 a2 a3 a4 k
 obtain ⟨ih0, ih1, ih2⟩ := barscanref05_DivMod.mono_l k
 unfold barscanref05_DivMod.f
 have m0_ := @barscanref04_Inv.mono
 have m1_ := @barscanref05_Trim.mono
 have m2_ := @barscanref05_Valid.mono
 have m3_ := @barscanref05_times.mono
 exact zMo
def barscanref05_DivMod.T6 : Bool × List (List Nat × List Nat) := (true, [([], []), ([], []), ([], []), ([1, 2], [1, 2]), ([3], [3]), ([0, 4], [0, 4]), ([5], [5]), ([6], [6]), ([6], [6]), ([7, 5, 0, 1, 2, 3, 4, 5, 6, 7], [7]), ([8, 9, 0, 1, 2, 3, 4, 5, 6, 7, 8, 9], [8])])
def barscanref05_DivMod.B6 : List Nat := [0, 0, 0, 6, 14, 31, 63, 127, 127, 255, 1023]
theorem barscanref05_DivMod.tab6 : rtab .any (opsOf Try.f67 6) = barscanref05_DivMod.T6 := by kernel_rfl
theorem barscanref05_DivMod.bits6 : waitsOk barscanref05_DivMod.T6.2 barscanref05_DivMod.B6 = true := by kernel_rfl
def barscanref05_DivMod.T12 : Bool × List (List Nat × List Nat) := (true, [([], []), ([], []), ([], []), ([1, 2], [1, 2]), ([3], [3]), ([], []), ([0, 4, 5], [0, 4, 5]), ([6, 6, 0, 1, 2, 3, 4, 5, 6], [6])])
def barscanref05_DivMod.B12 : List Nat := [0, 0, 0, 6, 14, 0, 63, 127]
theorem barscanref05_DivMod.tab12 : rtab .any (opsOf Try.f67 12) = barscanref05_DivMod.T12 := by kernel_rfl
theorem barscanref05_DivMod.bits12 : waitsOk barscanref05_DivMod.T12.2 barscanref05_DivMod.B12 = true := by kernel_rfl
def barscanref05_DivMod.T17 : Bool × List (List Nat × List Nat) := (true, [([], []), ([], []), ([], []), ([1, 2], [1, 2]), ([], []), ([3, 4], [3, 4]), ([], []), ([], []), ([], []), ([], []), ([8, 9], [8, 9]), ([], []), ([10, 11], [10, 11]), ([7, 12], [7, 12]), ([13], [13]), ([], []), ([], []), ([], []), ([], []), ([17, 18], [17, 18]), ([19], [19]), ([15, 16, 20], [15, 16, 20]), ([6, 14, 21, 21], [6, 14, 21]), ([0, 5, 0, 1, 2, 3, 4, 5, 6, 7, 8, 9, 10, 11, 12, 13, 14, 15, 16, 17, 18, 19, 20, 21, 22], [0, 5]), ([23, 22, 22, 0, 1, 2, 3, 4, 5, 6, 7, 8, 9, 10, 11, 12, 13, 14, 15, 16, 17, 18, 19, 20, 21, 22], [22, 23])])
def barscanref05_DivMod.B17 : List Nat := [0, 0, 0, 6, 0, 30, 0, 0, 0, 0, 768, 0, 3840, 8064, 16256, 0, 0, 0, 0, 393216, 917504, 2064384, 4194240, 8388607, 16777215]
theorem barscanref05_DivMod.tab17 : rtab .any (opsOf Try.f67 17) = barscanref05_DivMod.T17 := by kernel_rfl
theorem barscanref05_DivMod.bits17 : waitsOk barscanref05_DivMod.T17.2 barscanref05_DivMod.B17 = true := by kernel_rfl
theorem barscanref05_DivMod.calls (k : Nat) (a0_0 : Int) (a0_1 : Int) (a0_2 : Int) (A1 : Option Addr) (c1 : Nat) (l1 : List Int) (A2 : Option Addr) (c2 : Nat) (l2 : List Int) (r1 : List Int) (r2 : List Int) (r3 : Int) (w : World) (hr1 : Kd.C (Kd.int .i64) w A1 l1.length l1) (hc1 : l1.length ≤ c1) (hr2 : Kd.C (Kd.int .i64) w A2 l2.length l2) (hc2 : l2.length ≤ c2) (h : barscanref05_DivMod.f k a0_0 a0_1 a0_2 l1 l2 = some (r1, r2, r3)) :
  Calls Try.prog 67 #[.agg #[.int .i64 a0_0, .int .i64 a0_1, .int .i64 a0_2], .slice A1 l1.length c1, .slice A2 l2.length c2] w fun e w' => ∃ v0_ v1_ : Value, e = .returned (.tuple #[v0_, v1_, .int .i64 r3]) ∧ Kd.R (Kd.int .i64) 3 w' w.heap.size (fun k_ => some k_ ≠ (v1_ : Value).ownBlock) v0_ r1 ∧ Kd.R (Kd.int .i64) 3 w' w.heap.size (fun k_ => some k_ ≠ (v0_ : Value).ownBlock) v1_ r2 ∧ Below w.heap.size w w' := by
 have hu23 := Try.underlying23
 have HR1 := Aside0.mk hr1
 have HC1 := Aside0.mk hc1
 clear hr1 hc1
 have HR2 := Aside0.mk hr2
 have HC2 := Aside0.mk hc2
 clear hr2 hc2
 have HB := Aside0.mk (Below.refl w.heap.size w)
 have H := h
 unfold barscanref05_DivMod.f at H
 clear h
 have HC4 := Aside0.mk H
 clear H
 go_enter Try.func67, Try.ntmps67
 go_upto_region 1 with (first | ((with_reducible refine gate_dst (N := 3) rfl ?_); refine zBox 3 #[.int .i64 a0_0, .int .i64 a0_1, .int .i64 a0_2] 23 ?_; clear HB; intro gb1528 w5 BK1528 GE1528 HB))
 (try simp only [Act.put, List.setIfInBounds_toArray, List.set_cons_zero, List.set_cons_succ])
 go_cut [26] (fun v26 wc => ∃ (kq : Nat) (x26_3 : Bool), v26 = .bool x26_3 ∧ Aside0 (barscanref05_DivMod.j0 kq l1 l2 x26_3 a0_0 a0_1 a0_2 = some (r1, r2, r3)) ∧ Aside0 (kq ≤ k) ∧ Aside0 (wc.heap[gb1528]? = some (.cells #[.int .i64 a0_0, .int .i64 a0_1, .int .i64 a0_2] 23 (0, 0))) ∧ Aside0 (Below w.heap.size w wc))
 case first =>
  have H := HC4.out
  clear HC4
  obtain ⟨t1529, A6, H⟩ := zD H
  by_cases c7 : t1529 = true
  ·subst c7
   rw [if_pos rfl] at H
   obtain ⟨t1530, A8, H⟩ := zD H
   have H' := zA H
   clear H
   (try clear z1528_0 z1528_1 z1528_2 f1528_0 f1528_1 f1528_2)
   obtain ⟨z1528_0, z1528_1, z1528_2, f1528_0, f1528_1, f1528_2⟩ := cz3 BK1528
   go_wp2_with (first | ((with_reducible refine gate_callee (f := 82) rfl ?_); refine gL (some 19) Try.func82 #[.agg #[.int .i64 a0_0, .int .i64 a0_1, .int .i64 a0_2], .slice A1 l1.length c1] ?_; (with_reducible refine zCall (barscanref05_Valid.calls k a0_0 a0_1 a0_2 _ _ l1 true _ ?side1 ?side2 A6.out) ?_); (case side1 => exact zN HR1); (case side2 => exact HC1.out); intro w10 hb; replace BK1528 := bB BK1528 hb; replace HB := bS hb; (try clear hb); (try clear z1528_0 z1528_1 z1528_2 f1528_0 f1528_1 f1528_2); obtain ⟨z1528_0, z1528_1, z1528_2, f1528_0, f1528_1, f1528_2⟩ := cz3 BK1528) | (go_at_call 82; (with_reducible refine (barscanref05_Valid.calls k a0_0 a0_1 a0_2 _ _ l2 t1530 _ ?side1 ?side2 A8.out).mono ?_); (case side1 => exact zN HR2); (case side2 => exact HC2.out); rintro e w12 ⟨rfl, hb⟩; replace BK1528 := bB BK1528 hb; replace HB := bS hb; (try clear hb)))
   go_meet
   case rel => exact ⟨_, (!t1530), zR, H', zL, ⟨zK BK1528⟩, ⟨zB⟩⟩
  ·replace c7 := Bool.eq_false_iff.mpr c7
   subst c7
   rw [if_neg (show ¬ (false = true) by decide)] at H
   have H' := zA H
   clear H
   (try clear z1528_0 z1528_1 z1528_2 f1528_0 f1528_1 f1528_2)
   obtain ⟨z1528_0, z1528_1, z1528_2, f1528_0, f1528_1, f1528_2⟩ := cz3 BK1528
   go_wp2_with (first | ((with_reducible refine gate_callee (f := 82) rfl ?_); refine gL (some 19) Try.func82 #[.agg #[.int .i64 a0_0, .int .i64 a0_1, .int .i64 a0_2], .slice A1 l1.length c1] ?_; (with_reducible refine zCall (barscanref05_Valid.calls k a0_0 a0_1 a0_2 _ _ l1 false _ ?side1 ?side2 A6.out) ?_); (case side1 => exact zN HR1); (case side2 => exact HC1.out); intro w14 hb; replace BK1528 := bB BK1528 hb; replace HB := bS hb; (try clear hb)))
   go_meet
   case rel => exact ⟨_, (true), zR, H', zL, ⟨zK BK1528⟩, ⟨zB⟩⟩
 case rest =>
  clear HC4
  try clear c1
  try clear c2
  try clear p2
  try clear c6
  try clear c7
  try clear c8
  try clear z1528_0 z1528_1 z1528_2 f1528_0 f1528_1 f1528_2
  obtain ⟨kq, x26_3, rfl, HA, HJ3, BK1528, HB⟩ := hcut
  cases kq with
  | zero => exact absurd HA.out (by simp [barscanref05_DivMod.j0])
  | succ kj3 =>
   have H := HA.out
   clear HA
   simp only [barscanref05_DivMod.j0] at H
   by_cases c15 : x26_3 = true
   ·subst c15
    rw [if_pos rfl] at H
    simp only [Option.some.injEq, Prod.mk.injEq] at H
    obtain ⟨rfl, rfl, rfl⟩ := H
    go_wp2
    go_ret3
    exact ⟨_, _, zE, by first | exact Kd.R_nil _ _ _ _ _ | exact Kd.N_nil _ _ _ _ _ | exact Kd.V_nil _ _ _ _ _ | exact Kd.Q_nil _ _ _ _ _ | exact Kd.S_nil _ _ _ _ _, by first | exact Kd.R_nil _ _ _ _ _ | exact Kd.N_nil _ _ _ _ _ | exact Kd.V_nil _ _ _ _ _ | exact Kd.Q_nil _ _ _ _ _ | exact Kd.S_nil _ _ _ _ _, zB⟩
   ·replace c15 := Bool.eq_false_iff.mpr c15
    subst c15
    rw [if_neg (show ¬ (false = true) by decide)] at H
    by_cases c16 : (l2.length : Int) = 0
    ·rw [if_pos c16] at H
     have c16b0 := beq_iff_eq.mpr c16
     have c16b1 := bne_eq_false_iff_eq.mpr c16
     clear c16
     simp only [Option.some.injEq, Prod.mk.injEq] at H
     obtain ⟨rfl, rfl, rfl⟩ := H
     go_wp2
     go_ret3
     exact ⟨_, _, zE, by first | exact Kd.R_nil _ _ _ _ _ | exact Kd.N_nil _ _ _ _ _ | exact Kd.V_nil _ _ _ _ _ | exact Kd.Q_nil _ _ _ _ _ | exact Kd.S_nil _ _ _ _ _, by first | exact Kd.R_nil _ _ _ _ _ | exact Kd.N_nil _ _ _ _ _ | exact Kd.V_nil _ _ _ _ _ | exact Kd.Q_nil _ _ _ _ _ | exact Kd.S_nil _ _ _ _ _, zB⟩
    ·rw [if_neg c16] at H
     have c16b0 := beq_eq_false_iff_ne.mpr c16
     have c16b1 := bne_iff_ne.mpr c16
     have c16b2 : ¬ (l2 = []) := fun h_ => c16 (by rw [h_]; rfl)
     obtain ⟨ji17, hji17⟩ : ∃ j_ : Int, (wrap64 ((l2.length : Int) - 1)) = j_ := ⟨_, rfl⟩
     first | rw [hji17] at H | simp only [hji17] at H
     have hji17w : (IntKind.i64.wrap ((l2.length : Int) - 1)) = ji17 := (i64_w _).trans hji17
     by_cases c18 : 0 ≤ (ji17)
     ·rw [if_pos c18] at H
      have c18b0 : decide (0 ≤ (ji17)) = true := decide_eq_true c18
      clear c18
      by_cases c19 : (ji17) < (l2.length : Int)
      ·rw [if_pos c19] at H
       have c19b0 : decide ((ji17) < (l2.length : Int)) = true := decide_eq_true c19
       clear c19
       obtain ⟨⟨t1532, t1533⟩, A20, H⟩ := zD H
       dsimp only at H
       obtain ⟨y1534, hy1534⟩ : ∃ y_ : List Int, y_ = (([] : List Int)) := ⟨_, rfl⟩
       replace H : (if y1534.length + l1.length < 17592186044416 then (if 0 ≤ (l1.length : Int) then (if ((l1.length : Int) : Int).toNat ≤ 35184372088832 then (barscanref05_DivMod.l0 kj3 l2 ji17 t1532 (y1534 ++ l1) (List.replicate ((l1.length : Int) : Int).toNat 0) (wrap64 ((l1.length : Int) - 1)) a0_0 a0_1 a0_2) else (none)) else (none)) else (none)) = some (r1, r2, r3) := by first | (rw [hy1534]; with_reducible exact H) | (have H2_ := (Option.bind_some _ _).symm.trans H; rw [hy1534]; with_reducible exact H2_) | (have H2_ := (Option.bind_some _ _).symm.trans H; with_reducible exact H2_) | with_reducible exact H | (rw [hy1534]; exact H) | exact H
       have Ny1534 := Aside0.mk hy1534
       clear hy1534
       by_cases c21 : y1534.length + l1.length < 17592186044416
       ·rw [if_pos c21] at H
        have LMc21 := Aside0.mk c21
        clear c21
        obtain ⟨y1537, hy1537⟩ : ∃ y_ : List Int, y_ = (y1534 ++ l1) := ⟨_, rfl⟩
        replace H : (if 0 ≤ (l1.length : Int) then (if ((l1.length : Int) : Int).toNat ≤ 35184372088832 then (barscanref05_DivMod.l0 kj3 l2 ji17 t1532 y1537 (List.replicate ((l1.length : Int) : Int).toNat 0) (wrap64 ((l1.length : Int) - 1)) a0_0 a0_1 a0_2) else (none)) else (none)) = some (r1, r2, r3) := by first | (rw [hy1537]; with_reducible exact H) | (have H2_ := (Option.bind_some _ _).symm.trans H; rw [hy1537]; with_reducible exact H2_) | (have H2_ := (Option.bind_some _ _).symm.trans H; with_reducible exact H2_) | with_reducible exact H | (rw [hy1537]; exact H) | exact H
        have Ny1537 := Aside0.mk hy1537
        clear hy1537
        by_cases c22 : 0 ≤ (l1.length : Int)
        ·rw [if_pos c22] at H
         have c22b0 := eq_true c22
         have c22b1 : decide (0 ≤ (l1.length : Int)) = true := decide_eq_true c22
         clear c22
         by_cases c23 : ((l1.length : Int) : Int).toNat ≤ 35184372088832
         ·rw [if_pos c23] at H
          have c23b0 := eq_true c23
          have c23b1 : decide (((l1.length : Int) : Int).toNat ≤ 35184372088832) = true := decide_eq_true c23
          clear c23
          obtain ⟨y1540, hy1540⟩ : ∃ y_ : List Int, y_ = (List.replicate ((l1.length : Int) : Int).toNat 0) := ⟨_, rfl⟩
          replace H : (barscanref05_DivMod.l0 kj3 l2 ji17 t1532 y1537 y1540 (wrap64 ((l1.length : Int) - 1)) a0_0 a0_1 a0_2) = some (r1, r2, r3) := by first | (rw [hy1540]; with_reducible exact H) | (have H2_ := (Option.bind_some _ _).symm.trans H; rw [hy1540]; with_reducible exact H2_) | (have H2_ := (Option.bind_some _ _).symm.trans H; with_reducible exact H2_) | with_reducible exact H | (rw [hy1540]; exact H) | exact H
          have Ny1540 := Aside0.mk hy1540
          clear hy1540
          have H' := zA H
          clear H
          try go_wp2
          replace BK1528 := Aside0.mk (blk_drew BK1528.out)
          replace HB := Aside0.mk (below_drew1 HB.out)
          have p1531 : 0 ≤ ((ji17) : Int) := of_decide_eq_true (by first | (with_reducible assumption) | assumption)
          have q1531 : (ji17) < (l2.length : Int) := of_decide_eq_true (by first | (with_reducible assumption) | assumption)
          obtain ⟨ad1531, e1531, hx1531_0⟩ := Kd.at_int HR2.out (ji17) p1531 q1531
          have hw1531_0 := hx1531_0
          cases e1531
          replace hx1531_0 := (HB.out.cell (World.block_lt_of_cell? w _ hx1531_0)).trans hx1531_0
          replace p1531 := eq_true p1531
          replace q1531 := eq_true q1531
          refine start_ (n := 11) (S := fun w' => w'.cell? ⟨gb1528, 0, none⟩ = some (.int .i64 a0_0) ∧ w'.cell? ⟨gb1528, 1, none⟩ = some (.int .i64 a0_1) ∧ w'.cell? ⟨gb1528, 2, none⟩ = some (.int .i64 a0_2) ∧ w'.cell? (ad1531.add ((ji17)).toNat) = some (.int .i64 (rd l2 (ji17)))) (ds := []) #[false, false, false, false, false, false, false, false, false, false, false] (by kernel_rfl) rfl rfl ⟨(blk_cell BK1528.out 0).trans rfl, (blk_cell BK1528.out 1).trans rfl, (blk_cell BK1528.out 2).trans rfl, ((HB.out.cell (World.block_lt_of_cell? w _ hw1531_0)).trans hw1531_0)⟩ (fun hHeld => ?_); refine with_tabW barscanref05_DivMod.tab6 barscanref05_DivMod.bits6 (fun HT_ HW_ => ?_)
          generalize wc.drew = w24 at BK1528 HB hx1531_0 hHeld ⊢
          refine pU 1 (some 35) ?_
          refine pU 2 (some 36) ?_
          refine pU 3 (some 37) ?_
          refine tU 0 (some 34) hHeld ?_
          refine tU 4 (some 38) hHeld ?_
          refine oU 5 (some 39) (fun K hK => ?_)
          refine goes_ Try.func43 (by kernel_rfl) rfl #[.agg #[.int .i64 a0_0, .int .i64 a0_1, .int .i64 a0_2], .int .i64 (rd l2 (ji17))] (by rfl) rfl rfl (by (try simp only [List.map_toArray, List.map_cons, List.map_nil]); first | done | (simp only [hji17]; rfl) | rfl | (simp only [List.length_drop, List.length_take]; rfl)) ?_
          with_reducible refine (barscanref04_Inv.calls kj3 a0_0 a0_1 a0_2 (rd l2 (ji17)) t1532 t1533 _ A20.out).mono ?_
          rintro e w25 ⟨rfl, hb⟩
          refine ⟨_, rfl, ?_⟩
          replace BK1528 := bB BK1528 hb
          replace HB := bS hb
          (try clear hb)
          (try clear hb2)
          (try clear hk)
          (try clear hi)
          refine hK.out _ _ ⟨(blk_cell BK1528.out 0).trans rfl, (blk_cell BK1528.out 1).trans rfl, (blk_cell BK1528.out 2).trans rfl, ((HB.out.cell (World.block_lt_of_cell? w _ hw1531_0)).trans hw1531_0)⟩ (fun hHeld => ?_)
          clear hK K
          refine nU ?_
          refine pU 6 (some 33) ?_
          refine pU 7 (some 40) ?_
          refine pU 8 (some 41) ?_
          refine pU 9 (some 10) ?_
          refine pU 10 (some 11) ?_
          refine dU ?_
          try go_wp2_with (first | ((with_reducible refine gate_dst (N := 42) rfl ?_); refine Kd.R_lit (Kd.int .i64) _ 3 ?hg (N := 42) ?hd (xs := ([] : List Int)) (inner := []) (ok := fun _ => True) (okp := fun _ => True) ?hr ?hp (fun _ hk => hk) trivial (Below.refl _ _) (Nat.le_refl _) (by simp) ?_; (case hd => rfl); (case hg => rfl); (case hr => first | (go_simp; done) | (go_simp; rfl)); (case hp => exact (Reps.none _ _)); intro v1535 w26 ho27 hb hg_ hnew_; clear hg_ hnew_; (first | rw [← Ny1534.out] at ho27 | (simp only [Int.reduceToNat] at ho27; rw [← Ny1534.out] at ho27)); have HO1536 := Aside0.mk (Kd.R_lower ho27 (below_size zB)); replace BK1528 := bB BK1528 hb; replace HB := bS hb; clear hb ho27) | ((with_reducible refine gate_builtin (b := .append) (xs := #[.tmp 42, .tmp 43]) rfl ?_); at_builtin; refine Kd.R_append_rows (Kd.int .i64) (w0 := w) w.heap.size rfl (.tmp 42) (.tmp 43) 45 3 (.int .i64 0) 8 rfl Try.underlying45 info3 rfl (by decide) (by omega) v1535 y1534 l1 _ _ _ (fun _ => True) (fun _ => False) rfl rfl ?aO ?aR (fun _ _ h => h) (fun _ h => h.elim) ?aF ?aB ?aS ?aL ?_; (case aR => exact zN HR1); (case aB => exact zB); (case aF => exact (fun _ _ => trivial)); (case aO => exact (zO HO1536)); (case aS => exact (below_size zB)); (case aL => have := LMc21.out; omega); intro v1538 w28 ho hb hg hat; rw [← Ny1537.out] at ho; replace BK1528 := Aside0.mk (blk_grown (g := gb1528) (o := .cells #[.int .i64 a0_0, .int .i64 a0_1, .int .i64 a0_2] 23 (0, 0)) (zK BK1528) hg (Kd.R_ne HO1536.out BK1528.out (by decide))); replace HB := Aside0.mk (hb); have HO1539 := Aside0.mk (ho); clear HO1536; clear ho hb hg hat) | ((with_reducible refine gate_dst (N := 47) rfl ?_); refine Kd.R_make (Kd.int .i64) _ 3 rfl (N := 47) rfl 45 _ _ rfl (l1.length : Int) rfl rfl Try.underlying45 (.int .i64 0) 8 info3 rfl (by decide) (by omega) 0 (ok := fun _ => True) (okp := fun _ => True) rfl (fun _ hk => hk) trivial (of_decide_eq_true (by first | (with_reducible assumption) | assumption)) (Nat.le_trans (Nat.mul_le_mul_right _ (of_decide_eq_true (by first | (with_reducible assumption) | assumption) : (l1.length : Int).toNat ≤ 35184372088832)) (by omega)) (Below.refl _ _) (Nat.le_refl _) ?_; intro v1541 w29 ho30 hb hg_ hnew_; clear hg_ hnew_; (first | rw [← Ny1540.out] at ho30 | (simp only [Int.reduceToNat] at ho30; rw [← Ny1540.out] at ho30)); have HO1542 := Aside0.mk (Kd.R_lower (Kd.R_new' ho30 (Kd.R_lt (zO HO1539))) (below_size zB)); replace HO1539 := Aside0.mk (Kd.R_elder' (zO HO1539) (Kd.R_base ho30) hb); replace BK1528 := bB BK1528 hb; replace HB := bS hb; clear hb ho30))
          go_loopg [14] kj3 (fun kq v14 w' => ∃ (x12_2 : List Int) (x13_2 : List Int) (x14_2 : Int), v14 = .int .i64 x14_2 ∧ Aside0 (barscanref05_DivMod.l0 kq l2 ji17 t1532 x12_2 x13_2 x14_2 a0_0 a0_1 a0_2 = some (r1, r2, r3)) ∧ Aside0 (kq ≤ kj3) ∧ Aside0 (Kd.R (Kd.int .i64) 3 w' w.heap.size (fun k_ => some k_ ≠ (v1541 : Value).ownBlock) v1538 x12_2) ∧ Aside0 (Kd.R (Kd.int .i64) 3 w' w.heap.size (fun k_ => some k_ ≠ (v1538 : Value).ownBlock) v1541 x13_2) ∧ Aside0 (w'.heap[gb1528]? = some (.cells #[.int .i64 a0_0, .int .i64 a0_1, .int .i64 a0_2] 23 (0, 0))) ∧ Aside0 (Below w.heap.size w w'))
          case atStart => exact ⟨(y1537), (y1540), (wrap64 ((l1.length : Int) - 1)), zR, H', ⟨Nat.le_refl _⟩, ⟨by (with_reducible repeat (first | apply Kd.R_alloc | apply Kd.R_drewN | apply Kd.R_drew)); exact Kd.R_mono HO1539.out (fun _ hk => hk.2)⟩, ⟨by (with_reducible repeat (first | apply Kd.R_alloc | apply Kd.R_drewN | apply Kd.R_drew)); exact Kd.R_mono HO1542.out (fun _ hk => hk.2)⟩, ⟨zK BK1528⟩, ⟨zB⟩⟩
          case round =>
           clear H'
           try clear c1
           try clear p1
           try clear q1
           try clear hx1
           try clear c2
           try clear p2
           try clear c4
           try clear c6
           try clear p6
           try clear c7
           try clear c8
           try clear c15
           try clear p15
           try clear q15
           try clear hx15
           try clear c16
           try clear c16b0
           try clear c16b1
           try clear c16b2
           try clear c18
           try clear c18b0
           try clear c19
           try clear c19b0
           try clear c21
           try clear c22
           try clear c22b0
           try clear c22b1
           try clear c23
           try clear c23b0
           try clear c23b1
           try clear z1528_0 z1528_1 z1528_2 f1528_0 f1528_1 f1528_2
           try clear hx1531_0
           try clear p1531
           try clear p2
           try clear q1531
           obtain ⟨x12_2, x13_2, x14_2, rfl, HA, HK2, HO_12, HO_13, BK1528, HB⟩ := hrel
           cases gk with
           | zero => exact absurd HA.out (by simp [barscanref05_DivMod.l0])
           | succ k2 =>
            have H := HA.out
            clear HA
            simp only [barscanref05_DivMod.l0] at H
            by_cases c31 : x14_2 ≥ ji17
            ·rw [if_pos c31] at H
             have c31b0 : decide (ji17 ≤ x14_2) = true := decide_eq_true c31
             clear c31
             by_cases c32 : 0 ≤ x14_2
             ·rw [if_pos c32] at H
              have c32b0 : decide (0 ≤ x14_2) = true := decide_eq_true c32
              clear c32
              by_cases c33 : x14_2 < (x12_2.length : Int)
              ·rw [if_pos c33] at H
               have c33b0 : decide (x14_2 < (x12_2.length : Int)) = true := decide_eq_true c33
               clear c33
               obtain ⟨t1550, A34, H⟩ := zD H
               obtain ⟨ji35, hji35⟩ : ∃ j_ : Int, (wrap64 (x14_2 - ji17)) = j_ := ⟨_, rfl⟩
               first | rw [hji35] at H | simp only [hji35] at H
               (try rw [hji35] at A34)
               have hji35w : (IntKind.i64.wrap (x14_2 - ji17)) = ji35 := (i64_w _).trans hji35
               by_cases c36 : 0 ≤ (ji35)
               ·rw [if_pos c36] at H
                have c36b0 : decide (0 ≤ (ji35)) = true := decide_eq_true c36
                clear c36
                by_cases c37 : (ji35) < (x13_2.length : Int)
                ·rw [if_pos c37] at H
                 have c37b0 : decide ((ji35) < (x13_2.length : Int)) = true := decide_eq_true c37
                 clear c37
                 obtain ⟨y1551, hy1551⟩ : ∃ y_ : List Int, y_ = (x13_2.set ((ji35) : Int).toNat t1550) := ⟨_, rfl⟩
                 replace H : (barscanref05_DivMod.l1 k2 l2 ji17 t1532 x12_2 y1551 x14_2 t1550 0 a0_0 a0_1 a0_2) = some (r1, r2, r3) := by first | (rw [hy1551]; with_reducible exact H) | (have H2_ := (Option.bind_some _ _).symm.trans H; rw [hy1551]; with_reducible exact H2_) | (have H2_ := (Option.bind_some _ _).symm.trans H; with_reducible exact H2_) | with_reducible exact H | (rw [hy1551]; exact H) | exact H
                 have Ny1551 := Aside0.mk hy1551
                 clear hy1551
                 have H' := zA H
                 clear H
                 try go_wp2
                 replace HO_12 := Aside0.mk (Kd.R_drew HO_12.out)
                 replace HO_13 := Aside0.mk (Kd.R_drew HO_13.out)
                 replace BK1528 := Aside0.mk (blk_drew BK1528.out)
                 replace HB := Aside0.mk (below_drew1 HB.out)
                 obtain ⟨Ao40, co40, eo40⟩ := Kd.R_slice HO_12.out
                 (first | subst eo40 | (injection eo40 with f1_ f2_ f3_; have f4_ := f1_.symm; have f5_ := f3_.symm; clear f1_ f2_ f3_; subst f4_; subst f5_))
                 have p1549 : 0 ≤ (x14_2 : Int) := of_decide_eq_true (by first | (with_reducible assumption) | assumption)
                 have q1549 : x14_2 < (x12_2.length : Int) := of_decide_eq_true (by first | (with_reducible assumption) | assumption)
                 obtain ⟨ad1549, e1549, hx1549_0⟩ := Kd.at_int (Kd.R_reads' HO_12.out).2.2 x14_2 p1549 q1549
                 cases e1549
                 replace p1549 := eq_true p1549
                 replace q1549 := eq_true q1549
                 refine start_ (n := 8) (S := fun w' => w'.cell? ⟨gb1528, 0, none⟩ = some (.int .i64 a0_0) ∧ w'.cell? ⟨gb1528, 1, none⟩ = some (.int .i64 a0_1) ∧ w'.cell? ⟨gb1528, 2, none⟩ = some (.int .i64 a0_2) ∧ w'.cell? (ad1549.add (x14_2).toNat) = some (.int .i64 (rd x12_2 x14_2))) (ds := []) #[false, false, false, false, false, false, false, false] (by kernel_rfl) rfl rfl ⟨(blk_cell BK1528.out 0).trans rfl, (blk_cell BK1528.out 1).trans rfl, (blk_cell BK1528.out 2).trans rfl, hx1549_0⟩ (fun hHeld => ?_); refine with_tabW barscanref05_DivMod.tab12 barscanref05_DivMod.bits12 (fun HT_ HW_ => ?_)
                 generalize wr.drew = w39 at HO_12 HO_13 BK1528 HB hx1549_0 hHeld ⊢
                 refine pU 1 (some 57) ?_
                 refine pU 2 (some 58) ?_
                 refine pU 3 (some 59) ?_
                 refine pU 5 (some 61) ?_
                 refine tU 0 (some 56) hHeld ?_
                 refine tU 4 (some 60) hHeld ?_
                 refine oU 6 (some 62) (fun K hK => ?_)
                 refine goes_ Try.func111 (by kernel_rfl) rfl #[.agg #[.int .i64 a0_0, .int .i64 a0_1, .int .i64 a0_2], .int .i64 (rd x12_2 x14_2), .int .i64 t1532] (by rfl) rfl rfl zM ?_
                 with_reducible refine (barscanref05_times.calls k2 a0_0 a0_1 a0_2 (rd x12_2 x14_2) t1532 t1550 _ A34.out).mono ?_
                 rintro e w41 ⟨rfl, hb⟩
                 have HS3_ := (hb.cell (World.block_lt_of_cell? _ _ (hHeld.2.2.2))).trans (hHeld.2.2.2)
                 refine ⟨_, rfl, ?_⟩
                 replace HO_12 := Aside0.mk (Kd.R_below (zO HO_12) hb)
                 replace HO_13 := Aside0.mk (Kd.R_below (zO HO_13) hb)
                 replace BK1528 := bB BK1528 hb
                 replace HB := bS hb
                 (try clear hb)
                 (try clear hb2)
                 (try clear hk)
                 (try clear hi)
                 refine hK.out _ _ ⟨(blk_cell BK1528.out 0).trans rfl, (blk_cell BK1528.out 1).trans rfl, (blk_cell BK1528.out 2).trans rfl, HS3_⟩ (fun hHeld => ?_)
                 clear hK K
                 refine nU ?_
                 refine pU 7 (some 15) ?_
                 refine dU ?_
                 have p38 : 0 ≤ ((ji35) : Int) := of_decide_eq_true (by first | (with_reducible assumption) | assumption)
                 have q38 : ((ji35) : Int) < ((x13_2.length : Int) : Int) := of_decide_eq_true (by first | (with_reducible assumption) | assumption)
                 obtain ⟨go38, co38, eo38, gb38, gl38, cl38, HG38⟩ := Kd.R_form HO_13.out (by omega)
                 (first | cases eo38 | (injection eo38 with ea_ en_ ec_; (first | subst ea_ | (injection ea_ with ea_; subst ea_)); subst ec_; clear en_))
                 have GB38 := Aside0.mk gb38
                 have GG38 := Aside0.mk HG38
                 clear gb38 gl38 HG38
                 obtain ⟨hx38_0, hf38_0⟩ := Kd.R_celln 0 HO_13.out ((ji35) : Int) p38 q38
                 replace p38 := eq_true p38
                 replace q38 := eq_true q38
                 obtain ⟨hy42_, hz42_⟩ := Kd.R_celln 0 HO_13.out ((ji35) : Int) (of_decide_eq_true (by first | (with_reducible assumption) | assumption)) (of_decide_eq_true (by first | (with_reducible assumption) | assumption))
                 have HP42 := Kd.R_putg HO_13.out ((ji35) : Int) t1550
                 try go_wp2_with (first | ((with_reducible refine gate_store (t := 3) (p := 68) rfl ?_); refine store_event (t := 3) (p := 68) (v := ?vo_w43) (w1 := (w41.setCell ⟨go38, ((ji35) : Int).toNat, none⟩ (.int .i64 t1550))) ?hg ?ho ?hn ?hr ?_; (case ho => rfl); (case hg => rfl); (case hn => rfl); (case hr => first | (go_simp; done) | (go_simp; rfl)); intro w43 hw; have hg : w41.grownBy w43 (some go38) := (by rw [hw]; exact HP42.2); have hp_ : Kd.R (Kd.int .i64) 3 w43 w.heap.size (fun k_ => some k_ ≠ (.slice (some ad1549) x12_2.length co40 : Value).ownBlock) (.slice (some ⟨go38, 0, none⟩) x13_2.length co38) y1551 := (by rw [hw, Ny1551.out]; exact HP42.1); clear HP42; replace HO_12 := Aside0.mk (Kd.R_after (v := (.slice (some ⟨go38, 0, none⟩) x13_2.length co38)) (v1 := (.slice (some ⟨go38, 0, none⟩) x13_2.length co38)) (ok := (fun _ => True)) (by (with_reducible repeat (first | apply Kd.R_alloc | apply Kd.R_drewN | apply Kd.R_drew)); exact Kd.R_mono HO_12.out (fun _ hk => ⟨trivial, hk⟩)) hg (.inl rfl)); replace BK1528 := Aside0.mk (blk_grown (g := gb1528) (o := .cells #[.int .i64 a0_0, .int .i64 a0_1, .int .i64 a0_2] 23 (0, 0)) (zK BK1528) hg (Kd.R_ne HO_13.out BK1528.out (by decide))); replace HO_13 := Aside0.mk (hp_); replace HB := Aside0.mk ((by rw [hw]; exact below_set (HB.out) GB38.out : Below w.heap.size w w43)); clear hg hw hp_))
                 generalize (Value.pointer (some (ad1549.add x14_2.toNat))) = vQ_ -- addr0_
                 go_loopg [16] k2 (fun kq v16 w' => ∃ (x12_3 : List Int) (x16_3 : Int), v16 = .int .i64 x16_3 ∧ Aside0 (barscanref05_DivMod.l1 kq l2 ji17 t1532 x12_3 y1551 x14_2 t1550 x16_3 a0_0 a0_1 a0_2 = some (r1, r2, r3)) ∧ Aside0 (kq ≤ k2) ∧ Aside0 (Kd.R (Kd.int .i64) 3 w' w.heap.size (fun k_ => some k_ ≠ ((.slice (some ⟨go38, 0, none⟩) x13_2.length co38) : Value).ownBlock) (.slice (some ad1549) x12_2.length co40) x12_3) ∧ Aside0 (Kd.R (Kd.int .i64) 3 w' w.heap.size (fun k_ => some k_ ≠ ((.slice (some ad1549) x12_2.length co40) : Value).ownBlock) (.slice (some ⟨go38, 0, none⟩) x13_2.length co38) y1551) ∧ Aside0 (w'.heap[gb1528]? = some (.cells #[.int .i64 a0_0, .int .i64 a0_1, .int .i64 a0_2] 23 (0, 0))) ∧ Aside0 (Below w.heap.size w w'))
                 case atStart => exact ⟨(x12_2), (0), zR, H', ⟨Nat.le_refl _⟩, ⟨by (with_reducible repeat (first | apply Kd.R_alloc | apply Kd.R_drewN | apply Kd.R_drew)); exact Kd.R_mono HO_12.out (fun _ hk => hk.2)⟩, ⟨zO HO_13⟩, ⟨zK BK1528⟩, ⟨zB⟩⟩
                 case round =>
                  clear H'
                  try clear c1
                  try clear p1
                  try clear q1
                  try clear hx1
                  try clear c2
                  try clear p2
                  try clear c3
                  try clear p3
                  try clear q3
                  try clear hx3
                  try clear hf3
                  try clear c4
                  try clear c6
                  try clear p6
                  try clear c7
                  try clear c8
                  try clear c11
                  try clear c15
                  try clear p15
                  try clear q15
                  try clear hx15
                  try clear c16
                  try clear c16b0
                  try clear c16b1
                  try clear c16b2
                  try clear c18
                  try clear c18b0
                  try clear c19
                  try clear c19b0
                  try clear c21
                  try clear c22
                  try clear c22b0
                  try clear c22b1
                  try clear c23
                  try clear c23b0
                  try clear c23b1
                  try clear c31
                  try clear c31b0
                  try clear c32
                  try clear c32b0
                  try clear c33
                  try clear c33b0
                  try clear c36
                  try clear c36b0
                  try clear c37
                  try clear c37b0
                  try clear p38
                  try clear q38
                  try clear hx38
                  try clear hf38
                  try clear c43
                  try clear z1528_0 z1528_1 z1528_2 f1528_0 f1528_1 f1528_2
                  try clear hx1531_0
                  try clear hx1549_0
                  try clear hx38_0
                  try clear p1
                  try clear p15
                  try clear p1531
                  try clear p1549
                  try clear p2
                  try clear p38
                  try clear p6
                  try clear q1
                  try clear q15
                  try clear q1531
                  try clear q1549
                  try clear q38
                  obtain ⟨x12_3, x16_3, rfl, HA, HK3, HO_12, HO_13, BK1528, HB⟩ := hrel
                  have hl12_3 := (Kd.R_reads' HO_12.out).1
                  rw [hl12_3] at HO_12
                  (try simp only [hl12_3])
                  (try simp only [hl12_3] at BK1528)
                  (try simp only [hl12_3] at HO_13)
                  have hl13_3 := (Kd.R_reads' HO_13.out).1
                  rw [hl13_3] at HO_13
                  (try simp only [hl13_3])
                  (try simp only [hl13_3] at BK1528)
                  (try simp only [hl13_3] at HO_12)
                  cases gk with
                  | zero => exact absurd HA.out (by simp [barscanref05_DivMod.l1])
                  | succ k3 =>
                   have H := HA.out
                   clear HA
                   simp only [barscanref05_DivMod.l1] at H
                   by_cases c44 : x16_3 ≤ ji17
                   ·rw [if_pos c44] at H
                    have c44b0 : decide (x16_3 ≤ ji17) = true := decide_eq_true c44
                    clear c44
                    obtain ⟨ji45, hji45⟩ : ∃ j_ : Int, (wrap64 ((wrap64 (x14_2 - ji17)) + x16_3)) = j_ := ⟨_, rfl⟩
                    first | rw [hji45] at H | simp only [hji45] at H
                    have hji45w : (IntKind.i64.wrap ((wrap64 (x14_2 - ji17)) + x16_3)) = ji45 := (i64_w _).trans hji45
                    (try rw [hji35] at hji45) /- nested_ -/
                    (try rw [hji35] at hji45w)
                    by_cases c46 : 0 ≤ (ji45)
                    ·rw [if_pos c46] at H
                     have c46b0 : decide (0 ≤ (ji45)) = true := decide_eq_true c46
                     clear c46
                     by_cases c47 : (ji45) < (x12_3.length : Int)
                     ·rw [if_pos c47] at H
                      have c47b0 : decide ((ji45) < (x12_3.length : Int)) = true := decide_eq_true c47
                      clear c47
                      by_cases c48 : 0 ≤ x16_3
                      ·rw [if_pos c48] at H
                       have c48b0 : decide (0 ≤ x16_3) = true := decide_eq_true c48
                       clear c48
                       by_cases c49 : x16_3 < (l2.length : Int)
                       ·rw [if_pos c49] at H
                        have c49b0 : decide (x16_3 < (l2.length : Int)) = true := decide_eq_true c49
                        clear c49
                        obtain ⟨t1554, A50, H⟩ := zD H
                        obtain ⟨t1555, A51, H⟩ := zD H
                        obtain ⟨y1556, hy1556⟩ : ∃ y_ : List Int, y_ = (x12_3.set ((ji45) : Int).toNat t1555) := ⟨_, rfl⟩
                        replace H : (barscanref05_DivMod.l1 k3 l2 ji17 t1532 y1556 y1551 x14_2 t1550 (wrap64 (x16_3 + 1)) a0_0 a0_1 a0_2) = some (r1, r2, r3) := by first | (rw [hy1556]; with_reducible exact H) | (have H2_ := (Option.bind_some _ _).symm.trans H; rw [hy1556]; with_reducible exact H2_) | (have H2_ := (Option.bind_some _ _).symm.trans H; with_reducible exact H2_) | with_reducible exact H | (rw [hy1556]; exact H) | exact H
                        have Ny1556 := Aside0.mk hy1556
                        clear hy1556
                        have H' := zA H
                        clear H
                        try go_wp2
                        replace HO_12 := Aside0.mk (Kd.R_drew HO_12.out)
                        replace HO_13 := Aside0.mk (Kd.R_drew HO_13.out)
                        replace BK1528 := Aside0.mk (blk_drew BK1528.out)
                        replace HB := Aside0.mk (below_drew1 HB.out)
                        have p1552 : 0 ≤ ((ji45) : Int) := of_decide_eq_true (by first | (with_reducible assumption) | assumption)
                        have q1552 : (ji45) < (x12_3.length : Int) := of_decide_eq_true (by first | (with_reducible assumption) | assumption)
                        obtain ⟨ad1552, e1552, hx1552_0⟩ := Kd.at_int (Kd.R_reads' HO_12.out).2.2 (ji45) p1552 q1552
                        obtain rfl : ad1549 = ad1552 := (by injection e1552)
                        replace p1552 := eq_true p1552
                        replace q1552 := eq_true q1552
                        have p1553 : 0 ≤ (x16_3 : Int) := of_decide_eq_true (by first | (with_reducible assumption) | assumption)
                        have q1553 : x16_3 < (l2.length : Int) := of_decide_eq_true (by first | (with_reducible assumption) | assumption)
                        obtain ⟨ad1553, e1553, hx1553_0⟩ := Kd.at_int HR2.out x16_3 p1553 q1553
                        have hw1553_0 := hx1553_0
                        obtain rfl : ad1531 = ad1553 := (by injection e1553)
                        replace hx1553_0 := (HB.out.cell (World.block_lt_of_cell? w _ hx1553_0)).trans hx1553_0
                        replace p1553 := eq_true p1553
                        replace q1553 := eq_true q1553
                        refine start_ (n := 25) (S := fun w' => w'.cell? ⟨gb1528, 0, none⟩ = some (.int .i64 a0_0) ∧ w'.cell? ⟨gb1528, 1, none⟩ = some (.int .i64 a0_1) ∧ w'.cell? ⟨gb1528, 2, none⟩ = some (.int .i64 a0_2) ∧ w'.cell? (ad1549.add ((ji45)).toNat) = some (.int .i64 (rd x12_3 (ji45))) ∧ w'.cell? (ad1531.add (x16_3).toNat) = some (.int .i64 (rd l2 x16_3))) (ds := [24]) #[false, false, false, false, false, false, false, false, false, false, false, false, false, false, false, false, false, false, false, false, false, false, false, false, false] (by kernel_rfl) rfl rfl ⟨(blk_cell BK1528.out 0).trans rfl, (blk_cell BK1528.out 1).trans rfl, (blk_cell BK1528.out 2).trans rfl, hx1552_0, ((HB.out.cell (World.block_lt_of_cell? w _ hw1553_0)).trans hw1553_0)⟩ (fun hHeld => ?_); refine with_tabW barscanref05_DivMod.tab17 barscanref05_DivMod.bits17 (fun HT_ HW_ => ?_)
                        generalize wr.drew = w53 at HO_12 HO_13 BK1528 HB hx1552_0 hx1553_0 hHeld ⊢
                        refine pU 0 (some 74) ?_
                        refine pU 1 (some 75) ?_
                        refine pU 2 (some 76) ?_
                        refine pU 3 (some 77) ?_
                        refine pU 4 (some 78) ?_
                        refine pU 5 (some 79) ?_
                        refine pU 7 (some 81) ?_
                        refine pU 8 (some 82) ?_
                        refine pU 9 (some 83) ?_
                        refine pU 10 (some 84) ?_
                        refine pU 11 (some 85) ?_
                        refine pU 12 (some 86) ?_
                        refine pU 13 (some 87) ?_
                        refine pU 16 (some 90) ?_
                        refine pU 17 (some 91) ?_
                        refine pU 18 (some 92) ?_
                        refine pU 19 (some 93) ?_
                        refine tU 6 (some 80) hHeld ?_
                        refine tU 14 (some 88) hHeld ?_
                        refine tU 15 (some 89) hHeld ?_
                        refine tU 20 (some 94) hHeld ?_
                        refine oU 21 (some 95) (fun K hK => ?_)
                        refine goes_ Try.func111 (by kernel_rfl) rfl #[.agg #[.int .i64 a0_0, .int .i64 a0_1, .int .i64 a0_2], .int .i64 t1550, .int .i64 (rd l2 x16_3)] (by rfl) rfl rfl zM ?_
                        with_reducible refine (barscanref05_times.calls k3 a0_0 a0_1 a0_2 t1550 (rd l2 x16_3) t1554 _ A50.out).mono ?_
                        rintro e w54 ⟨rfl, hb⟩
                        have HS3_ := (hb.cell (World.block_lt_of_cell? _ _ (hHeld.2.2.2.1))).trans (hHeld.2.2.2.1)
                        refine ⟨_, rfl, ?_⟩
                        replace HO_12 := Aside0.mk (Kd.R_below (zO HO_12) hb)
                        replace HO_13 := Aside0.mk (Kd.R_below (zO HO_13) hb)
                        replace BK1528 := bB BK1528 hb
                        replace HB := bS hb
                        (try clear hb)
                        (try clear hb2)
                        (try clear hk)
                        (try clear hi)
                        refine hK.out _ _ ⟨(blk_cell BK1528.out 0).trans rfl, (blk_cell BK1528.out 1).trans rfl, (blk_cell BK1528.out 2).trans rfl, HS3_, ((HB.out.cell (World.block_lt_of_cell? w _ hw1553_0)).trans hw1553_0)⟩ (fun hHeld => ?_)
                        clear hK K
                        refine nU ?_
                        refine oU 22 (some 96) (fun K hK => ?_)
                        refine goes_ Try.func120 (by kernel_rfl) rfl #[.agg #[.int .i64 a0_0, .int .i64 a0_1, .int .i64 a0_2], .int .i64 (rd x12_3 (ji45)), .int .i64 t1554] (by rfl) rfl rfl (by (try simp only [List.map_toArray, List.map_cons, List.map_nil]); first | done | (simp only [hji45]; rfl) | rfl | (simp only [List.length_drop, List.length_take]; rfl)) ?_
                        with_reducible refine (barscanref05_less.calls a0_0 a0_1 a0_2 (rd x12_3 (ji45)) t1554 t1555 _ A51.out).mono ?_
                        rintro e w55 ⟨rfl, hb⟩
                        have HS3_ := (hb.cell (World.block_lt_of_cell? _ _ (hHeld.2.2.2.1))).trans (hHeld.2.2.2.1)
                        refine ⟨_, rfl, ?_⟩
                        replace HO_12 := Aside0.mk (Kd.R_below (zO HO_12) hb)
                        replace HO_13 := Aside0.mk (Kd.R_below (zO HO_13) hb)
                        replace BK1528 := bB BK1528 hb
                        replace HB := bS hb
                        (try clear hb)
                        (try clear hb2)
                        (try clear hk)
                        (try clear hi)
                        have p52 : 0 ≤ ((ji45) : Int) := of_decide_eq_true (by first | (with_reducible assumption) | assumption)
                        have q52 : ((ji45) : Int) < ((x12_3.length : Int) : Int) := of_decide_eq_true (by first | (with_reducible assumption) | assumption)
                        obtain ⟨go52, co52, eo52, gb52, gl52, cl52, HG52⟩ := Kd.R_form HO_12.out (by omega)
                        (first | cases eo52 | (injection eo52 with ea_ en_ ec_; (first | subst ea_ | (injection ea_ with ea_; subst ea_)); subst ec_; clear en_))
                        have GB52 := Aside0.mk gb52
                        have GG52 := Aside0.mk HG52
                        clear gb52 gl52 HG52
                        (first | simp only [add_plain] at hx1549_0 | skip)
                        (first | simp only [add_plain] at hx1552_0 | skip)
                        obtain ⟨hx52_0, hf52_0⟩ := Kd.R_celln 0 HO_12.out ((ji45) : Int) p52 q52
                        replace p52 := eq_true p52
                        replace q52 := eq_true q52
                        have HP56 := Kd.R_putn HO_12.out ((ji45) : Int) t1555
                        rw [← Ny1556.out] at HP56
                        have HQ56 := Aside0.mk HP56
                        clear HP56
                        refine hK.out _ _ ⟨(blk_cell BK1528.out 0).trans rfl, (blk_cell BK1528.out 1).trans rfl, (blk_cell BK1528.out 2).trans rfl, HS3_, ((HB.out.cell (World.block_lt_of_cell? w _ hw1553_0)).trans hw1553_0)⟩ (fun hHeld => ?_)
                        clear hK K
                        refine nU ?_
                        refine pU 23 (some 97) ?_
                        refine last_ (i := 24) (N := none) #[true, true, true, true, true, true, true, true, true, true, true, true, true, true, true, true, true, true, true, true, true, true, true, true, true] rfl rfl (one_of HT_.out (by kernel_rfl)) (by decide) (fun K hK => ?_)
                        refine skip_ (w1 := ?_) (by rfl) rfl ?_ ?_
                        rotate_left
                        ·go_simp
                         rfl
                        refine hK.out _ _ ?_
                        clear hK K
                        refine dU ?_
                        try go_wp2
                        (try simp only [← hl12_3, ← hl13_3])
                        go_roundg k3
                        case measure => have := HJ3.out; have := HK2.out; have := HK3.out; omega
                        case rel => exact ⟨(y1556), (wrap64 (x16_3 + 1)), zR, H', ⟨by have := HJ3.out; have := HK2.out; have := HK3.out; omega⟩, ⟨by (try simp only [hl12_3]); (try simp only [hl13_3]); (with_reducible repeat (first | apply Kd.R_alloc | apply Kd.R_drewN | apply Kd.R_drew)); exact HQ56.out⟩, ⟨by (try simp only [hl12_3]); (try simp only [hl13_3]); (with_reducible repeat (first | apply Kd.R_alloc | apply Kd.R_drewN | apply Kd.R_drew)); exact Kd.R_mono (Kd.R_far (p := ⟨go52, ((ji45) : Int).toNat, none⟩) (Kd.R_mono HO_13.out (fun k_ hk => (⟨hk, fun e_ => hk (by rw [e_]; rfl)⟩ : _ ∧ k_ ≠ go52))) (fun _ hk => hk.2) (.int .i64 t1555)) (fun _ hk => hk.1)⟩, ⟨by (try simp only [hl12_3]); (try simp only [hl13_3]); (with_reducible repeat (first | refine blk_drewN ?_ _ | refine blk_drew ?_ | refine blk_alloc ?_ _)); refine blk_far ?_ (by have h_ := Kd.R_ne HO_12.out BK1528.out (by decide); intro e_; exact h_ (by rw [e_]; rfl)) _; (with_reducible repeat (first | refine blk_drewN ?_ _ | refine blk_drew ?_ | refine blk_alloc ?_ _)); exact BK1528.out⟩, ⟨by repeat (first | (with_reducible first | exact HB.out | apply below_alloc | apply pw_below_drewN | apply below_drew1 | refine below_set ?_ GB52.out | refine zSet ?_ (by assumption)) | exact HB.out)⟩⟩
                       ·rw [if_neg c49] at H
                        exact absurd H (by simp)
                      ·rw [if_neg c48] at H
                       exact absurd H (by simp)
                     ·rw [if_neg c47] at H
                      exact absurd H (by simp)
                    ·rw [if_neg c46] at H
                     exact absurd H (by simp)
                   ·rw [if_neg c44] at H
                    have c44b0 : decide (x16_3 ≤ ji17) = false := decide_eq_false c44
                    clear c44
                    have H' := zA H
                    clear H
                    go_wp2
                    (try simp only [← hl12_3, ← hl13_3])
                    go_roundg k3
                    case measure => have := HJ3.out; have := HK2.out; have := HK3.out; omega
                    case rel => exact ⟨(x12_3), (y1551), (wrap64 (x14_2 - 1)), zR, H', ⟨by have := HJ3.out; have := HK2.out; have := HK3.out; omega⟩, ⟨by (try simp only [hl12_3]); (try simp only [hl13_3]); (with_reducible repeat (first | apply Kd.R_alloc | apply Kd.R_drewN | apply Kd.R_drew)); exact HO_12.out⟩, ⟨by (try simp only [hl12_3]); (try simp only [hl13_3]); (with_reducible repeat (first | apply Kd.R_alloc | apply Kd.R_drewN | apply Kd.R_drew)); exact HO_13.out⟩, ⟨by (try simp only [hl12_3]); (try simp only [hl13_3]); (with_reducible repeat (first | refine blk_drewN ?_ _ | refine blk_drew ?_ | refine blk_alloc ?_ _)); exact BK1528.out⟩, ⟨zB⟩⟩
                ·rw [if_neg c37] at H
                 exact absurd H (by simp)
               ·rw [if_neg c36] at H
                exact absurd H (by simp)
              ·rw [if_neg c33] at H
               exact absurd H (by simp)
             ·rw [if_neg c32] at H
              exact absurd H (by simp)
            ·rw [if_neg c31] at H
             have c31b0 : decide (ji17 ≤ x14_2) = false := decide_eq_false c31
             clear c31
             obtain ⟨t1543, A57, H⟩ := zD H
             obtain ⟨t1546, A58, H⟩ := zD H
             simp only [Option.some.injEq, Prod.mk.injEq] at H
             obtain ⟨rfl, rfl, rfl⟩ := H
             obtain ⟨Ao59, co59, eo59⟩ := Kd.R_slice HO_13.out
             subst eo59
             go_wp2_with (first | ((with_reducible refine gate_callee (f := 83) rfl ?_); refine gL (some 99) Try.func83 #[.slice Ao59 x13_2.length co59] ?_; (with_reducible refine (barscanref05_Trim.calls k2 _ _ x13_2 t1543 _ ?side1 ?side2 A57.out).mono ?_); (case side1 => exact zN HO_13); (case side2 => exact (Kd.R_reads' HO_13.out).2.1); rintro e w60 ⟨v1544, rfl, ho0, hb⟩; refine ⟨_, rfl, ?_⟩; have HO1545 := Aside0.mk (Kd.R_lower (Kd.R_new' (Kd.R_new' ho0 (Kd.R_lt (zO HO_12))) (Kd.R_lt (zO HO_13))) (below_size zB)); replace HO_12 := Aside0.mk (Kd.R_elder' (zO HO_12) (Kd.R_base ho0) hb); replace HO_13 := Aside0.mk (Kd.R_elder' (zO HO_13) (Kd.R_base ho0) hb); replace BK1528 := bB BK1528 hb; replace HB := bS hb; (try clear hb); (try clear ho0); obtain ⟨Ao61, co61, eo61⟩ := Kd.R_slice HO_12.out; subst eo61) | ((with_reducible refine gate_callee (f := 83) rfl ?_); refine gL (some 101) Try.func83 #[.slice Ao61 x12_2.length co61] ?_; (with_reducible refine (barscanref05_Trim.calls k2 _ _ x12_2 t1546 _ ?side1 ?side2 A58.out).mono ?_); (case side1 => exact zN HO_12); (case side2 => exact (Kd.R_reads' HO_12.out).2.1); rintro e w62 ⟨v1547, rfl, ho0, hb⟩; refine ⟨_, rfl, ?_⟩; have HO1548 := Aside0.mk (Kd.R_lower (Kd.R_new' (Kd.R_new' (Kd.R_new' ho0 (Kd.R_lt (zO HO_12))) (Kd.R_lt (zO HO_13))) (Kd.R_lt (zO HO1545))) (below_size zB)); replace HO_12 := Aside0.mk (Kd.R_elder' (zO HO_12) (Kd.R_base ho0) hb); replace HO_13 := Aside0.mk (Kd.R_elder' (zO HO_13) (Kd.R_base ho0) hb); replace HO1545 := Aside0.mk (Kd.R_elder' (zO HO1545) (Kd.R_base ho0) hb); replace BK1528 := bB BK1528 hb; replace HB := bS hb; (try clear hb); (try clear ho0)))
             go_ret3
             exact ⟨_, _, by first | rfl | (simp [errW_none, errW_some] <;> rfl) | (simp only [← hji17]; first | rfl | (simp [errW_none, errW_some] <;> rfl)) | (simp [*, errW_none, errW_some] <;> rfl), by (with_reducible repeat (first | apply Kd.R_alloc | apply Kd.R_drewN | apply Kd.R_drew)); exact Kd.R_mono HO1545.out (fun _ hk => hk.2), by (with_reducible repeat (first | apply Kd.R_alloc | apply Kd.R_drewN | apply Kd.R_drew)); exact Kd.R_mono HO1548.out (fun _ hk => hk.2), zB⟩
         ·rw [if_neg c23] at H
          exact absurd H (by simp)
        ·rw [if_neg c22] at H
         exact absurd H (by simp)
       ·rw [if_neg c21] at H
        exact absurd H (by simp)
      ·rw [if_neg c19] at H
       exact absurd H (by simp)
     ·rw [if_neg c18] at H
      exact absurd H (by simp)
/-! ### barscanref05_Monic: function 123 -/
def barscanref05_Monic.f (k : Nat) (a0_0 : Int) (a0_1 : Int) (a0_2 : Int) (l1 : List Int) : Option (List Int) := if (l1.length : Int) = 0 then (some ([] : List Int)) else (if 0 ≤ (wrap64 ((l1.length : Int) - 1)) then (if (wrap64 ((l1.length : Int) - 1)) < (l1.length : Int) then ((barscanref04_Inv.f k a0_0 a0_1 a0_2 (rd l1 (wrap64 ((l1.length : Int) - 1)))).bind fun bt1559 => ((barscanref05_Scale.f k a0_0 a0_1 a0_2 l1 bt1559.1).bind fun bt1561 => (some bt1561.1))) else (none)) else (none))
theorem barscanref05_Monic.mono : ∀ a0 a1 a2 a3 k, LeO (barscanref05_Monic.f k a0 a1 a2 a3) (barscanref05_Monic.f (k + 1) a0 a1 a2 a3) := by
 intro a0 a1 a2 a3 k
 unfold barscanref05_Monic.f
 have m0_ := @barscanref04_Inv.mono
 have m1_ := @barscanref05_Scale.mono
 exact zMo
def barscanref05_Monic.T3 : Bool × List (List Nat × List Nat) := (true, [([], []), ([], []), ([], []), ([2], [2]), ([3], [3]), ([1, 4], [1, 4]), ([5], [5]), ([0, 6], [0, 6]), ([7], [7]), ([8], [8]), ([8], [8]), ([9, 7, 0, 1, 2, 3, 4, 5, 6, 7, 8, 9], [9]), ([10, 11, 0, 1, 2, 3, 4, 5, 6, 7, 8, 9, 10, 11], [10])])
def barscanref05_Monic.B3 : List Nat := [0, 0, 0, 4, 12, 30, 62, 127, 255, 511, 511, 1023, 4095]
theorem barscanref05_Monic.tab3 : rtab .any (opsOf Try.f123 3) = barscanref05_Monic.T3 := by kernel_rfl
theorem barscanref05_Monic.bits3 : waitsOk barscanref05_Monic.T3.2 barscanref05_Monic.B3 = true := by kernel_rfl
theorem barscanref05_Monic.calls (k : Nat) (a0_0 : Int) (a0_1 : Int) (a0_2 : Int) (A1 : Option Addr) (c1 : Nat) (l1 : List Int) (r : List Int) (w : World) (hr1 : Kd.C (Kd.int .i64) w A1 l1.length l1) (hc1 : l1.length ≤ c1) (h : barscanref05_Monic.f k a0_0 a0_1 a0_2 l1 = some r) :
  Calls Try.prog 123 #[.agg #[.int .i64 a0_0, .int .i64 a0_1, .int .i64 a0_2], .slice A1 l1.length c1] w fun e w' => ∃ v0_ : Value, e = .returned (v0_) ∧ Kd.R (Kd.int .i64) 3 w' w.heap.size (fun _ => True) v0_ r ∧ Below w.heap.size w w' := by
 have hu23 := Try.underlying23
 have HR1 := Aside0.mk hr1
 have HC1 := Aside0.mk hc1
 clear hr1 hc1
 have HB := Aside0.mk (Below.refl w.heap.size w)
 have H := h
 unfold barscanref05_Monic.f at H
 clear h
 by_cases c3 : (l1.length : Int) = 0
 ·rw [if_pos c3] at H
  have c3b0 := beq_iff_eq.mpr c3
  have c3b1 := bne_eq_false_iff_eq.mpr c3
  clear c3
  obtain rfl := Option.some.inj H
  go_enter Try.func123, Try.ntmps123
  go_wp2_with (first | ((with_reducible refine gate_dst (N := 2) rfl ?_); refine zBox 2 #[.int .i64 a0_0, .int .i64 a0_1, .int .i64 a0_2] 23 ?_; clear HB; intro gb1557 w4 BK1557 GE1557 HB))
  go_ret
  exact ⟨_, zE, by first | exact Kd.R_nil _ _ _ _ _ | exact Kd.N_nil _ _ _ _ _ | exact Kd.V_nil _ _ _ _ _ | exact Kd.Q_nil _ _ _ _ _ | exact Kd.S_nil _ _ _ _ _, zB⟩
 ·rw [if_neg c3] at H
  have c3b0 := beq_eq_false_iff_ne.mpr c3
  have c3b1 := bne_iff_ne.mpr c3
  have c3b2 : ¬ (l1 = []) := fun h_ => c3 (by rw [h_]; rfl)
  obtain ⟨ji5, hji5⟩ : ∃ j_ : Int, (wrap64 ((l1.length : Int) - 1)) = j_ := ⟨_, rfl⟩
  first | rw [hji5] at H | simp only [hji5] at H
  have hji5w : (IntKind.i64.wrap ((l1.length : Int) - 1)) = ji5 := (i64_w _).trans hji5
  by_cases c6 : 0 ≤ (ji5)
  ·rw [if_pos c6] at H
   have c6b0 : decide (0 ≤ (ji5)) = true := decide_eq_true c6
   clear c6
   by_cases c7 : (ji5) < (l1.length : Int)
   ·rw [if_pos c7] at H
    have c7b0 : decide ((ji5) < (l1.length : Int)) = true := decide_eq_true c7
    clear c7
    obtain ⟨⟨t1559, t1560⟩, A8, H⟩ := zD H
    dsimp only at H
    obtain ⟨⟨t1561, t1564⟩, A9, H⟩ := zD H
    dsimp only at H
    obtain rfl := Option.some.inj H
    go_enter Try.func123, Try.ntmps123
    try go_wp2_with (first | ((with_reducible refine gate_dst (N := 2) rfl ?_); refine zBox 2 #[.int .i64 a0_0, .int .i64 a0_1, .int .i64 a0_2] 23 ?_; clear HB; intro gb1557 w10 BK1557 GE1557 HB))
    replace BK1557 := Aside0.mk (blk_drew BK1557.out)
    replace HB := Aside0.mk (below_drew1 HB.out)
    have p1558 : 0 ≤ ((ji5) : Int) := of_decide_eq_true (by first | (with_reducible assumption) | assumption)
    have q1558 : (ji5) < (l1.length : Int) := of_decide_eq_true (by first | (with_reducible assumption) | assumption)
    obtain ⟨ad1558, e1558, hx1558_0⟩ := Kd.at_int HR1.out (ji5) p1558 q1558
    have hw1558_0 := hx1558_0
    cases e1558
    replace hx1558_0 := (HB.out.cell (World.block_lt_of_cell? w _ hx1558_0)).trans hx1558_0
    replace p1558 := eq_true p1558
    replace q1558 := eq_true q1558
    refine start_ (n := 13) (S := fun w' => w'.cell? ⟨gb1557, 0, none⟩ = some (.int .i64 a0_0) ∧ w'.cell? ⟨gb1557, 1, none⟩ = some (.int .i64 a0_1) ∧ w'.cell? ⟨gb1557, 2, none⟩ = some (.int .i64 a0_2) ∧ w'.cell? (ad1558.add ((ji5)).toNat) = some (.int .i64 (rd l1 (ji5)))) (ds := []) #[false, false, false, false, false, false, false, false, false, false, false, false, false] (by kernel_rfl) rfl rfl ⟨(blk_cell BK1557.out 0).trans rfl, (blk_cell BK1557.out 1).trans rfl, (blk_cell BK1557.out 2).trans rfl, ((HB.out.cell (World.block_lt_of_cell? w _ hw1558_0)).trans hw1558_0)⟩ (fun hHeld => ?_); refine with_tabW barscanref05_Monic.tab3 barscanref05_Monic.bits3 (fun HT_ HW_ => ?_)
    generalize w10.drew = w11 at BK1557 HB hx1558_0 hHeld ⊢
    refine pU 1 (some 14) ?_
    refine pU 2 (some 15) ?_
    refine pU 3 (some 16) ?_
    refine pU 4 (some 17) ?_
    refine pU 5 (some 18) ?_
    refine tU 0 (some 13) hHeld ?_
    refine tU 6 (some 19) hHeld ?_
    refine oU 7 (some 20) (fun K hK => ?_)
    refine goes_ Try.func43 (by kernel_rfl) rfl #[.agg #[.int .i64 a0_0, .int .i64 a0_1, .int .i64 a0_2], .int .i64 (rd l1 (ji5))] (by rfl) rfl rfl (by (try simp only [List.map_toArray, List.map_cons, List.map_nil]); first | done | (simp only [hji5]; rfl) | rfl | (simp only [List.length_drop, List.length_take]; rfl)) ?_
    with_reducible refine (barscanref04_Inv.calls k a0_0 a0_1 a0_2 (rd l1 (ji5)) t1559 t1560 _ A8.out).mono ?_
    rintro e w12 ⟨rfl, hb⟩
    refine ⟨_, rfl, ?_⟩
    replace BK1557 := bB BK1557 hb
    replace HB := bS hb
    (try clear hb)
    (try clear hb2)
    (try clear hk)
    (try clear hi)
    refine hK.out _ _ ⟨(blk_cell BK1557.out 0).trans rfl, (blk_cell BK1557.out 1).trans rfl, (blk_cell BK1557.out 2).trans rfl, ((HB.out.cell (World.block_lt_of_cell? w _ hw1558_0)).trans hw1558_0)⟩ (fun hHeld => ?_)
    clear hK K
    refine nU ?_
    refine pU 8 (some 12) ?_
    refine pU 9 (some 21) ?_
    refine pU 10 (some 22) ?_
    refine pU 11 (some 5) ?_
    refine pU 12 (some 6) ?_
    refine dU ?_
    (try clear z1557_0 z1557_1 z1557_2 f1557_0 f1557_1 f1557_2)
    obtain ⟨z1557_0, z1557_1, z1557_2, f1557_0, f1557_1, f1557_2⟩ := cz3 BK1557
    try go_wp2_with (first | ((with_reducible refine gate_callee (f := 78) rfl ?_); refine gL (some 27) Try.func78 #[.agg #[.int .i64 a0_0, .int .i64 a0_1, .int .i64 a0_2], .slice (some ad1558) l1.length c1, .int .i64 t1559] ?_; (with_reducible refine (barscanref05_Scale.calls k a0_0 a0_1 a0_2 _ _ l1 t1559 t1561 t1564 _ ?side1 ?side2 A9.out).mono ?_); (case side1 => exact zN HR1); (case side2 => exact HC1.out); rintro e w14 ⟨v1562, rfl, ho0, hb⟩; refine ⟨_, rfl, ?_⟩; have HO1563 := Aside0.mk (Kd.R_lower ho0 (below_size zB)); replace BK1557 := bB BK1557 hb; replace HB := bS hb; (try clear hb); (try clear ho0)))
    go_ret
    exact ⟨_, by first | rfl | (simp [errW_none, errW_some] <;> rfl) | (simp only [← hji5]; first | rfl | (simp [errW_none, errW_some] <;> rfl)) | (simp [*, errW_none, errW_some] <;> rfl), by (with_reducible repeat (first | apply Kd.R_alloc | apply Kd.R_drewN | apply Kd.R_drew)); exact HO1563.out, zB⟩
   ·rw [if_neg c7] at H
    exact absurd H (by simp)
  ·rw [if_neg c6] at H
   exact absurd H (by simp)
/-! ### barscanref05_GCD: function 69 -/
mutual
def barscanref05_GCD.j0 : Nat → List Int → List Int → Bool → Int → Int → Int → Option (List Int × Int)
 | 0, _, _, _, _, _, _ => none
 | k + 1, x1, x2, x22, x1566000, x1566001, x1566002 => if x22 = true then (some (([] : List Int), 1)) else (barscanref05_GCD.l0 k x1 x2 x1566000 x1566001 x1566002)
def barscanref05_GCD.l0 : Nat → List Int → List Int → Int → Int → Int → Option (List Int × Int)
 | 0, _, _, _, _, _ => none
 | k + 1, x8, x9, x1566000, x1566001, x1566002 => if (x9.length : Int) > 0 then ((barscanref05_DivMod.f k x1566000 x1566001 x1566002 x8 x9).bind fun bt1568 => (barscanref05_GCD.l0 k x9 bt1568.2.1 x1566000 x1566001 x1566002)) else ((barscanref05_Monic.f k x1566000 x1566001 x1566002 x8).bind fun t1575 => (some (t1575, 0)))
end
def barscanref05_GCD.f (k : Nat) (a0_0 : Int) (a0_1 : Int) (a0_2 : Int) (l1 : List Int) (l2 : List Int) : Option (List Int × Int) := (barscanref05_Valid.f k a0_0 a0_1 a0_2 l1).bind fun t1566 => (if t1566 = true then ((barscanref05_Valid.f k a0_0 a0_1 a0_2 l2).bind fun t1567 => (barscanref05_GCD.j0 k l1 l2 (!t1567) a0_0 a0_1 a0_2)) else (barscanref05_GCD.j0 k l1 l2 true a0_0 a0_1 a0_2))
theorem barscanref05_GCD.mono_l : ∀ k, (∀ y0 y1 y2 y3 y4 y5, LeO (barscanref05_GCD.j0 k y0 y1 y2 y3 y4 y5) (barscanref05_GCD.j0 (k + 1) y0 y1 y2 y3 y4 y5)) ∧ (∀ y0 y1 y2 y3 y4, LeO (barscanref05_GCD.l0 k y0 y1 y2 y3 y4) (barscanref05_GCD.l0 (k + 1) y0 y1 y2 y3 y4))
 | 0 => ⟨fun _ _ _ _ _ _ r h => by simp [barscanref05_GCD.j0] at h, fun _ _ _ _ _ r h => by simp [barscanref05_GCD.l0] at h⟩
 | k + 1 => by
  obtain ⟨ih0, ih1⟩ := barscanref05_GCD.mono_l k
  refine ⟨?_, ?_⟩
  ·intro y0 y1 y2 y3 y4 y5
   unfold barscanref05_GCD.j0
   have m0_ := @barscanref05_DivMod.mono
   have m1_ := @barscanref05_Monic.mono
   have m2_ := @barscanref05_Valid.mono
   exact zMo
  ·intro y0 y1 y2 y3 y4
   unfold barscanref05_GCD.l0
   have m0_ := @barscanref05_DivMod.mono
   have m1_ := @barscanref05_Monic.mono
   have m2_ := @barscanref05_Valid.mono
   exact zMo
theorem barscanref05_GCD.mono : ∀ a0 a1 a2 a3 a4 k, LeO (barscanref05_GCD.f k a0 a1 a2 a3 a4) (barscanref05_GCD.f (k + 1) a0 a1 a2 a3 a4) := by
 intro a0 a1 a2 a3 a4 k
 obtain ⟨ih0, ih1⟩ := barscanref05_GCD.mono_l k
 unfold barscanref05_GCD.f
 have m0_ := @barscanref05_DivMod.mono
 have m1_ := @barscanref05_Monic.mono
 have m2_ := @barscanref05_Valid.mono
 exact zMo
theorem barscanref05_GCD.calls (k : Nat) (a0_0 : Int) (a0_1 : Int) (a0_2 : Int) (P1_ : Nat → Prop) (A1 : Option Addr) (c1 : Nat) (l1 : List Int) (P2_ : Nat → Prop) (A2 : Option Addr) (c2 : Nat) (l2 : List Int) (r1 : List Int) (r2 : Int) (w : World) (hs1 : Kd.V (Kd.int .i64) 3 w w.heap.size (fun k_ => P1_ k_) (.slice A1 l1.length c1) l1) (hs2 : Kd.V (Kd.int .i64) 3 w w.heap.size (fun k_ => P2_ k_) (.slice A2 l2.length c2) l2) (h : barscanref05_GCD.f k a0_0 a0_1 a0_2 l1 l2 = some (r1, r2)) :
  Calls Try.prog 69 #[.agg #[.int .i64 a0_0, .int .i64 a0_1, .int .i64 a0_2], .slice A1 l1.length c1, .slice A2 l2.length c2] w fun e w' => ∃ v0_ : Value, e = .returned (.tuple #[v0_, .int .i64 r2]) ∧ Kd.R (Kd.int .i64) 3 w' w.heap.size (fun k_ => (w.heap.size ≤ k_)) v0_ r1 ∧ Below w.heap.size w w' := by
 have hu23 := Try.underlying23
 have HO1 := Aside0.mk (show Kd.V (Kd.int .i64) 3 w w.heap.size (fun k_ => ((P1_ k_ ∨ P2_ k_) ∨ w.heap.size ≤ k_)) (.slice A1 l1.length c1) l1 from Kd.V_mono hs1 (fun k_ hk => .inl (.inl hk)))
 have HO2 := Aside0.mk (show Kd.V (Kd.int .i64) 3 w w.heap.size (fun k_ => ((P1_ k_ ∨ P2_ k_) ∨ w.heap.size ≤ k_)) (.slice A2 l2.length c2) l2 from Kd.V_mono hs2 (fun k_ hk => .inl (.inr hk)))
 have HB := Aside0.mk (Below.refl w.heap.size w)
 have H := h
 unfold barscanref05_GCD.f at H
 clear h
 have HC4 := Aside0.mk H
 clear H
 go_enter Try.func69, Try.ntmps69
 go_upto_region 1 with (first | ((with_reducible refine gate_dst (N := 3) rfl ?_); refine box_event ?hg (N := 3) ?hd (cs := #[.int .i64 a0_0, .int .i64 a0_1, .int .i64 a0_2]) (t := 23) ?hr ?_; (case hd => rfl); (case hg => rfl); (case hr => first | (go_simp; done) | (go_simp; rfl)); intro gb1565 hg w5 hbox hb; replace HO1 := Aside0.mk (Kd.V_below (Kd.V_elderB (by (with_reducible repeat (first | apply Kd.V_alloc | apply Kd.V_drewN | apply Kd.V_drew)); exact HO1.out) gb1565 (Nat.le_of_eq hg.symm)) hb); replace HO2 := Aside0.mk (Kd.V_below (Kd.V_elderB (by (with_reducible repeat (first | apply Kd.V_alloc | apply Kd.V_drewN | apply Kd.V_drew)); exact HO2.out) gb1565 (Nat.le_of_eq hg.symm)) hb); have BK1565 := Aside0.mk (hbox); have GE1565 := gE hg; replace HB := bS hb; clear hb hbox hg))
 (try simp only [Act.put, List.setIfInBounds_toArray, List.set_cons_zero, List.set_cons_succ])
 go_cut [22] (fun v22 wc => ∃ (kq : Nat) (x22_3 : Bool), v22 = .bool x22_3 ∧ Aside0 (barscanref05_GCD.j0 kq l1 l2 x22_3 a0_0 a0_1 a0_2 = some (r1, r2)) ∧ Aside0 (kq ≤ k) ∧ Aside0 (Kd.V (Kd.int .i64) 3 wc w.heap.size (fun k_ => ((P1_ k_ ∨ P2_ k_) ∨ w.heap.size ≤ k_) ∧ k_ ≠ gb1565) (.slice A1 l1.length c1) l1) ∧ Aside0 (Kd.V (Kd.int .i64) 3 wc w.heap.size (fun k_ => ((P1_ k_ ∨ P2_ k_) ∨ w.heap.size ≤ k_) ∧ k_ ≠ gb1565) (.slice A2 l2.length c2) l2) ∧ Aside0 (wc.heap[gb1565]? = some (.cells #[.int .i64 a0_0, .int .i64 a0_1, .int .i64 a0_2] 23 (0, 0))) ∧ Aside0 (Below w.heap.size w wc))
 case first =>
  have H := HC4.out
  clear HC4
  obtain ⟨t1566, A6, H⟩ := zD H
  by_cases c7 : t1566 = true
  ·subst c7
   rw [if_pos rfl] at H
   obtain ⟨t1567, A8, H⟩ := zD H
   have H' := zA H
   clear H
   (try clear z1565_0 z1565_1 z1565_2 f1565_0 f1565_1 f1565_2)
   obtain ⟨z1565_0, z1565_1, z1565_2, f1565_0, f1565_1, f1565_2⟩ := cz3 BK1565
   go_wp2_with (first | ((with_reducible refine gate_callee (f := 82) rfl ?_); refine gL (some 15) Try.func82 #[.agg #[.int .i64 a0_0, .int .i64 a0_1, .int .i64 a0_2], .slice A1 l1.length c1] ?_; (with_reducible refine zCall (barscanref05_Valid.calls k a0_0 a0_1 a0_2 _ _ l1 true _ ?side1 ?side2 A6.out) ?_); (case side1 => repeat (first | exact (Kd.V_reads' HO1.out).2.2 | (with_reducible refine Kd.C_alloc ?_ _) | (with_reducible refine Kd.C_drewN ?_ _) | (with_reducible refine Kd.C_drew ?_))); (case side2 => exact (Kd.V_reads' HO1.out).2.1); intro w10 hb; replace HO1 := Aside0.mk (Kd.V_below (by (with_reducible repeat (first | apply Kd.V_alloc | apply Kd.V_drewN | apply Kd.V_drew)); exact HO1.out) hb); replace HO2 := Aside0.mk (Kd.V_below (by (with_reducible repeat (first | apply Kd.V_alloc | apply Kd.V_drewN | apply Kd.V_drew)); exact HO2.out) hb); replace BK1565 := bB BK1565 hb; replace HB := bS hb; (try clear hb); (try clear z1565_0 z1565_1 z1565_2 f1565_0 f1565_1 f1565_2); obtain ⟨z1565_0, z1565_1, z1565_2, f1565_0, f1565_1, f1565_2⟩ := cz3 BK1565) | (go_at_call 82; (with_reducible refine (barscanref05_Valid.calls k a0_0 a0_1 a0_2 _ _ l2 t1567 _ ?side1 ?side2 A8.out).mono ?_); (case side1 => repeat (first | exact (Kd.V_reads' HO2.out).2.2 | (with_reducible refine Kd.C_alloc ?_ _) | (with_reducible refine Kd.C_drewN ?_ _) | (with_reducible refine Kd.C_drew ?_))); (case side2 => exact (Kd.V_reads' HO2.out).2.1); rintro e w12 ⟨rfl, hb⟩; replace HO1 := Aside0.mk (Kd.V_below (by (with_reducible repeat (first | apply Kd.V_alloc | apply Kd.V_drewN | apply Kd.V_drew)); exact HO1.out) hb); replace HO2 := Aside0.mk (Kd.V_below (by (with_reducible repeat (first | apply Kd.V_alloc | apply Kd.V_drewN | apply Kd.V_drew)); exact HO2.out) hb); replace BK1565 := bB BK1565 hb; replace HB := bS hb; (try clear hb)))
   go_meet
   case rel => exact ⟨_, (!t1567), zR, H', zL, ⟨by (with_reducible repeat (first | apply Kd.V_alloc | apply Kd.V_drewN | apply Kd.V_drew)); exact HO1.out⟩, ⟨by (with_reducible repeat (first | apply Kd.V_alloc | apply Kd.V_drewN | apply Kd.V_drew)); exact HO2.out⟩, ⟨zK BK1565⟩, ⟨zB⟩⟩
  ·replace c7 := Bool.eq_false_iff.mpr c7
   subst c7
   rw [if_neg (show ¬ (false = true) by decide)] at H
   have H' := zA H
   clear H
   (try clear z1565_0 z1565_1 z1565_2 f1565_0 f1565_1 f1565_2)
   obtain ⟨z1565_0, z1565_1, z1565_2, f1565_0, f1565_1, f1565_2⟩ := cz3 BK1565
   go_wp2_with (first | ((with_reducible refine gate_callee (f := 82) rfl ?_); refine gL (some 15) Try.func82 #[.agg #[.int .i64 a0_0, .int .i64 a0_1, .int .i64 a0_2], .slice A1 l1.length c1] ?_; (with_reducible refine zCall (barscanref05_Valid.calls k a0_0 a0_1 a0_2 _ _ l1 false _ ?side1 ?side2 A6.out) ?_); (case side1 => repeat (first | exact (Kd.V_reads' HO1.out).2.2 | (with_reducible refine Kd.C_alloc ?_ _) | (with_reducible refine Kd.C_drewN ?_ _) | (with_reducible refine Kd.C_drew ?_))); (case side2 => exact (Kd.V_reads' HO1.out).2.1); intro w14 hb; replace HO1 := Aside0.mk (Kd.V_below (by (with_reducible repeat (first | apply Kd.V_alloc | apply Kd.V_drewN | apply Kd.V_drew)); exact HO1.out) hb); replace HO2 := Aside0.mk (Kd.V_below (by (with_reducible repeat (first | apply Kd.V_alloc | apply Kd.V_drewN | apply Kd.V_drew)); exact HO2.out) hb); replace BK1565 := bB BK1565 hb; replace HB := bS hb; (try clear hb)))
   go_meet
   case rel => exact ⟨_, (true), zR, H', zL, ⟨by (with_reducible repeat (first | apply Kd.V_alloc | apply Kd.V_drewN | apply Kd.V_drew)); exact HO1.out⟩, ⟨by (with_reducible repeat (first | apply Kd.V_alloc | apply Kd.V_drewN | apply Kd.V_drew)); exact HO2.out⟩, ⟨zK BK1565⟩, ⟨zB⟩⟩
 case rest =>
  clear HC4
  try clear c1
  try clear c2
  try clear p2
  try clear c6
  try clear c7
  try clear c8
  try clear z1565_0 z1565_1 z1565_2 f1565_0 f1565_1 f1565_2
  obtain ⟨kq, x22_3, rfl, HA, HJ3, HO_1, HO_2, BK1565, HB⟩ := hcut
  cases kq with
  | zero => exact absurd HA.out (by simp [barscanref05_GCD.j0])
  | succ kj3 =>
   have H := HA.out
   clear HA
   simp only [barscanref05_GCD.j0] at H
   by_cases c15 : x22_3 = true
   ·subst c15
    rw [if_pos rfl] at H
    simp only [Option.some.injEq, Prod.mk.injEq] at H
    obtain ⟨rfl, rfl⟩ := H
    go_wp2
    go_ret2
    exact ⟨_, zE, by first | exact Kd.R_nil _ _ _ _ _ | exact Kd.N_nil _ _ _ _ _ | exact Kd.V_nil _ _ _ _ _ | exact Kd.Q_nil _ _ _ _ _ | exact Kd.S_nil _ _ _ _ _, zB⟩
   ·replace c15 := Bool.eq_false_iff.mpr c15
    subst c15
    rw [if_neg (show ¬ (false = true) by decide)] at H
    have H' := zA H
    clear H
    go_wp2
    go_loopg [8, 9] kj3 (fun kq v8 v9 w' => ∃ (x8_2 : List Int) (x9_2 : List Int), Aside0 (barscanref05_GCD.l0 kq x8_2 x9_2 a0_0 a0_1 a0_2 = some (r1, r2)) ∧ Aside0 (kq ≤ kj3) ∧ Aside0 (Kd.V (Kd.int .i64) 3 w' w.heap.size (fun k_ => ((P1_ k_ ∨ P2_ k_) ∨ w.heap.size ≤ k_) ∧ k_ ≠ gb1565) v8 x8_2) ∧ Aside0 (Kd.V (Kd.int .i64) 3 w' w.heap.size (fun k_ => ((P1_ k_ ∨ P2_ k_) ∨ w.heap.size ≤ k_) ∧ k_ ≠ gb1565) v9 x9_2) ∧ Aside0 (w'.heap[gb1565]? = some (.cells #[.int .i64 a0_0, .int .i64 a0_1, .int .i64 a0_2] 23 (0, 0))) ∧ Aside0 (Below w.heap.size w w'))
    case atStart => exact ⟨(l1), (l2), H', ⟨Nat.le_refl _⟩, ⟨by (with_reducible repeat (first | apply Kd.V_alloc | apply Kd.V_drewN | apply Kd.V_drew)); exact HO_1.out⟩, ⟨by (with_reducible repeat (first | apply Kd.V_alloc | apply Kd.V_drewN | apply Kd.V_drew)); exact HO_2.out⟩, ⟨zK BK1565⟩, ⟨zB⟩⟩
    case round =>
     clear H'
     try clear c1
     try clear c2
     try clear p2
     try clear c6
     try clear c7
     try clear c8
     try clear c15
     try clear z1565_0 z1565_1 z1565_2 f1565_0 f1565_1 f1565_2
     try clear p2
     obtain ⟨x8_2, x9_2, HA, HK2, HO_8, HO_9, BK1565, HB⟩ := hrel
     cases gk with
     | zero => exact absurd HA.out (by simp [barscanref05_GCD.l0])
     | succ k2 =>
      have H := HA.out
      clear HA
      simp only [barscanref05_GCD.l0] at H
      by_cases c16 : (x9_2.length : Int) > 0
      ·rw [if_pos c16] at H
       have c16b0 : decide (0 < (x9_2.length : Int)) = true := decide_eq_true c16
       have c16b1 : decide (0 < x9_2.length) = true := decide_eq_true (by omega)
       clear c16
       obtain ⟨⟨t1568, t1571, t1574⟩, A17, H⟩ := zD H
       dsimp only at H
       have H' := zA H
       clear H
       obtain ⟨Ao18, co18, eo18⟩ := Kd.V_slice HO_9.out
       subst eo18
       (try clear z1565_0 z1565_1 z1565_2 f1565_0 f1565_1 f1565_2)
       obtain ⟨z1565_0, z1565_1, z1565_2, f1565_0, f1565_1, f1565_2⟩ := cz3 BK1565
       obtain ⟨Ao20, co20, eo20⟩ := Kd.V_slice HO_8.out
       subst eo20
       go_wp2_with (first | ((with_reducible refine gate_callee (f := 67) rfl ?_); refine gL (some 32) Try.func67 #[.agg #[.int .i64 a0_0, .int .i64 a0_1, .int .i64 a0_2], .slice Ao20 x8_2.length co20, .slice Ao18 x9_2.length co18] ?_; (with_reducible refine (barscanref05_DivMod.calls k2 a0_0 a0_1 a0_2 _ _ x8_2 _ _ x9_2 t1568 t1571 t1574 _ ?side1 ?side2 ?side3 ?side4 A17.out).mono ?_); (case side1 => repeat (first | exact (Kd.V_reads' HO_8.out).2.2 | (with_reducible refine Kd.C_alloc ?_ _) | (with_reducible refine Kd.C_drewN ?_ _) | (with_reducible refine Kd.C_drew ?_))); (case side2 => exact (Kd.V_reads' HO_8.out).2.1); (case side3 => repeat (first | exact (Kd.V_reads' HO_9.out).2.2 | (with_reducible refine Kd.C_alloc ?_ _) | (with_reducible refine Kd.C_drewN ?_ _) | (with_reducible refine Kd.C_drew ?_))); (case side4 => exact (Kd.V_reads' HO_9.out).2.1); rintro e w21 ⟨v1569, v1572, rfl, ho0, ho1, hb⟩; refine ⟨_, rfl, ?_⟩; replace HO_8 := Aside0.mk (Kd.V_mono (Kd.V_told (Kd.V_told (Kd.V_old (by (with_reducible repeat (first | apply Kd.V_alloc | apply Kd.V_drewN | apply Kd.V_drew)); exact HO_8.out) hb) (Kd.R_base ho0)) (Kd.R_base ho1)) (fun _ h_ => h_.1)); replace HO_9 := Aside0.mk (Kd.V_mono (Kd.V_told (Kd.V_told (Kd.V_old (by (with_reducible repeat (first | apply Kd.V_alloc | apply Kd.V_drewN | apply Kd.V_drew)); exact HO_9.out) hb) (Kd.R_base ho0)) (Kd.R_base ho1)) (fun _ h_ => h_.1)); have HO1570 := Aside0.mk (Kd.R_lower (Kd.R_newM (M := fun k_ => (w.heap.size ≤ k_)) ho0 (below_size zB) (fun k_ h_ => h_)) (below_size zB)); have HO1573 := Aside0.mk (Kd.R_lower (Kd.R_newM (M := fun k_ => (w.heap.size ≤ k_)) ho1 (below_size zB) (fun k_ h_ => h_)) (below_size zB)); replace BK1565 := bB BK1565 hb; replace HB := bS hb; (try clear hb); (try clear ho0); (try clear ho1)))
       go_roundg k2
       case measure => have := HJ3.out; have := HK2.out; omega
       case rel => exact ⟨(x9_2), (t1571), H', ⟨by have := HJ3.out; have := HK2.out; omega⟩, ⟨by (with_reducible repeat (first | apply Kd.V_alloc | apply Kd.V_drewN | apply Kd.V_drew)); exact Kd.V_mono HO_9.out (fun _ hk => ⟨hk.1.1.1, hk.1.1.2⟩)⟩, ⟨Kd.V_mono (Kd.R_V (by (with_reducible repeat (first | apply Kd.R_alloc | apply Kd.R_drewN | apply Kd.R_drew)); exact Kd.R_mono (ok' := fun k_ => w.heap.size ≤ k_ ∧ k_ ≠ gb1565) (Kd.R_types HO1573.out BK1565.out (by decide)) (fun _ hk => ⟨hk.1.1, hk.2⟩))) (fun k_ hk => by first | exact ⟨(.inr (hk.1)), hk.2⟩ | exact (.inr (hk)))⟩, ⟨zK BK1565⟩, ⟨zB⟩⟩
      ·rw [if_neg c16] at H
       have c16b0 : decide (0 < (x9_2.length : Int)) = false := decide_eq_false c16
       have c16b1 : decide (0 < x9_2.length) = false := decide_eq_false (by omega)
       clear c16
       obtain ⟨t1575, A22, H⟩ := zD H
       simp only [Option.some.injEq, Prod.mk.injEq] at H
       obtain ⟨rfl, rfl⟩ := H
       obtain ⟨Ao23, co23, eo23⟩ := Kd.V_slice HO_9.out
       subst eo23
       (try clear z1565_0 z1565_1 z1565_2 f1565_0 f1565_1 f1565_2)
       obtain ⟨z1565_0, z1565_1, z1565_2, f1565_0, f1565_1, f1565_2⟩ := cz3 BK1565
       obtain ⟨Ao25, co25, eo25⟩ := Kd.V_slice HO_8.out
       subst eo25
       go_wp2_with (first | ((with_reducible refine gate_callee (f := 123) rfl ?_); refine gL (some 40) Try.func123 #[.agg #[.int .i64 a0_0, .int .i64 a0_1, .int .i64 a0_2], .slice Ao25 x8_2.length co25] ?_; (with_reducible refine (barscanref05_Monic.calls k2 a0_0 a0_1 a0_2 _ _ x8_2 t1575 _ ?side1 ?side2 A22.out).mono ?_); (case side1 => repeat (first | exact (Kd.V_reads' HO_8.out).2.2 | (with_reducible refine Kd.C_alloc ?_ _) | (with_reducible refine Kd.C_drewN ?_ _) | (with_reducible refine Kd.C_drew ?_))); (case side2 => exact (Kd.V_reads' HO_8.out).2.1); rintro e w26 ⟨v1576, rfl, ho0, hb⟩; refine ⟨_, rfl, ?_⟩; replace HO_8 := Aside0.mk (Kd.V_elder' (by (with_reducible repeat (first | apply Kd.V_alloc | apply Kd.V_drewN | apply Kd.V_drew)); exact HO_8.out) (Kd.R_base ho0) hb); replace HO_9 := Aside0.mk (Kd.V_elder' (by (with_reducible repeat (first | apply Kd.V_alloc | apply Kd.V_drewN | apply Kd.V_drew)); exact HO_9.out) (Kd.R_base ho0) hb); have HO1577 := Aside0.mk (Kd.R_lower (Kd.R_newM (M := fun k_ => (w.heap.size ≤ k_)) ho0 (below_size zB) (fun k_ h_ => h_)) (below_size zB)); replace BK1565 := bB BK1565 hb; replace HB := bS hb; (try clear hb); (try clear ho0)))
       go_ret2
       exact ⟨_, zE, by (with_reducible repeat (first | apply Kd.R_alloc | apply Kd.R_drewN | apply Kd.R_drew)); exact Kd.R_mono HO1577.out (fun _ hk => hk.1), zB⟩
end Go.Proofs.Ytlhaclammaaabaa.Pg
