-- Written by a program of this session over the print of the kit.
import Derived.Test.YtlhaclammaaabaaY
import Derived.Test.YtlhaclammaaabaaB1
namespace Go.Proofs.Ytlhaclammaaabaa.Pg
open Go.RowKit Go.Proofs.YtlhaclammaaabaaW.PrintWords Go.Proofs.YtlhaclammaaabaaW.PrintLast Go.Proofs.YtlhaclammaaabaaW.PrintMore
attribute [local go_sem] max2_int min2_int max_two min_two max_three min_three max_four min_four
set_option linter.unusedVariables false
set_option maxHeartbeats 8000000
set_option maxRecDepth 100000
set_option linter.unusedSimpArgs false
/-! ### barscanref05_Mul: function 63 -/
mutual
def barscanref05_Mul.j0 : Nat → List Int → List Int → Bool → Int → Int → Int → Option (List Int × Int)
 | 0, _, _, _, _, _, _ => none
 | k + 1, x1, x2, x20, x1396000, x1396001, x1396002 => if x20 = true then (some (([] : List Int), 1)) else (if (x1.length : Int) = 0 then (barscanref05_Mul.j1 k x1 x2 true x1396000 x1396001 x1396002) else (barscanref05_Mul.j1 k x1 x2 ((x2.length : Int) == 0) x1396000 x1396001 x1396002))
def barscanref05_Mul.j1 : Nat → List Int → List Int → Bool → Int → Int → Int → Option (List Int × Int)
 | 0, _, _, _, _, _, _ => none
 | k + 1, x1, x2, x28, x1396000, x1396001, x1396002 => if x28 = true then (some (([] : List Int), 0)) else (if (wrap64 ((wrap64 ((x1.length : Int) + (x2.length : Int))) - 2)) > 4096 then (some (([] : List Int), 4)) else (if 0 ≤ (wrap64 ((wrap64 ((x1.length : Int) + (x2.length : Int))) - 1)) then (if (wrap64 ((wrap64 ((x1.length : Int) + (x2.length : Int))) - 1) : Int).toNat ≤ 35184372088832 then (barscanref05_Mul.l0 k x1 x2 (List.replicate (wrap64 ((wrap64 ((x1.length : Int) + (x2.length : Int))) - 1) : Int).toNat 0) 0 x1396000 x1396001 x1396002) else (none)) else (none)))
def barscanref05_Mul.l0 : Nat → List Int → List Int → List Int → Int → Int → Int → Int → Option (List Int × Int)
 | 0, _, _, _, _, _, _, _ => none
 | k + 1, x1, x2, x8, x9, x1396000, x1396001, x1396002 => if x9 < (x1.length : Int) then (barscanref05_Mul.l1 k x1 x2 x8 x9 0 x1396000 x1396001 x1396002) else ((barscanref05_Trim.f k x8).bind fun t1401 => (some (t1401, 0)))
def barscanref05_Mul.l1 : Nat → List Int → List Int → List Int → Int → Int → Int → Int → Int → Option (List Int × Int)
 | 0, _, _, _, _, _, _, _, _ => none
 | k + 1, x1, x2, x8, x9, x10, x1396000, x1396001, x1396002 => if x10 < (x2.length : Int) then (if 0 ≤ (wrap64 (x9 + x10)) then (if (wrap64 (x9 + x10)) < (x8.length : Int) then (if 0 ≤ x9 then (if x9 < (x1.length : Int) then (if 0 ≤ x10 then ((barscanref05_times.f k x1396000 x1396001 x1396002 (rd x1 x9) (rd x2 x10)).bind fun t1407 => ((barscanref05_plus.f x1396000 x1396001 x1396002 (rd x8 (wrap64 (x9 + x10))) t1407).bind fun t1408 => (barscanref05_Mul.l1 k x1 x2 (x8.set ((wrap64 (x9 + x10)) : Int).toNat t1408) x9 (wrap64 (x10 + 1)) x1396000 x1396001 x1396002))) else (none)) else (none)) else (none)) else (none)) else (none)) else (barscanref05_Mul.l0 k x1 x2 x8 (wrap64 (x9 + 1)) x1396000 x1396001 x1396002)
end
def barscanref05_Mul.f (k : Nat) (a0_0 : Int) (a0_1 : Int) (a0_2 : Int) (l1 : List Int) (l2 : List Int) : Option (List Int × Int) := (barscanref05_Valid.f k a0_0 a0_1 a0_2 l1).bind fun t1396 => (if t1396 = true then ((barscanref05_Valid.f k a0_0 a0_1 a0_2 l2).bind fun t1397 => (barscanref05_Mul.j0 k l1 l2 (!t1397) a0_0 a0_1 a0_2)) else (barscanref05_Mul.j0 k l1 l2 true a0_0 a0_1 a0_2))
theorem barscanref05_Mul.mono_l : ∀ k, (∀ y0 y1 y2 y3 y4 y5, LeO (barscanref05_Mul.j0 k y0 y1 y2 y3 y4 y5) (barscanref05_Mul.j0 (k + 1) y0 y1 y2 y3 y4 y5)) ∧ (∀ y0 y1 y2 y3 y4 y5, LeO (barscanref05_Mul.j1 k y0 y1 y2 y3 y4 y5) (barscanref05_Mul.j1 (k + 1) y0 y1 y2 y3 y4 y5)) ∧ (∀ y0 y1 y2 y3 y4 y5 y6, LeO (barscanref05_Mul.l0 k y0 y1 y2 y3 y4 y5 y6) (barscanref05_Mul.l0 (k + 1) y0 y1 y2 y3 y4 y5 y6)) ∧ (∀ y0 y1 y2 y3 y4 y5 y6 y7, LeO (barscanref05_Mul.l1 k y0 y1 y2 y3 y4 y5 y6 y7) (barscanref05_Mul.l1 (k + 1) y0 y1 y2 y3 y4 y5 y6 y7))
 | 0 => ⟨fun _ _ _ _ _ _ r h => by simp [barscanref05_Mul.j0] at h, fun _ _ _ _ _ _ r h => by simp [barscanref05_Mul.j1] at h, fun _ _ _ _ _ _ _ r h => by simp [barscanref05_Mul.l0] at h, fun _ _ _ _ _ _ _ _ r h => by simp [barscanref05_Mul.l1] at h⟩
 | k + 1 => by
  obtain ⟨ih0, ih1, ih2, ih3⟩ := barscanref05_Mul.mono_l k
  refine ⟨?_, ?_, ?_, ?_⟩
  ·intro y0 y1 y2 y3 y4 y5
   unfold barscanref05_Mul.j0
   have m0_ := @barscanref05_Trim.mono
   have m1_ := @barscanref05_Valid.mono
   have m2_ := @barscanref05_times.mono
   exact zMo
  ·intro y0 y1 y2 y3 y4 y5
   unfold barscanref05_Mul.j1
   have m0_ := @barscanref05_Trim.mono
   have m1_ := @barscanref05_Valid.mono
   have m2_ := @barscanref05_times.mono
   exact zMo
  ·intro y0 y1 y2 y3 y4 y5 y6
   unfold barscanref05_Mul.l0
   have m0_ := @barscanref05_Trim.mono
   have m1_ := @barscanref05_Valid.mono
   have m2_ := @barscanref05_times.mono
   exact zMo
  ·intro y0 y1 y2 y3 y4 y5 y6 y7
   unfold barscanref05_Mul.l1
   have m0_ := @barscanref05_Trim.mono
   have m1_ := @barscanref05_Valid.mono
   have m2_ := @barscanref05_times.mono
   exact zMo
theorem barscanref05_Mul.mono : ∀ a0 a1 a2 a3 a4 k, LeO (barscanref05_Mul.f k a0 a1 a2 a3 a4) (barscanref05_Mul.f (k + 1) a0 a1 a2 a3 a4) := by
 intro a0 a1 a2 a3 a4 k
 obtain ⟨ih0, ih1, ih2, ih3⟩ := barscanref05_Mul.mono_l k
 unfold barscanref05_Mul.f
 have m0_ := @barscanref05_Trim.mono
 have m1_ := @barscanref05_Valid.mono
 have m2_ := @barscanref05_times.mono
 exact zMo
def barscanref05_Mul.T14 : Bool × List (List Nat × List Nat) := (true, [([], []), ([], []), ([], []), ([1, 2], [1, 2]), ([], []), ([], []), ([], []), ([], []), ([6, 7], [6, 7]), ([5, 8], [5, 8]), ([9], [9]), ([], []), ([], []), ([], []), ([12, 13], [12, 13]), ([14], [14]), ([], []), ([], []), ([16, 17], [16, 17]), ([18], [18]), ([11, 15, 19], [11, 15, 19]), ([4, 10, 20, 20], [4, 10, 20]), ([0, 3, 0, 1, 2, 3, 4, 5, 6, 7, 8, 9, 10, 11, 12, 13, 14, 15, 16, 17, 18, 19, 20, 21], [0, 3]), ([22, 21, 21, 0, 1, 2, 3, 4, 5, 6, 7, 8, 9, 10, 11, 12, 13, 14, 15, 16, 17, 18, 19, 20, 21], [21, 22])])
def barscanref05_Mul.B14 : List Nat := [0, 0, 0, 6, 0, 0, 0, 0, 192, 480, 992, 0, 0, 0, 12288, 28672, 0, 0, 196608, 458752, 1046528, 2097136, 4194303, 8388607]
theorem barscanref05_Mul.tab14 : rtab .any (opsOf Try.f63 14) = barscanref05_Mul.T14 := by kernel_rfl
theorem barscanref05_Mul.bits14 : waitsOk barscanref05_Mul.T14.2 barscanref05_Mul.B14 = true := by kernel_rfl
theorem barscanref05_Mul.calls (k : Nat) (a0_0 : Int) (a0_1 : Int) (a0_2 : Int) (A1 : Option Addr) (c1 : Nat) (l1 : List Int) (A2 : Option Addr) (c2 : Nat) (l2 : List Int) (r1 : List Int) (r2 : Int) (w : World) (hr1 : Kd.C (Kd.int .i64) w A1 l1.length l1) (hc1 : l1.length ≤ c1) (hr2 : Kd.C (Kd.int .i64) w A2 l2.length l2) (hc2 : l2.length ≤ c2) (h : barscanref05_Mul.f k a0_0 a0_1 a0_2 l1 l2 = some (r1, r2)) :
  Calls Try.prog 63 #[.agg #[.int .i64 a0_0, .int .i64 a0_1, .int .i64 a0_2], .slice A1 l1.length c1, .slice A2 l2.length c2] w fun e w' => ∃ v0_ : Value, e = .returned (.tuple #[v0_, .int .i64 r2]) ∧ Kd.R (Kd.int .i64) 3 w' w.heap.size (fun _ => True) v0_ r1 ∧ Below w.heap.size w w' := by
 have hu23 := Try.underlying23
 have HR1 := Aside0.mk hr1
 have HC1 := Aside0.mk hc1
 clear hr1 hc1
 have HR2 := Aside0.mk hr2
 have HC2 := Aside0.mk hc2
 clear hr2 hc2
 have HB := Aside0.mk (Below.refl w.heap.size w)
 have H := h
 unfold barscanref05_Mul.f at H
 clear h
 have HC4 := Aside0.mk H
 clear H
 go_enter Try.func63, Try.ntmps63
 go_upto_region 1 with (first | ((with_reducible refine gate_dst (N := 3) rfl ?_); (try (refine gate_guard (by rfl) ?_; dsimp only)); refine zBox 3 #[.int .i64 a0_0, .int .i64 a0_1, .int .i64 a0_2] 23 ?_; clear HB; intro gb1395 w5 BK1395 GE1395 HB))
 (try simp only [Act.put, List.setIfInBounds_toArray, List.set_cons_zero, List.set_cons_succ])
 go_cut [20] (fun v20 wc => ∃ (kq : Nat) (x20_3 : Bool), v20 = .bool x20_3 ∧ Aside0 (barscanref05_Mul.j0 kq l1 l2 x20_3 a0_0 a0_1 a0_2 = some (r1, r2)) ∧ Aside0 (kq ≤ k) ∧ Aside0 (wc.heap[gb1395]? = some (.cells #[.int .i64 a0_0, .int .i64 a0_1, .int .i64 a0_2] 23 (0, 0))) ∧ Aside0 (Below w.heap.size w wc))
 case first =>
  have H := HC4.out
  clear HC4
  obtain ⟨t1396, A6, H⟩ := zD H
  by_cases c7 : t1396 = true
  ·subst c7
   rw [if_pos rfl] at H
   obtain ⟨t1397, A8, H⟩ := zD H
   have H' := zA H
   clear H
   (try clear z1395_0 z1395_1 z1395_2 f1395_0 f1395_1 f1395_2)
   obtain ⟨z1395_0, z1395_1, z1395_2, f1395_0, f1395_1, f1395_2⟩ := cz3 BK1395
   go_wp2_with (first | ((with_reducible refine gate_callee (f := 82) rfl ?_); refine gL (some 13) Try.func82 #[.agg #[.int .i64 a0_0, .int .i64 a0_1, .int .i64 a0_2], .slice A1 l1.length c1] ?_; (with_reducible refine zCall (barscanref05_Valid.calls k a0_0 a0_1 a0_2 _ _ l1 true _ ?side1 ?side2 A6.out) ?_); (case side1 => exact zN HR1); (case side2 => exact HC1.out); intro w10 hb; replace BK1395 := bB BK1395 hb; replace HB := bS hb; (try clear hb); (try clear z1395_0 z1395_1 z1395_2 f1395_0 f1395_1 f1395_2); obtain ⟨z1395_0, z1395_1, z1395_2, f1395_0, f1395_1, f1395_2⟩ := cz3 BK1395) | (go_at_call 82; (with_reducible refine (barscanref05_Valid.calls k a0_0 a0_1 a0_2 _ _ l2 t1397 _ ?side1 ?side2 A8.out).mono ?_); (case side1 => exact zN HR2); (case side2 => exact HC2.out); rintro e w12 ⟨rfl, hb⟩; replace BK1395 := bB BK1395 hb; replace HB := bS hb; (try clear hb)))
   go_meet
   case rel => exact ⟨_, (!t1397), zR, H', zL, ⟨zK BK1395⟩, ⟨zB⟩⟩
  ·replace c7 := Bool.eq_false_iff.mpr c7
   subst c7
   rw [if_neg (show ¬ (false = true) by decide)] at H
   have H' := zA H
   clear H
   (try clear z1395_0 z1395_1 z1395_2 f1395_0 f1395_1 f1395_2)
   obtain ⟨z1395_0, z1395_1, z1395_2, f1395_0, f1395_1, f1395_2⟩ := cz3 BK1395
   go_wp2_with (first | ((with_reducible refine gate_callee (f := 82) rfl ?_); refine gL (some 13) Try.func82 #[.agg #[.int .i64 a0_0, .int .i64 a0_1, .int .i64 a0_2], .slice A1 l1.length c1] ?_; (with_reducible refine zCall (barscanref05_Valid.calls k a0_0 a0_1 a0_2 _ _ l1 false _ ?side1 ?side2 A6.out) ?_); (case side1 => exact zN HR1); (case side2 => exact HC1.out); intro w14 hb; replace BK1395 := bB BK1395 hb; replace HB := bS hb; (try clear hb)))
   go_meet
   case rel => exact ⟨_, (true), zR, H', zL, ⟨zK BK1395⟩, ⟨zB⟩⟩
 case rest =>
  clear HC4
  try clear c1
  try clear c2
  try clear p2
  try clear c6
  try clear c7
  try clear c8
  try clear z1395_0 z1395_1 z1395_2 f1395_0 f1395_1 f1395_2
  obtain ⟨kq, x20_3, rfl, HA, HJ3, BK1395, HB⟩ := hcut
  cases kq with
  | zero => exact absurd HA.out (by simp [barscanref05_Mul.j0])
  | succ kj3 =>
   have H := HA.out
   clear HA
   simp only [barscanref05_Mul.j0] at H
   by_cases c15 : x20_3 = true
   ·subst c15
    rw [if_pos rfl] at H
    simp only [Option.some.injEq, Prod.mk.injEq] at H
    obtain ⟨rfl, rfl⟩ := H
    go_wp2
    go_ret2
    exact ⟨_, zE, by first | exact Kd.R_nil _ _ _ _ _ | exact Kd.N_nil _ _ _ _ _ | exact Kd.V_nil _ _ _ _ _ | exact Kd.Q_nil _ _ _ _ _ | exact Kd.S_nil _ _ _ _ _, zB⟩
   ·replace c15 := Bool.eq_false_iff.mpr c15
    subst c15
    rw [if_neg (show ¬ (false = true) by decide)] at H
    have HC16 := Aside0.mk H
    clear H
    go_upto_region 3 with (fail)
    go_cut [28] (fun v28 wc => ∃ (kq : Nat) (x28_15 : Bool), v28 = .bool x28_15 ∧ Aside0 (barscanref05_Mul.j1 kq l1 l2 x28_15 a0_0 a0_1 a0_2 = some (r1, r2)) ∧ Aside0 (kq ≤ kj3) ∧ Aside0 (wc.heap[gb1395]? = some (.cells #[.int .i64 a0_0, .int .i64 a0_1, .int .i64 a0_2] 23 (0, 0))) ∧ Aside0 (Below w.heap.size w wc))
    case first =>
     have H := HC16.out
     clear HC16
     by_cases c17 : (l1.length : Int) = 0
     ·rw [if_pos c17] at H
      have c17b0 := beq_iff_eq.mpr c17
      have c17b1 := bne_eq_false_iff_eq.mpr c17
      clear c17
      (first | rw [c17b0] | (simp only [i64_w, i32_w]; rw [c17b0]) | skip)
      have H' := zA H
      clear H
      go_wp2
      go_meet
      case rel => exact ⟨_, (true), zR, H', ⟨by have := HJ3.out; first | omega | exact Nat.le_refl _⟩, ⟨zK BK1395⟩, ⟨zB⟩⟩
     ·rw [if_neg c17] at H
      have c17b0 := beq_eq_false_iff_ne.mpr c17
      have c17b1 := bne_iff_ne.mpr c17
      have c17b2 : ¬ (l1 = []) := fun h_ => c17 (by rw [h_]; rfl)
      (first | rw [c17b0] | (simp only [i64_w, i32_w]; rw [c17b0]) | skip)
      have H' := zA H
      clear H
      go_wp2
      go_meet
      case rel => exact ⟨_, (((l2.length : Int) == 0)), zR, H', ⟨by have := HJ3.out; first | omega | exact Nat.le_refl _⟩, ⟨zK BK1395⟩, ⟨zB⟩⟩
    case rest =>
     clear HC16
     try clear c1
     try clear c2
     try clear p2
     try clear c6
     try clear c7
     try clear c8
     try clear c15
     try clear c17
     try clear c17b0
     try clear c17b1
     try clear c17b2
     try clear z1395_0 z1395_1 z1395_2 f1395_0 f1395_1 f1395_2
     try clear p2
     obtain ⟨kq, x28_15, rfl, HA, HJ15, BK1395, HB⟩ := hcut
     cases kq with
     | zero => exact absurd HA.out (by simp [barscanref05_Mul.j1])
     | succ kj15 =>
      have H := HA.out
      clear HA
      simp only [barscanref05_Mul.j1] at H
      by_cases c18 : x28_15 = true
      ·subst c18
       rw [if_pos rfl] at H
       simp only [Option.some.injEq, Prod.mk.injEq] at H
       obtain ⟨rfl, rfl⟩ := H
       go_wp2
       go_ret2
       exact ⟨_, zE, by first | exact Kd.R_nil _ _ _ _ _ | exact Kd.N_nil _ _ _ _ _ | exact Kd.V_nil _ _ _ _ _ | exact Kd.Q_nil _ _ _ _ _ | exact Kd.S_nil _ _ _ _ _, zB⟩
      ·replace c18 := Bool.eq_false_iff.mpr c18
       subst c18
       rw [if_neg (show ¬ (false = true) by decide)] at H
       by_cases c19 : (wrap64 ((wrap64 ((l1.length : Int) + (l2.length : Int))) - 2)) > 4096
       ·rw [if_pos c19] at H
        have c19b0 : decide (4096 < (wrap64 ((wrap64 ((l1.length : Int) + (l2.length : Int))) - 2))) = true := decide_eq_true c19
        clear c19
        simp only [Option.some.injEq, Prod.mk.injEq] at H
        obtain ⟨rfl, rfl⟩ := H
        go_wp2
        go_ret2
        exact ⟨_, zE, by first | exact Kd.R_nil _ _ _ _ _ | exact Kd.N_nil _ _ _ _ _ | exact Kd.V_nil _ _ _ _ _ | exact Kd.Q_nil _ _ _ _ _ | exact Kd.S_nil _ _ _ _ _, zB⟩
       ·rw [if_neg c19] at H
        have c19b0 : decide (4096 < (wrap64 ((wrap64 ((l1.length : Int) + (l2.length : Int))) - 2))) = false := decide_eq_false c19
        clear c19
        obtain ⟨ji20, hji20⟩ : ∃ j_ : Int, (wrap64 ((wrap64 ((l1.length : Int) + (l2.length : Int))) - 1)) = j_ := ⟨_, rfl⟩
        first | rw [hji20] at H | simp only [hji20] at H
        have hji20w : (IntKind.i64.wrap ((wrap64 ((l1.length : Int) + (l2.length : Int))) - 1)) = ji20 := (i64_w _).trans hji20
        by_cases c21 : 0 ≤ (ji20)
        ·rw [if_pos c21] at H
         have c21b0 := eq_true c21
         have c21b1 : decide (0 ≤ (ji20)) = true := decide_eq_true c21
         clear c21
         by_cases c22 : (ji20 : Int).toNat ≤ 35184372088832
         ·rw [if_pos c22] at H
          have c22b0 := eq_true c22
          have c22b1 : decide ((ji20 : Int).toNat ≤ 35184372088832) = true := decide_eq_true c22
          clear c22
          obtain ⟨y1398, hy1398⟩ : ∃ y_ : List Int, y_ = (List.replicate (ji20 : Int).toNat 0) := ⟨_, rfl⟩
          replace H : (barscanref05_Mul.l0 kj15 l1 l2 y1398 0 a0_0 a0_1 a0_2) = some (r1, r2) := by first | (rw [hy1398]; with_reducible exact H) | (have H2_ := (Option.bind_some _ _).symm.trans H; rw [hy1398]; with_reducible exact H2_) | (have H2_ := (Option.bind_some _ _).symm.trans H; with_reducible exact H2_) | with_reducible exact H | (rw [hy1398]; exact H) | exact H
          have Ny1398 := Aside0.mk hy1398
          clear hy1398
          have H' := zA H
          clear H
          go_wp2_with (first | ((with_reducible refine gate_dst (N := 42) rfl ?_); (try (refine gate_guard (by rfl) ?_; dsimp only)); refine Kd.R_make (Kd.int .i64) _ 3 rfl (N := 42) rfl 45 _ _ rfl ji20 rfl rfl Try.underlying45 (.int .i64 0) 8 info3 rfl (by decide) (by omega) 0 (ok := fun _ => True) (okp := fun _ => True) rfl (fun _ hk => hk) trivial (of_decide_eq_true (by first | (with_reducible assumption) | assumption)) (Nat.le_trans (Nat.mul_le_mul_right _ (of_decide_eq_true (by first | (with_reducible assumption) | assumption) : ji20.toNat ≤ 35184372088832)) (by omega)) (Below.refl _ _) (Nat.le_refl _) ?_; intro v1399 w23 ho24 hb hg_ hnew_; clear hg_ hnew_; (first | rw [← Ny1398.out] at ho24 | (simp only [Int.reduceToNat] at ho24; rw [← Ny1398.out] at ho24)); have HO1400 := Aside0.mk (Kd.R_lower ho24 (below_size zB)); replace BK1395 := bB BK1395 hb; replace HB := bS hb; clear hb ho24))
          go_loopg [9] kj15 (fun kq v9 w' => ∃ (x8_3 : List Int) (x9_3 : Int), v9 = .int .i64 x9_3 ∧ Aside0 (barscanref05_Mul.l0 kq l1 l2 x8_3 x9_3 a0_0 a0_1 a0_2 = some (r1, r2)) ∧ Aside0 (kq ≤ kj15) ∧ Aside0 (Kd.R (Kd.int .i64) 3 w' w.heap.size (fun _ => True) v1399 x8_3) ∧ Aside0 (w'.heap[gb1395]? = some (.cells #[.int .i64 a0_0, .int .i64 a0_1, .int .i64 a0_2] 23 (0, 0))) ∧ Aside0 (Below w.heap.size w w'))
          case atStart => exact ⟨(y1398), (0), zR, H', ⟨Nat.le_refl _⟩, ⟨zO HO1400⟩, ⟨zK BK1395⟩, ⟨zB⟩⟩
          case round =>
           clear H'
           try clear c1
           try clear c2
           try clear p2
           try clear c6
           try clear p6
           try clear c7
           try clear c8
           try clear c15
           try clear c17
           try clear c17b0
           try clear c17b1
           try clear c17b2
           try clear c18
           try clear c19
           try clear c19b0
           try clear c21
           try clear c21b0
           try clear c21b1
           try clear c22
           try clear c22b0
           try clear c22b1
           try clear z1395_0 z1395_1 z1395_2 f1395_0 f1395_1 f1395_2
           try clear p2
           obtain ⟨x8_3, x9_3, rfl, HA, HK3, HO_8, BK1395, HB⟩ := hrel
           cases gk with
           | zero => exact absurd HA.out (by simp [barscanref05_Mul.l0])
           | succ k3 =>
            have H := HA.out
            clear HA
            simp only [barscanref05_Mul.l0] at H
            by_cases c25 : x9_3 < (l1.length : Int)
            ·rw [if_pos c25] at H
             have c25b0 : decide (x9_3 < (l1.length : Int)) = true := decide_eq_true c25
             clear c25
             have H' := zA H
             clear H
             go_wp2
             go_loopg [10] k3 (fun kq v10 w' => ∃ (x8_4 : List Int) (x10_4 : Int), v10 = .int .i64 x10_4 ∧ Aside0 (barscanref05_Mul.l1 kq l1 l2 x8_4 x9_3 x10_4 a0_0 a0_1 a0_2 = some (r1, r2)) ∧ Aside0 (kq ≤ k3) ∧ Aside0 (Kd.R (Kd.int .i64) 3 w' w.heap.size (fun _ => True) v1399 x8_4) ∧ Aside0 (w'.heap[gb1395]? = some (.cells #[.int .i64 a0_0, .int .i64 a0_1, .int .i64 a0_2] 23 (0, 0))) ∧ Aside0 (Below w.heap.size w w'))
             case atStart => exact ⟨(x8_3), (0), zR, H', ⟨Nat.le_refl _⟩, ⟨zO HO_8⟩, ⟨zK BK1395⟩, ⟨zB⟩⟩
             case round =>
              clear H'
              try clear c1
              try clear c2
              try clear p2
              try clear c6
              try clear p6
              try clear c7
              try clear c8
              try clear c15
              try clear c17
              try clear c17b0
              try clear c17b1
              try clear c17b2
              try clear c18
              try clear c19
              try clear c19b0
              try clear c21
              try clear c21b0
              try clear c21b1
              try clear c22
              try clear c22b0
              try clear c22b1
              try clear c25
              try clear c25b0
              try clear z1395_0 z1395_1 z1395_2 f1395_0 f1395_1 f1395_2
              try clear p2
              try clear p6
              obtain ⟨x8_4, x10_4, rfl, HA, HK4, HO_8, BK1395, HB⟩ := hrel
              cases gk with
              | zero => exact absurd HA.out (by simp [barscanref05_Mul.l1])
              | succ k4 =>
               have H := HA.out
               clear HA
               simp only [barscanref05_Mul.l1] at H
               by_cases c26 : x10_4 < (l2.length : Int)
               ·rw [if_pos c26] at H
                have c26b0 : decide (x10_4 < (l2.length : Int)) = true := decide_eq_true c26
                clear c26
                obtain ⟨ji27, hji27⟩ : ∃ j_ : Int, (wrap64 (x9_3 + x10_4)) = j_ := ⟨_, rfl⟩
                first | rw [hji27] at H | simp only [hji27] at H
                have hji27w : (IntKind.i64.wrap (x9_3 + x10_4)) = ji27 := (i64_w _).trans hji27
                by_cases c28 : 0 ≤ (ji27)
                ·rw [if_pos c28] at H
                 have c28b0 : decide (0 ≤ (ji27)) = true := decide_eq_true c28
                 clear c28
                 by_cases c29 : (ji27) < (x8_4.length : Int)
                 ·rw [if_pos c29] at H
                  have c29b0 : decide ((ji27) < (x8_4.length : Int)) = true := decide_eq_true c29
                  clear c29
                  by_cases c30 : 0 ≤ x9_3
                  ·rw [if_pos c30] at H
                   have c30b0 : decide (0 ≤ x9_3) = true := decide_eq_true c30
                   clear c30
                   by_cases c31 : x9_3 < (l1.length : Int)
                   ·rw [if_pos c31] at H
                    have c31b0 : decide (x9_3 < (l1.length : Int)) = true := decide_eq_true c31
                    clear c31
                    by_cases c32 : 0 ≤ x10_4
                    ·rw [if_pos c32] at H
                     have c32b0 : decide (0 ≤ x10_4) = true := decide_eq_true c32
                     clear c32
                     obtain ⟨t1407, A33, H⟩ := zD H
                     obtain ⟨t1408, A34, H⟩ := zD H
                     obtain ⟨y1409, hy1409⟩ : ∃ y_ : List Int, y_ = (x8_4.set ((ji27) : Int).toNat t1408) := ⟨_, rfl⟩
                     replace H : (barscanref05_Mul.l1 k4 l1 l2 y1409 x9_3 (wrap64 (x10_4 + 1)) a0_0 a0_1 a0_2) = some (r1, r2) := by first | (rw [hy1409]; with_reducible exact H) | (have H2_ := (Option.bind_some _ _).symm.trans H; rw [hy1409]; with_reducible exact H2_) | (have H2_ := (Option.bind_some _ _).symm.trans H; with_reducible exact H2_) | with_reducible exact H | (rw [hy1409]; exact H) | exact H
                     have Ny1409 := Aside0.mk hy1409
                     clear hy1409
                     have H' := zA H
                     clear H
                     try go_wp2
                     replace HO_8 := Aside0.mk (Kd.R_drew HO_8.out)
                     replace BK1395 := Aside0.mk (blk_drew BK1395.out)
                     replace HB := Aside0.mk (below_drew1 HB.out)
                     obtain ⟨Ao37, co37, eo37⟩ := Kd.R_slice HO_8.out
                     (first | subst eo37 | (injection eo37 with f1_ f2_ f3_; have f4_ := f1_.symm; have f5_ := f3_.symm; clear f1_ f2_ f3_; subst f4_; subst f5_))
                     have p1404 : 0 ≤ ((ji27) : Int) := of_decide_eq_true (by first | (with_reducible assumption) | assumption)
                     have q1404 : (ji27) < (x8_4.length : Int) := of_decide_eq_true (by first | (with_reducible assumption) | assumption)
                     obtain ⟨ad1404, e1404, hx1404_0⟩ := Kd.at_int (Kd.R_reads' HO_8.out).2.2 (ji27) p1404 q1404
                     cases e1404
                     replace p1404 := eq_true p1404
                     replace q1404 := eq_true q1404
                     have p1405 : 0 ≤ (x9_3 : Int) := of_decide_eq_true (by first | (with_reducible assumption) | assumption)
                     have q1405 : x9_3 < (l1.length : Int) := of_decide_eq_true (by first | (with_reducible assumption) | assumption)
                     obtain ⟨ad1405, e1405, hx1405_0⟩ := Kd.at_int HR1.out x9_3 p1405 q1405
                     have hw1405_0 := hx1405_0
                     cases e1405
                     replace hx1405_0 := (HB.out.cell (World.block_lt_of_cell? w _ hx1405_0)).trans hx1405_0
                     replace p1405 := eq_true p1405
                     replace q1405 := eq_true q1405
                     have p1406 : 0 ≤ (x10_4 : Int) := of_decide_eq_true (by first | (with_reducible assumption) | assumption)
                     have q1406 : x10_4 < (l2.length : Int) := of_decide_eq_true (by first | (with_reducible assumption) | assumption)
                     obtain ⟨ad1406, e1406, hx1406_0⟩ := Kd.at_int HR2.out x10_4 p1406 q1406
                     have hw1406_0 := hx1406_0
                     cases e1406
                     replace hx1406_0 := (HB.out.cell (World.block_lt_of_cell? w _ hx1406_0)).trans hx1406_0
                     replace p1406 := eq_true p1406
                     replace q1406 := eq_true q1406
                     refine start_ (n := 24) (S := fun w' => w'.cell? ⟨gb1395, 0, none⟩ = some (.int .i64 a0_0) ∧ w'.cell? ⟨gb1395, 1, none⟩ = some (.int .i64 a0_1) ∧ w'.cell? ⟨gb1395, 2, none⟩ = some (.int .i64 a0_2) ∧ w'.cell? (ad1404.add ((ji27)).toNat) = some (.int .i64 (rd x8_4 (ji27))) ∧ w'.cell? (ad1405.add (x9_3).toNat) = some (.int .i64 (rd l1 x9_3)) ∧ w'.cell? (ad1406.add (x10_4).toNat) = some (.int .i64 (rd l2 x10_4))) (ds := [23]) #[false, false, false, false, false, false, false, false, false, false, false, false, false, false, false, false, false, false, false, false, false, false, false, false] (by kernel_rfl) rfl rfl ⟨(blk_cell BK1395.out 0).trans rfl, (blk_cell BK1395.out 1).trans rfl, (blk_cell BK1395.out 2).trans rfl, hx1404_0, ((HB.out.cell (World.block_lt_of_cell? w _ hw1405_0)).trans hw1405_0), ((HB.out.cell (World.block_lt_of_cell? w _ hw1406_0)).trans hw1406_0)⟩ (fun hHeld => ?_); refine with_tabW barscanref05_Mul.tab14 barscanref05_Mul.bits14 (fun HT_ HW_ => ?_)
                     generalize wr.drew = w36 at HO_8 BK1395 HB hx1404_0 hx1405_0 hx1406_0 hHeld ⊢
                     refine pU 0 (some 55) ?_
                     refine pU 1 (some 56) ?_
                     refine pU 2 (some 57) ?_
                     refine pU 3 (some 58) ?_
                     refine pU 5 (some 60) ?_
                     refine pU 6 (some 61) ?_
                     refine pU 7 (some 62) ?_
                     refine pU 8 (some 63) ?_
                     refine pU 9 (some 64) ?_
                     refine pU 12 (some 67) ?_
                     refine pU 13 (some 68) ?_
                     refine pU 14 (some 69) ?_
                     refine pU 16 (some 71) ?_
                     refine pU 17 (some 72) ?_
                     refine pU 18 (some 73) ?_
                     refine tU 4 (some 59) hHeld ?_
                     refine tU 10 (some 65) hHeld ?_
                     refine tU 11 (some 66) hHeld ?_
                     refine tU 15 (some 70) hHeld ?_
                     refine tU 19 (some 74) hHeld ?_
                     refine oU 20 (some 75) (fun K hK => ?_)
                     refine goes_ Try.func111 (by kernel_rfl) rfl #[.agg #[.int .i64 a0_0, .int .i64 a0_1, .int .i64 a0_2], .int .i64 (rd l1 x9_3), .int .i64 (rd l2 x10_4)] (by rfl) rfl rfl zM ?_
                     with_reducible refine (barscanref05_times.calls k4 a0_0 a0_1 a0_2 (rd l1 x9_3) (rd l2 x10_4) t1407 _ A33.out).mono ?_
                     rintro e w38 ⟨rfl, hb⟩
                     have HS3_ := (hb.cell (World.block_lt_of_cell? _ _ (hHeld.2.2.2.1))).trans (hHeld.2.2.2.1)
                     refine ⟨_, rfl, ?_⟩
                     replace HO_8 := Aside0.mk (Kd.R_below (zO HO_8) hb)
                     replace BK1395 := bB BK1395 hb
                     replace HB := bS hb
                     (try clear hb)
                     (try clear hb2)
                     (try clear hk)
                     (try clear hi)
                     refine hK.out _ _ ⟨(blk_cell BK1395.out 0).trans rfl, (blk_cell BK1395.out 1).trans rfl, (blk_cell BK1395.out 2).trans rfl, HS3_, ((HB.out.cell (World.block_lt_of_cell? w _ hw1405_0)).trans hw1405_0), ((HB.out.cell (World.block_lt_of_cell? w _ hw1406_0)).trans hw1406_0)⟩ (fun hHeld => ?_)
                     clear hK K
                     refine nU ?_
                     refine oU 21 (some 76) (fun K hK => ?_)
                     refine goes_ Try.func110 (by kernel_rfl) rfl #[.agg #[.int .i64 a0_0, .int .i64 a0_1, .int .i64 a0_2], .int .i64 (rd x8_4 (ji27)), .int .i64 t1407] (by rfl) rfl rfl (by (try simp only [List.map_toArray, List.map_cons, List.map_nil]); first | done | (simp only [hji27]; rfl) | rfl | (simp only [List.length_drop, List.length_take]; rfl)) ?_
                     with_reducible refine (barscanref05_plus.calls a0_0 a0_1 a0_2 (rd x8_4 (ji27)) t1407 t1408 _ A34.out).mono ?_
                     rintro e w39 ⟨rfl, hb⟩
                     have HS3_ := (hb.cell (World.block_lt_of_cell? _ _ (hHeld.2.2.2.1))).trans (hHeld.2.2.2.1)
                     refine ⟨_, rfl, ?_⟩
                     replace HO_8 := Aside0.mk (Kd.R_below (zO HO_8) hb)
                     replace BK1395 := bB BK1395 hb
                     replace HB := bS hb
                     (try clear hb)
                     (try clear hb2)
                     (try clear hk)
                     (try clear hi)
                     have p35 : 0 ≤ ((ji27) : Int) := of_decide_eq_true (by first | (with_reducible assumption) | assumption)
                     have q35 : ((ji27) : Int) < ((x8_4.length : Int) : Int) := of_decide_eq_true (by first | (with_reducible assumption) | assumption)
                     obtain ⟨go35, co35, eo35, gb35, gl35, cl35, HG35⟩ := Kd.R_form HO_8.out (by omega)
                     (first | cases eo35 | (injection eo35 with ea_ en_ ec_; (first | subst ea_ | (injection ea_ with ea_; subst ea_)); subst ec_; clear en_))
                     have GB35 := Aside0.mk gb35
                     have GG35 := Aside0.mk HG35
                     clear gb35 gl35 HG35
                     (first | simp only [add_plain] at hx1404_0 | skip)
                     obtain ⟨hx35_0, hf35_0⟩ := Kd.R_celln 0 HO_8.out ((ji27) : Int) p35 q35
                     replace p35 := eq_true p35
                     replace q35 := eq_true q35
                     have HP40 := Kd.R_putn HO_8.out ((ji27) : Int) t1408
                     rw [← Ny1409.out] at HP40
                     have HQ40 := Aside0.mk HP40
                     clear HP40
                     refine hK.out _ _ ⟨(blk_cell BK1395.out 0).trans rfl, (blk_cell BK1395.out 1).trans rfl, (blk_cell BK1395.out 2).trans rfl, HS3_, ((HB.out.cell (World.block_lt_of_cell? w _ hw1405_0)).trans hw1405_0), ((HB.out.cell (World.block_lt_of_cell? w _ hw1406_0)).trans hw1406_0)⟩ (fun hHeld => ?_)
                     clear hK K
                     refine nU ?_
                     refine pU 22 (some 77) ?_
                     refine last_ (i := 23) (N := none) #[true, true, true, true, true, true, true, true, true, true, true, true, true, true, true, true, true, true, true, true, true, true, true, true] rfl rfl (one_of HT_.out (by kernel_rfl)) (by decide) (fun K hK => ?_)
                     refine skip_ (w1 := ?_) (by rfl) rfl ?_ ?_
                     rotate_left
                     ·go_simp
                      rfl
                     refine hK.out _ _ ?_
                     clear hK K
                     refine dU ?_
                     try go_wp2
                     go_roundg k4
                     case measure => have := HJ3.out; have := HJ15.out; have := HK3.out; have := HK4.out; omega
                     case rel => exact ⟨(y1409), (wrap64 (x10_4 + 1)), zR, H', ⟨by have := HJ3.out; have := HJ15.out; have := HK3.out; have := HK4.out; omega⟩, ⟨by (with_reducible repeat (first | apply Kd.R_alloc | apply Kd.R_drewN | apply Kd.R_drew)); exact HQ40.out⟩, ⟨by (with_reducible repeat (first | refine blk_drewN ?_ _ | refine blk_drew ?_ | refine blk_alloc ?_ _)); refine blk_far ?_ (by have h_ := Kd.R_ne HO_8.out BK1395.out (by decide); intro e_; exact h_ (by rw [e_]; rfl)) _; (with_reducible repeat (first | refine blk_drewN ?_ _ | refine blk_drew ?_ | refine blk_alloc ?_ _)); exact BK1395.out⟩, ⟨by repeat (first | (with_reducible first | exact HB.out | apply below_alloc | apply pw_below_drewN | apply below_drew1 | refine below_set ?_ GB35.out | refine zSet ?_ (by assumption)) | exact HB.out)⟩⟩
                    ·rw [if_neg c32] at H
                     exact absurd H (by simp)
                   ·rw [if_neg c31] at H
                    exact absurd H (by simp)
                  ·rw [if_neg c30] at H
                   exact absurd H (by simp)
                 ·rw [if_neg c29] at H
                  exact absurd H (by simp)
                ·rw [if_neg c28] at H
                 exact absurd H (by simp)
               ·rw [if_neg c26] at H
                have c26b0 : decide (x10_4 < (l2.length : Int)) = false := decide_eq_false c26
                clear c26
                have H' := zA H
                clear H
                go_wp2
                go_roundg k4
                case measure => have := HJ3.out; have := HJ15.out; have := HK3.out; have := HK4.out; omega
                case rel => exact ⟨(x8_4), (wrap64 (x9_3 + 1)), zR, H', ⟨by have := HJ3.out; have := HJ15.out; have := HK3.out; have := HK4.out; omega⟩, ⟨zO HO_8⟩, ⟨zK BK1395⟩, ⟨zB⟩⟩
            ·rw [if_neg c25] at H
             have c25b0 : decide (x9_3 < (l1.length : Int)) = false := decide_eq_false c25
             clear c25
             obtain ⟨t1401, A41, H⟩ := zD H
             simp only [Option.some.injEq, Prod.mk.injEq] at H
             obtain ⟨rfl, rfl⟩ := H
             obtain ⟨Ao42, co42, eo42⟩ := Kd.R_slice HO_8.out
             subst eo42
             go_wp2_with (first | ((with_reducible refine gate_callee (f := 83) rfl ?_); refine gL (some 79) Try.func83 #[.slice Ao42 x8_3.length co42] ?_; (with_reducible refine (barscanref05_Trim.calls k3 _ _ x8_3 t1401 _ ?side1 ?side2 A41.out).mono ?_); (case side1 => exact zN HO_8); (case side2 => exact (Kd.R_reads' HO_8.out).2.1); rintro e w43 ⟨v1402, rfl, ho0, hb⟩; refine ⟨_, rfl, ?_⟩; have HO1403 := Aside0.mk (Kd.R_lower (Kd.R_new' ho0 (Kd.R_lt (zO HO_8))) (below_size zB)); replace HO_8 := Aside0.mk (Kd.R_elder' (zO HO_8) (Kd.R_base ho0) hb); replace BK1395 := bB BK1395 hb; replace HB := bS hb; (try clear hb); (try clear ho0)))
             go_ret2
             exact ⟨_, by first | rfl | (simp [errW_none, errW_some] <;> rfl) | (simp only [← hji20]; first | rfl | (simp [errW_none, errW_some] <;> rfl)) | (simp [*, errW_none, errW_some] <;> rfl), by (with_reducible repeat (first | apply Kd.R_alloc | apply Kd.R_drewN | apply Kd.R_drew)); exact Kd.R_mono HO1403.out (fun _ hk => trivial), zB⟩
         ·rw [if_neg c22] at H
          exact absurd H (by simp)
        ·rw [if_neg c21] at H
         exact absurd H (by simp)
/-! ### barscanref05_at: function 126 -/
def barscanref05_at.f (l0 : List Int) (a1 : Int) : Option (Int) := if a1 < (l0.length : Int) then (if 0 ≤ a1 then (some (rd l0 a1)) else (none)) else (some 0)
theorem barscanref05_at.calls (A0 : Option Addr) (c0 : Nat) (l0 : List Int) (a1 : Int) (r : Int) (w : World) (hr0 : Kd.C (Kd.int .i64) w A0 l0.length l0) (hc0 : l0.length ≤ c0) (h : barscanref05_at.f l0 a1 = some r) :
  Calls Try.prog 126 #[.slice A0 l0.length c0, .int .i64 a1] w fun e w' => e = .returned (.int .i64 r) ∧ Drawn0 w w' := by
 have HR0 := Aside0.mk hr0
 have HC0 := Aside0.mk hc0
 clear hr0 hc0
 have H := h
 unfold barscanref05_at.f at H
 clear h
 by_cases c3 : a1 < (l0.length : Int)
 ·rw [if_pos c3] at H
  have c3b0 : decide (a1 < (l0.length : Int)) = true := decide_eq_true c3
  clear c3
  by_cases c4 : 0 ≤ a1
  ·rw [if_pos c4] at H
   have c4b0 : decide (0 ≤ a1) = true := decide_eq_true c4
   clear c4
   obtain rfl := Option.some.inj H
   have p1442 : 0 ≤ (a1 : Int) := of_decide_eq_true (by first | (with_reducible assumption) | assumption)
   have q1442 : a1 < (l0.length : Int) := of_decide_eq_true (by first | (with_reducible assumption) | assumption)
   obtain ⟨ad1442, e1442, hx1442_0⟩ := Kd.at_int HR0.out a1 p1442 q1442
   cases e1442
   replace p1442 := eq_true p1442
   replace q1442 := eq_true q1442
   go_enter Try.func126, Try.ntmps126
   go_wp2
   go_ret
   exact ⟨by first | rfl | (simp; done) | (simp [*]; done), by repeat (first | exact Drawn0.refl _ | apply Drawn0.step)⟩
  ·rw [if_neg c4] at H
   exact absurd H (by simp)
 ·rw [if_neg c3] at H
  have c3b0 : decide (a1 < (l0.length : Int)) = false := decide_eq_false c3
  clear c3
  obtain rfl := Option.some.inj H
  go_enter Try.func126, Try.ntmps126
  go_wp2
  go_ret
  exact ⟨by first | rfl | (simp; done) | (simp [*]; done), by repeat (first | exact Drawn0.refl _ | apply Drawn0.step)⟩
/-! ### barscanref05_Add: function 76 -/
mutual
def barscanref05_Add.j0 : Nat → List Int → List Int → Bool → Int → Int → Int → Option (List Int × Int)
 | 0, _, _, _, _, _, _ => none
 | k + 1, x1, x2, x19, x1444000, x1444001, x1444002 => if x19 = true then (some (([] : List Int), 1)) else (barscanref05_Add.l0 k x1 x2 ([] : List Int) 0 x1444000 x1444001 x1444002)
def barscanref05_Add.l0 : Nat → List Int → List Int → List Int → Int → Int → Int → Int → Option (List Int × Int)
 | 0, _, _, _, _, _, _, _ => none
 | k + 1, x1, x2, x8, x9, x1444000, x1444001, x1444002 => if x9 < (mx (x1.length : Int) (x2.length : Int)) then ((barscanref05_at.f x1 x9).bind fun t1446 => ((barscanref05_at.f x2 x9).bind fun t1447 => ((barscanref05_plus.f x1444000 x1444001 x1444002 t1446 t1447).bind fun t1448 => (if x8.length < 17592186044416 then (barscanref05_Add.l0 k x1 x2 (x8 ++ [t1448]) (wrap64 (x9 + 1)) x1444000 x1444001 x1444002) else (none))))) else ((barscanref05_Trim.f k x8).bind fun t1452 => (some (t1452, 0)))
end
def barscanref05_Add.f (k : Nat) (a0_0 : Int) (a0_1 : Int) (a0_2 : Int) (l1 : List Int) (l2 : List Int) : Option (List Int × Int) := (barscanref05_Valid.f k a0_0 a0_1 a0_2 l1).bind fun t1444 => (if t1444 = true then ((barscanref05_Valid.f k a0_0 a0_1 a0_2 l2).bind fun t1445 => (barscanref05_Add.j0 k l1 l2 (!t1445) a0_0 a0_1 a0_2)) else (barscanref05_Add.j0 k l1 l2 true a0_0 a0_1 a0_2))
theorem barscanref05_Add.mono_l : ∀ k, (∀ y0 y1 y2 y3 y4 y5, LeO (barscanref05_Add.j0 k y0 y1 y2 y3 y4 y5) (barscanref05_Add.j0 (k + 1) y0 y1 y2 y3 y4 y5)) ∧ (∀ y0 y1 y2 y3 y4 y5 y6, LeO (barscanref05_Add.l0 k y0 y1 y2 y3 y4 y5 y6) (barscanref05_Add.l0 (k + 1) y0 y1 y2 y3 y4 y5 y6))
 | 0 => ⟨fun _ _ _ _ _ _ r h => by simp [barscanref05_Add.j0] at h, fun _ _ _ _ _ _ _ r h => by simp [barscanref05_Add.l0] at h⟩
 | k + 1 => by
  obtain ⟨ih0, ih1⟩ := barscanref05_Add.mono_l k
  refine ⟨?_, ?_⟩
  ·intro y0 y1 y2 y3 y4 y5
   unfold barscanref05_Add.j0
   have m0_ := @barscanref05_Trim.mono
   have m1_ := @barscanref05_Valid.mono
   exact zMo
  ·intro y0 y1 y2 y3 y4 y5 y6
   unfold barscanref05_Add.l0
   have m0_ := @barscanref05_Trim.mono
   have m1_ := @barscanref05_Valid.mono
   exact zMo
theorem barscanref05_Add.mono : ∀ a0 a1 a2 a3 a4 k, LeO (barscanref05_Add.f k a0 a1 a2 a3 a4) (barscanref05_Add.f (k + 1) a0 a1 a2 a3 a4) := by
 intro a0 a1 a2 a3 a4 k
 obtain ⟨ih0, ih1⟩ := barscanref05_Add.mono_l k
 unfold barscanref05_Add.f
 have m0_ := @barscanref05_Trim.mono
 have m1_ := @barscanref05_Valid.mono
 exact zMo
def barscanref05_Add.T7 : Bool × List (List Nat × List Nat) := (true, [([], []), ([], []), ([], []), ([], []), ([2, 3], [2, 3]), ([], []), ([], []), ([5, 6, 4], [5, 6]), ([1, 4, 7, 7], [1, 4, 7]), ([8], [8]), ([0, 9, 8], [0, 9]), ([10, 10, 0, 1, 2, 3, 4, 5, 6, 7, 8, 9, 10], [0, 10])])
def barscanref05_Add.B7 : List Nat := [0, 0, 0, 0, 12, 0, 0, 124, 254, 510, 1023, 2047]
theorem barscanref05_Add.tab7 : rtab .any (opsOf Try.f76 7) = barscanref05_Add.T7 := by kernel_rfl
theorem barscanref05_Add.bits7 : waitsOk barscanref05_Add.T7.2 barscanref05_Add.B7 = true := by kernel_rfl
theorem barscanref05_Add.calls (k : Nat) (a0_0 : Int) (a0_1 : Int) (a0_2 : Int) (A1 : Option Addr) (c1 : Nat) (l1 : List Int) (A2 : Option Addr) (c2 : Nat) (l2 : List Int) (r1 : List Int) (r2 : Int) (w : World) (hr1 : Kd.C (Kd.int .i64) w A1 l1.length l1) (hc1 : l1.length ≤ c1) (hr2 : Kd.C (Kd.int .i64) w A2 l2.length l2) (hc2 : l2.length ≤ c2) (h : barscanref05_Add.f k a0_0 a0_1 a0_2 l1 l2 = some (r1, r2)) :
  Calls Try.prog 76 #[.agg #[.int .i64 a0_0, .int .i64 a0_1, .int .i64 a0_2], .slice A1 l1.length c1, .slice A2 l2.length c2] w fun e w' => ∃ v0_ : Value, e = .returned (.tuple #[v0_, .int .i64 r2]) ∧ Kd.R (Kd.int .i64) 3 w' w.heap.size (fun _ => True) v0_ r1 ∧ Below w.heap.size w w' := by
 have hu23 := Try.underlying23
 have HR1 := Aside0.mk hr1
 have HC1 := Aside0.mk hc1
 clear hr1 hc1
 have HR2 := Aside0.mk hr2
 have HC2 := Aside0.mk hc2
 clear hr2 hc2
 have HB := Aside0.mk (Below.refl w.heap.size w)
 have H := h
 unfold barscanref05_Add.f at H
 clear h
 have HC4 := Aside0.mk H
 clear H
 go_enter Try.func76, Try.ntmps76
 go_upto_region 1 with (first | ((with_reducible refine gate_dst (N := 3) rfl ?_); refine zBox 3 #[.int .i64 a0_0, .int .i64 a0_1, .int .i64 a0_2] 23 ?_; clear HB; intro gb1443 w5 BK1443 GE1443 HB))
 (try simp only [Act.put, List.setIfInBounds_toArray, List.set_cons_zero, List.set_cons_succ])
 go_cut [19] (fun v19 wc => ∃ (kq : Nat) (x19_3 : Bool), v19 = .bool x19_3 ∧ Aside0 (barscanref05_Add.j0 kq l1 l2 x19_3 a0_0 a0_1 a0_2 = some (r1, r2)) ∧ Aside0 (kq ≤ k) ∧ Aside0 (wc.heap[gb1443]? = some (.cells #[.int .i64 a0_0, .int .i64 a0_1, .int .i64 a0_2] 23 (0, 0))) ∧ Aside0 (Below w.heap.size w wc))
 case first =>
  have H := HC4.out
  clear HC4
  obtain ⟨t1444, A6, H⟩ := zD H
  by_cases c7 : t1444 = true
  ·subst c7
   rw [if_pos rfl] at H
   obtain ⟨t1445, A8, H⟩ := zD H
   have H' := zA H
   clear H
   (try clear z1443_0 z1443_1 z1443_2 f1443_0 f1443_1 f1443_2)
   obtain ⟨z1443_0, z1443_1, z1443_2, f1443_0, f1443_1, f1443_2⟩ := cz3 BK1443
   go_wp2_with (first | ((with_reducible refine gate_callee (f := 82) rfl ?_); refine gL (some 12) Try.func82 #[.agg #[.int .i64 a0_0, .int .i64 a0_1, .int .i64 a0_2], .slice A1 l1.length c1] ?_; (with_reducible refine zCall (barscanref05_Valid.calls k a0_0 a0_1 a0_2 _ _ l1 true _ ?side1 ?side2 A6.out) ?_); (case side1 => exact zN HR1); (case side2 => exact HC1.out); intro w10 hb; replace BK1443 := bB BK1443 hb; replace HB := bS hb; (try clear hb); (try clear z1443_0 z1443_1 z1443_2 f1443_0 f1443_1 f1443_2); obtain ⟨z1443_0, z1443_1, z1443_2, f1443_0, f1443_1, f1443_2⟩ := cz3 BK1443) | (go_at_call 82; (with_reducible refine (barscanref05_Valid.calls k a0_0 a0_1 a0_2 _ _ l2 t1445 _ ?side1 ?side2 A8.out).mono ?_); (case side1 => exact zN HR2); (case side2 => exact HC2.out); rintro e w12 ⟨rfl, hb⟩; replace BK1443 := bB BK1443 hb; replace HB := bS hb; (try clear hb)))
   go_meet
   case rel => exact ⟨_, (!t1445), zR, H', zL, ⟨zK BK1443⟩, ⟨zB⟩⟩
  ·replace c7 := Bool.eq_false_iff.mpr c7
   subst c7
   rw [if_neg (show ¬ (false = true) by decide)] at H
   have H' := zA H
   clear H
   (try clear z1443_0 z1443_1 z1443_2 f1443_0 f1443_1 f1443_2)
   obtain ⟨z1443_0, z1443_1, z1443_2, f1443_0, f1443_1, f1443_2⟩ := cz3 BK1443
   go_wp2_with (first | ((with_reducible refine gate_callee (f := 82) rfl ?_); refine gL (some 12) Try.func82 #[.agg #[.int .i64 a0_0, .int .i64 a0_1, .int .i64 a0_2], .slice A1 l1.length c1] ?_; (with_reducible refine zCall (barscanref05_Valid.calls k a0_0 a0_1 a0_2 _ _ l1 false _ ?side1 ?side2 A6.out) ?_); (case side1 => exact zN HR1); (case side2 => exact HC1.out); intro w14 hb; replace BK1443 := bB BK1443 hb; replace HB := bS hb; (try clear hb)))
   go_meet
   case rel => exact ⟨_, (true), zR, H', zL, ⟨zK BK1443⟩, ⟨zB⟩⟩
 case rest =>
  clear HC4
  try clear c1
  try clear c2
  try clear p2
  try clear c7
  try clear c8
  try clear z1443_0 z1443_1 z1443_2 f1443_0 f1443_1 f1443_2
  obtain ⟨kq, x19_3, rfl, HA, HJ3, BK1443, HB⟩ := hcut
  cases kq with
  | zero => exact absurd HA.out (by simp [barscanref05_Add.j0])
  | succ kj3 =>
   have H := HA.out
   clear HA
   simp only [barscanref05_Add.j0] at H
   by_cases c15 : x19_3 = true
   ·subst c15
    rw [if_pos rfl] at H
    simp only [Option.some.injEq, Prod.mk.injEq] at H
    obtain ⟨rfl, rfl⟩ := H
    go_wp2
    go_ret2
    exact ⟨_, zE, by first | exact Kd.R_nil _ _ _ _ _ | exact Kd.N_nil _ _ _ _ _ | exact Kd.V_nil _ _ _ _ _ | exact Kd.Q_nil _ _ _ _ _ | exact Kd.S_nil _ _ _ _ _, zB⟩
   ·replace c15 := Bool.eq_false_iff.mpr c15
    subst c15
    rw [if_neg (show ¬ (false = true) by decide)] at H
    have H' := zA H
    clear H
    go_wp2
    go_loopg [8, 9] kj3 (fun kq v8 v9 w' => ∃ (x8_2 : List Int) (x9_2 : Int), v9 = .int .i64 x9_2 ∧ Aside0 (barscanref05_Add.l0 kq l1 l2 x8_2 x9_2 a0_0 a0_1 a0_2 = some (r1, r2)) ∧ Aside0 (kq ≤ kj3) ∧ Aside0 (Kd.R (Kd.int .i64) 3 w' w.heap.size (fun _ => True) v8 x8_2) ∧ Aside0 (w'.heap[gb1443]? = some (.cells #[.int .i64 a0_0, .int .i64 a0_1, .int .i64 a0_2] 23 (0, 0))) ∧ Aside0 (Below w.heap.size w w'))
    case atStart => exact ⟨(([] : List Int)), (0), zR, H', ⟨Nat.le_refl _⟩, ⟨by first | exact Kd.R_nil _ _ _ _ _ | exact Kd.N_nil _ _ _ _ _ | exact Kd.V_nil _ _ _ _ _ | exact Kd.Q_nil _ _ _ _ _ | exact Kd.S_nil _ _ _ _ _⟩, ⟨zK BK1443⟩, ⟨zB⟩⟩
    case round =>
     clear H'
     try clear c1
     try clear c2
     try clear p2
     try clear c7
     try clear c8
     try clear c15
     try clear z1443_0 z1443_1 z1443_2 f1443_0 f1443_1 f1443_2
     try clear p2
     obtain ⟨x8_2, x9_2, rfl, HA, HK2, HO_8, BK1443, HB⟩ := hrel
     cases gk with
     | zero => exact absurd HA.out (by simp [barscanref05_Add.l0])
     | succ k2 =>
      have H := HA.out
      clear HA
      simp only [barscanref05_Add.l0] at H
      obtain ⟨ji16, hji16⟩ : ∃ j_ : Int, (mx (l1.length : Int) (l2.length : Int)) = j_ := ⟨_, rfl⟩
      first | rw [hji16] at H | simp only [hji16] at H
      (try (have hji16l : 0 ≤ ji16 := by (rw [← hji16]; unfold mx; (repeat' split) <;> omega)))
      (try (have hji16m : 0 ≤ ji16 := by omega))
      have hji16_ : (if l1.length < l2.length then (l2.length : Int) else (l1.length : Int)) = ji16 := by rw [← hji16]; unfold mx; simp only [Int.ofNat_lt]
      by_cases c17 : x9_2 < (ji16)
      ·rw [if_pos c17] at H
       have c17b0 : decide (x9_2 < (ji16)) = true := decide_eq_true c17
       clear c17
       obtain ⟨t1446, A18, H⟩ := zD H
       obtain ⟨t1447, A19, H⟩ := zD H
       obtain ⟨t1448, A20, H⟩ := zD H
       by_cases c21 : x8_2.length < 17592186044416
       ·rw [if_pos c21] at H
        have LMc21 := Aside0.mk c21
        clear c21
        obtain ⟨y1449, hy1449⟩ : ∃ y_ : List Int, y_ = (x8_2 ++ [t1448]) := ⟨_, rfl⟩
        replace H : (barscanref05_Add.l0 k2 l1 l2 y1449 (wrap64 (x9_2 + 1)) a0_0 a0_1 a0_2) = some (r1, r2) := by first | (rw [hy1449]; with_reducible exact H) | (have H2_ := (Option.bind_some _ _).symm.trans H; rw [hy1449]; with_reducible exact H2_) | (have H2_ := (Option.bind_some _ _).symm.trans H; with_reducible exact H2_) | with_reducible exact H | (rw [hy1449]; exact H) | exact H
        have Ny1449 := Aside0.mk hy1449
        clear hy1449
        have H' := zA H
        clear H
        try go_wp2
        replace HO_8 := Aside0.mk (Kd.R_drew HO_8.out)
        replace BK1443 := Aside0.mk (blk_drew BK1443.out)
        replace HB := Aside0.mk (below_drew1 HB.out)
        refine start_ (n := 12) (S := fun w' => w'.cell? ⟨gb1443, 0, none⟩ = some (.int .i64 a0_0) ∧ w'.cell? ⟨gb1443, 1, none⟩ = some (.int .i64 a0_1) ∧ w'.cell? ⟨gb1443, 2, none⟩ = some (.int .i64 a0_2)) (ds := []) #[false, false, false, false, false, false, false, false, false, false, false, false] (by kernel_rfl) rfl rfl zS (fun hHeld => ?_); refine with_tabW barscanref05_Add.tab7 barscanref05_Add.bits7 (fun HT_ HW_ => ?_)
        generalize wr.drew = w22 at HO_8 BK1443 HB hHeld ⊢
        refine pU 0 (some 29) ?_
        refine pU 2 (some 31) ?_
        refine pU 3 (some 32) ?_
        refine pU 5 (some 34) ?_
        refine pU 6 (some 35) ?_
        refine tU 1 (some 30) hHeld ?_
        refine oU 4 (some 33) (fun K hK => ?_)
        refine goes_ Try.func126 (by kernel_rfl) rfl #[.slice A1 l1.length c1, .int .i64 x9_2] (by rfl) rfl rfl zM ?_
        with_reducible refine (barscanref05_at.calls _ _ l1 x9_2 t1446 _ ?side1 ?side2 A18.out).mono ?_
        (case side1 => exact zN HR1)
        (case side2 => exact HC1.out)
        rintro e w' ⟨rfl, ⟨nd, rfl⟩⟩
        refine ⟨_, rfl, ?_⟩
        refine hK.out _ _ zS (fun hHeld => ?_)
        clear hK K
        refine nU ?_
        refine oU 7 (some 36) (fun K hK => ?_)
        refine goes_ Try.func126 (by kernel_rfl) rfl #[.slice A2 l2.length c2, .int .i64 x9_2] (by rfl) rfl rfl zM ?_
        with_reducible refine (barscanref05_at.calls _ _ l2 x9_2 t1447 _ ?side1 ?side2 A19.out).mono ?_
        (case side1 => repeat (first | exact (Kd.C_below HR2.out zB) | (with_reducible refine Kd.C_alloc ?_ _) | (with_reducible refine Kd.C_drewN ?_ _) | (with_reducible refine Kd.C_drew ?_)))
        (case side2 => exact HC2.out)
        rintro e w' ⟨rfl, ⟨nd, rfl⟩⟩
        refine ⟨_, rfl, ?_⟩
        refine hK.out _ _ zS (fun hHeld => ?_)
        clear hK K
        refine nU ?_
        refine oU 8 (some 37) (fun K hK => ?_)
        refine goes_ Try.func110 (by kernel_rfl) rfl #[.agg #[.int .i64 a0_0, .int .i64 a0_1, .int .i64 a0_2], .int .i64 t1446, .int .i64 t1447] (by rfl) rfl rfl zM ?_
        with_reducible refine (barscanref05_plus.calls a0_0 a0_1 a0_2 t1446 t1447 t1448 _ A20.out).mono ?_
        rintro e w23 ⟨rfl, hb⟩
        refine ⟨_, rfl, ?_⟩
        replace HO_8 := Aside0.mk (Kd.R_below (zO HO_8) hb)
        replace BK1443 := bB BK1443 hb
        replace HB := bS hb
        (try clear hb)
        (try clear hb2)
        (try clear hk)
        (try clear hi)
        refine hK.out _ _ zS (fun hHeld => ?_)
        clear hK K
        refine nU ?_
        refine oU 9 (some 38) (fun K hK => ?_)
        refine value_ (w1 := ?_) (v := ?_) (by rfl) rfl ?_ ?_
        rotate_left 2
        ·go_simp
         constructor
         ·rfl
         ·rfl
        refine hK.out _ _ ⟨(blk_cell (blk_alloc BK1443.out _) 0).trans rfl, (blk_cell (blk_alloc BK1443.out _) 1).trans rfl, (blk_cell (blk_alloc BK1443.out _) 2).trans rfl⟩ (fun hHeld => ?_)
        clear hK K
        refine nU ?_
        refine oU 10 (some 39) (fun K hK => ?_)
        refine Kd.R_append_step (Kd.int .i64) (w0 := w) w.heap.size (by rfl) (.tmp 29) (.tmp 38) 45 3 (.int .i64 0) 8 rfl Try.underlying45 info3 rfl (by decide) (by omega) u8 x8_2 t1448 [.int .i64 t1448] (fun _ => True) (fun _ => False) rfl rfl ?aP (fun _ hk => hk.elim) ?aF ?aO ?aB ?aS ?aL ?_
        (case aP => exact rfl)
        (case aB => exact zB)
        (case aF => exact (fun _ _ => trivial))
        (case aO => exact (zO HO_8))
        (case aS => exact (below_size zB))
        (case aL => have := LMc21.out; omega)
        intro v1450 w24 ho hb hg hat
        rw [← Ny1449.out] at ho
        replace BK1443 := Aside0.mk (blk_grown (g := gb1443) (o := .cells #[.int .i64 a0_0, .int .i64 a0_1, .int .i64 a0_2] 23 (0, 0)) (zK BK1443) hg (Kd.R_ne HO_8.out BK1443.out (by decide)))
        replace HB := Aside0.mk (hb)
        have HO1451 := Aside0.mk (ho)
        clear HO_8
        clear ho hb hg hat
        refine hK.out _ _ zS (fun hHeld => ?_)
        clear hK K
        refine nU ?_
        refine pU 11 (some 8) ?_
        refine dU ?_
        try go_wp2
        go_roundg k2
        case measure => have := HJ3.out; have := HK2.out; omega
        case rel => exact ⟨(y1449), (wrap64 (x9_2 + 1)), zR, H', ⟨by have := HJ3.out; have := HK2.out; omega⟩, ⟨zO HO1451⟩, ⟨zK BK1443⟩, ⟨zB⟩⟩
       ·rw [if_neg c21] at H
        exact absurd H (by simp)
      ·rw [if_neg c17] at H
       have c17b0 : decide (x9_2 < (ji16)) = false := decide_eq_false c17
       clear c17
       obtain ⟨t1452, A25, H⟩ := zD H
       simp only [Option.some.injEq, Prod.mk.injEq] at H
       obtain ⟨rfl, rfl⟩ := H
       obtain ⟨Ao26, co26, eo26⟩ := Kd.R_slice HO_8.out
       subst eo26
       go_wp2_with (first | ((with_reducible refine gate_callee (f := 83) rfl ?_); refine gL (some 41) Try.func83 #[.slice Ao26 x8_2.length co26] ?_; (with_reducible refine (barscanref05_Trim.calls k2 _ _ x8_2 t1452 _ ?side1 ?side2 A25.out).mono ?_); (case side1 => exact zN HO_8); (case side2 => exact (Kd.R_reads' HO_8.out).2.1); rintro e w27 ⟨v1453, rfl, ho0, hb⟩; refine ⟨_, rfl, ?_⟩; have HO1454 := Aside0.mk (Kd.R_lower (Kd.R_new' ho0 (Kd.R_lt (zO HO_8))) (below_size zB)); replace HO_8 := Aside0.mk (Kd.R_elder' (zO HO_8) (Kd.R_base ho0) hb); replace BK1443 := bB BK1443 hb; replace HB := bS hb; (try clear hb); (try clear ho0)))
       go_ret2
       exact ⟨_, by first | rfl | (simp [errW_none, errW_some] <;> rfl) | (simp only [← hji16]; first | rfl | (simp [errW_none, errW_some] <;> rfl)) | (simp [*, errW_none, errW_some] <;> rfl), by (with_reducible repeat (first | apply Kd.R_alloc | apply Kd.R_drewN | apply Kd.R_drew)); exact Kd.R_mono HO1454.out (fun _ hk => trivial), zB⟩
/-! ### barscanref05_Scale: function 78 -/
mutual
def barscanref05_Scale.j0 : Nat → List Int → Int → Bool → Int → Int → Int → Option (List Int × Int)
 | 0, _, _, _, _, _, _ => none
 | k + 1, x1, x2, x19, x1456000, x1456001, x1456002 => if x19 = true then (some (([] : List Int), 1)) else (barscanref05_Scale.l0 k x1 x2 ([] : List Int) 0 x1456000 x1456001 x1456002)
def barscanref05_Scale.l0 : Nat → List Int → Int → List Int → Int → Int → Int → Int → Option (List Int × Int)
 | 0, _, _, _, _, _, _, _ => none
 | k + 1, x1, x2, x8, x9, x1456000, x1456001, x1456002 => if x9 < (x1.length : Int) then (if 0 ≤ x9 then ((barscanref05_times.f k x1456000 x1456001 x1456002 (rd x1 x9) x2).bind fun t1459 => (if x8.length < 17592186044416 then (barscanref05_Scale.l0 k x1 x2 (x8 ++ [t1459]) (wrap64 (x9 + 1)) x1456000 x1456001 x1456002) else (none))) else (none)) else ((barscanref05_Trim.f k x8).bind fun t1463 => (some (t1463, 0)))
end
def barscanref05_Scale.f (k : Nat) (a0_0 : Int) (a0_1 : Int) (a0_2 : Int) (l1 : List Int) (a2 : Int) : Option (List Int × Int) := (barscanref05_Valid.f k a0_0 a0_1 a0_2 l1).bind fun t1456 => (if t1456 = true then ((barscanref05_element.f a0_0 a0_1 a0_2 a2).bind fun t1457 => (barscanref05_Scale.j0 k l1 a2 (!t1457) a0_0 a0_1 a0_2)) else (barscanref05_Scale.j0 k l1 a2 true a0_0 a0_1 a0_2))
theorem barscanref05_Scale.mono_l : ∀ k, (∀ y0 y1 y2 y3 y4 y5, LeO (barscanref05_Scale.j0 k y0 y1 y2 y3 y4 y5) (barscanref05_Scale.j0 (k + 1) y0 y1 y2 y3 y4 y5)) ∧ (∀ y0 y1 y2 y3 y4 y5 y6, LeO (barscanref05_Scale.l0 k y0 y1 y2 y3 y4 y5 y6) (barscanref05_Scale.l0 (k + 1) y0 y1 y2 y3 y4 y5 y6))
 | 0 => ⟨fun _ _ _ _ _ _ r h => by simp [barscanref05_Scale.j0] at h, fun _ _ _ _ _ _ _ r h => by simp [barscanref05_Scale.l0] at h⟩
 | k + 1 => by
  obtain ⟨ih0, ih1⟩ := barscanref05_Scale.mono_l k
  refine ⟨?_, ?_⟩
  ·intro y0 y1 y2 y3 y4 y5
   unfold barscanref05_Scale.j0
   have m0_ := @barscanref05_Trim.mono
   have m1_ := @barscanref05_Valid.mono
   have m2_ := @barscanref05_times.mono
   exact zMo
  ·intro y0 y1 y2 y3 y4 y5 y6
   unfold barscanref05_Scale.l0
   have m0_ := @barscanref05_Trim.mono
   have m1_ := @barscanref05_Valid.mono
   have m2_ := @barscanref05_times.mono
   exact zMo
theorem barscanref05_Scale.mono : ∀ a0 a1 a2 a3 a4 k, LeO (barscanref05_Scale.f k a0 a1 a2 a3 a4) (barscanref05_Scale.f (k + 1) a0 a1 a2 a3 a4) := by
 intro a0 a1 a2 a3 a4 k
 obtain ⟨ih0, ih1⟩ := barscanref05_Scale.mono_l k
 unfold barscanref05_Scale.f
 have m0_ := @barscanref05_Trim.mono
 have m1_ := @barscanref05_Valid.mono
 have m2_ := @barscanref05_times.mono
 exact zMo
def barscanref05_Scale.T7 : Bool × List (List Nat × List Nat) := (true, [([], []), ([], []), ([], []), ([], []), ([2, 3], [2, 3]), ([4], [4]), ([], []), ([1, 5, 6], [1, 5, 6]), ([7], [7]), ([0, 8, 7], [0, 8]), ([9, 9, 0, 1, 2, 3, 4, 5, 6, 7, 8, 9], [0, 9])])
def barscanref05_Scale.B7 : List Nat := [0, 0, 0, 0, 12, 28, 0, 126, 254, 511, 1023]
theorem barscanref05_Scale.tab7 : rtab .any (opsOf Try.f78 7) = barscanref05_Scale.T7 := by kernel_rfl
theorem barscanref05_Scale.bits7 : waitsOk barscanref05_Scale.T7.2 barscanref05_Scale.B7 = true := by kernel_rfl
theorem barscanref05_Scale.calls (k : Nat) (a0_0 : Int) (a0_1 : Int) (a0_2 : Int) (A1 : Option Addr) (c1 : Nat) (l1 : List Int) (a2 : Int) (r1 : List Int) (r2 : Int) (w : World) (hr1 : Kd.C (Kd.int .i64) w A1 l1.length l1) (hc1 : l1.length ≤ c1) (h : barscanref05_Scale.f k a0_0 a0_1 a0_2 l1 a2 = some (r1, r2)) :
  Calls Try.prog 78 #[.agg #[.int .i64 a0_0, .int .i64 a0_1, .int .i64 a0_2], .slice A1 l1.length c1, .int .i64 a2] w fun e w' => ∃ v0_ : Value, e = .returned (.tuple #[v0_, .int .i64 r2]) ∧ Kd.R (Kd.int .i64) 3 w' w.heap.size (fun _ => True) v0_ r1 ∧ Below w.heap.size w w' := by
 have hu23 := Try.underlying23
 have HR1 := Aside0.mk hr1
 have HC1 := Aside0.mk hc1
 clear hr1 hc1
 have HB := Aside0.mk (Below.refl w.heap.size w)
 have H := h
 unfold barscanref05_Scale.f at H
 clear h
 have HC4 := Aside0.mk H
 clear H
 go_enter Try.func78, Try.ntmps78
 go_upto_region 1 with (first | ((with_reducible refine gate_dst (N := 3) rfl ?_); refine zBox 3 #[.int .i64 a0_0, .int .i64 a0_1, .int .i64 a0_2] 23 ?_; clear HB; intro gb1455 w5 BK1455 GE1455 HB))
 (try simp only [Act.put, List.setIfInBounds_toArray, List.set_cons_zero, List.set_cons_succ])
 go_cut [19] (fun v19 wc => ∃ (kq : Nat) (x19_3 : Bool), v19 = .bool x19_3 ∧ Aside0 (barscanref05_Scale.j0 kq l1 a2 x19_3 a0_0 a0_1 a0_2 = some (r1, r2)) ∧ Aside0 (kq ≤ k) ∧ Aside0 (wc.heap[gb1455]? = some (.cells #[.int .i64 a0_0, .int .i64 a0_1, .int .i64 a0_2] 23 (0, 0))) ∧ Aside0 (Below w.heap.size w wc))
 case first =>
  have H := HC4.out
  clear HC4
  obtain ⟨t1456, A6, H⟩ := zD H
  by_cases c7 : t1456 = true
  ·subst c7
   rw [if_pos rfl] at H
   obtain ⟨t1457, A8, H⟩ := zD H
   have H' := zA H
   clear H
   (try clear z1455_0 z1455_1 z1455_2 f1455_0 f1455_1 f1455_2)
   obtain ⟨z1455_0, z1455_1, z1455_2, f1455_0, f1455_1, f1455_2⟩ := cz3 BK1455
   go_wp2_with (first | ((with_reducible refine gate_callee (f := 82) rfl ?_); refine gL (some 12) Try.func82 #[.agg #[.int .i64 a0_0, .int .i64 a0_1, .int .i64 a0_2], .slice A1 l1.length c1] ?_; (with_reducible refine zCall (barscanref05_Valid.calls k a0_0 a0_1 a0_2 _ _ l1 true _ ?side1 ?side2 A6.out) ?_); (case side1 => exact zN HR1); (case side2 => exact HC1.out); intro w10 hb; replace BK1455 := bB BK1455 hb; replace HB := bS hb; (try clear hb); (try clear z1455_0 z1455_1 z1455_2 f1455_0 f1455_1 f1455_2); obtain ⟨z1455_0, z1455_1, z1455_2, f1455_0, f1455_1, f1455_2⟩ := cz3 BK1455) | (go_at_call 125; (with_reducible refine (barscanref05_element.calls a0_0 a0_1 a0_2 a2 t1457 _ A8.out).mono ?_); rintro e w12 ⟨rfl, hb⟩; replace BK1455 := bB BK1455 hb; replace HB := bS hb; (try clear hb)))
   go_meet
   case rel => exact ⟨_, (!t1457), zR, H', zL, ⟨zK BK1455⟩, ⟨zB⟩⟩
  ·replace c7 := Bool.eq_false_iff.mpr c7
   subst c7
   rw [if_neg (show ¬ (false = true) by decide)] at H
   have H' := zA H
   clear H
   (try clear z1455_0 z1455_1 z1455_2 f1455_0 f1455_1 f1455_2)
   obtain ⟨z1455_0, z1455_1, z1455_2, f1455_0, f1455_1, f1455_2⟩ := cz3 BK1455
   go_wp2_with (first | ((with_reducible refine gate_callee (f := 82) rfl ?_); refine gL (some 12) Try.func82 #[.agg #[.int .i64 a0_0, .int .i64 a0_1, .int .i64 a0_2], .slice A1 l1.length c1] ?_; (with_reducible refine zCall (barscanref05_Valid.calls k a0_0 a0_1 a0_2 _ _ l1 false _ ?side1 ?side2 A6.out) ?_); (case side1 => exact zN HR1); (case side2 => exact HC1.out); intro w14 hb; replace BK1455 := bB BK1455 hb; replace HB := bS hb; (try clear hb)))
   go_meet
   case rel => exact ⟨_, (true), zR, H', zL, ⟨zK BK1455⟩, ⟨zB⟩⟩
 case rest =>
  clear HC4
  try clear c1
  try clear p2
  try clear c7
  try clear c8
  try clear z1455_0 z1455_1 z1455_2 f1455_0 f1455_1 f1455_2
  obtain ⟨kq, x19_3, rfl, HA, HJ3, BK1455, HB⟩ := hcut
  cases kq with
  | zero => exact absurd HA.out (by simp [barscanref05_Scale.j0])
  | succ kj3 =>
   have H := HA.out
   clear HA
   simp only [barscanref05_Scale.j0] at H
   by_cases c15 : x19_3 = true
   ·subst c15
    rw [if_pos rfl] at H
    simp only [Option.some.injEq, Prod.mk.injEq] at H
    obtain ⟨rfl, rfl⟩ := H
    go_wp2
    go_ret2
    exact ⟨_, zE, by first | exact Kd.R_nil _ _ _ _ _ | exact Kd.N_nil _ _ _ _ _ | exact Kd.V_nil _ _ _ _ _ | exact Kd.Q_nil _ _ _ _ _ | exact Kd.S_nil _ _ _ _ _, zB⟩
   ·replace c15 := Bool.eq_false_iff.mpr c15
    subst c15
    rw [if_neg (show ¬ (false = true) by decide)] at H
    have H' := zA H
    clear H
    go_wp2
    go_loopg [8, 9] kj3 (fun kq v8 v9 w' => ∃ (x8_2 : List Int) (x9_2 : Int), v9 = .int .i64 x9_2 ∧ Aside0 (barscanref05_Scale.l0 kq l1 a2 x8_2 x9_2 a0_0 a0_1 a0_2 = some (r1, r2)) ∧ Aside0 (kq ≤ kj3) ∧ Aside0 (Kd.R (Kd.int .i64) 3 w' w.heap.size (fun _ => True) v8 x8_2) ∧ Aside0 (w'.heap[gb1455]? = some (.cells #[.int .i64 a0_0, .int .i64 a0_1, .int .i64 a0_2] 23 (0, 0))) ∧ Aside0 (Below w.heap.size w w'))
    case atStart => exact ⟨(([] : List Int)), (0), zR, H', ⟨Nat.le_refl _⟩, ⟨by first | exact Kd.R_nil _ _ _ _ _ | exact Kd.N_nil _ _ _ _ _ | exact Kd.V_nil _ _ _ _ _ | exact Kd.Q_nil _ _ _ _ _ | exact Kd.S_nil _ _ _ _ _⟩, ⟨zK BK1455⟩, ⟨zB⟩⟩
    case round =>
     clear H'
     try clear c1
     try clear p2
     try clear c7
     try clear c8
     try clear c15
     try clear z1455_0 z1455_1 z1455_2 f1455_0 f1455_1 f1455_2
     try clear p2
     obtain ⟨x8_2, x9_2, rfl, HA, HK2, HO_8, BK1455, HB⟩ := hrel
     cases gk with
     | zero => exact absurd HA.out (by simp [barscanref05_Scale.l0])
     | succ k2 =>
      have H := HA.out
      clear HA
      simp only [barscanref05_Scale.l0] at H
      by_cases c16 : x9_2 < (l1.length : Int)
      ·rw [if_pos c16] at H
       have c16b0 : decide (x9_2 < (l1.length : Int)) = true := decide_eq_true c16
       clear c16
       by_cases c17 : 0 ≤ x9_2
       ·rw [if_pos c17] at H
        have c17b0 : decide (0 ≤ x9_2) = true := decide_eq_true c17
        clear c17
        obtain ⟨t1459, A18, H⟩ := zD H
        by_cases c19 : x8_2.length < 17592186044416
        ·rw [if_pos c19] at H
         have LMc19 := Aside0.mk c19
         clear c19
         obtain ⟨y1460, hy1460⟩ : ∃ y_ : List Int, y_ = (x8_2 ++ [t1459]) := ⟨_, rfl⟩
         replace H : (barscanref05_Scale.l0 k2 l1 a2 y1460 (wrap64 (x9_2 + 1)) a0_0 a0_1 a0_2) = some (r1, r2) := by first | (rw [hy1460]; with_reducible exact H) | (have H2_ := (Option.bind_some _ _).symm.trans H; rw [hy1460]; with_reducible exact H2_) | (have H2_ := (Option.bind_some _ _).symm.trans H; with_reducible exact H2_) | with_reducible exact H | (rw [hy1460]; exact H) | exact H
         have Ny1460 := Aside0.mk hy1460
         clear hy1460
         have H' := zA H
         clear H
         try go_wp2
         replace HO_8 := Aside0.mk (Kd.R_drew HO_8.out)
         replace BK1455 := Aside0.mk (blk_drew BK1455.out)
         replace HB := Aside0.mk (below_drew1 HB.out)
         have p1458 : 0 ≤ (x9_2 : Int) := of_decide_eq_true (by first | (with_reducible assumption) | assumption)
         have q1458 : x9_2 < (l1.length : Int) := of_decide_eq_true (by first | (with_reducible assumption) | assumption)
         obtain ⟨ad1458, e1458, hx1458_0⟩ := Kd.at_int HR1.out x9_2 p1458 q1458
         have hw1458_0 := hx1458_0
         cases e1458
         replace hx1458_0 := (HB.out.cell (World.block_lt_of_cell? w _ hx1458_0)).trans hx1458_0
         replace p1458 := eq_true p1458
         replace q1458 := eq_true q1458
         refine start_ (n := 11) (S := fun w' => w'.cell? ⟨gb1455, 0, none⟩ = some (.int .i64 a0_0) ∧ w'.cell? ⟨gb1455, 1, none⟩ = some (.int .i64 a0_1) ∧ w'.cell? ⟨gb1455, 2, none⟩ = some (.int .i64 a0_2) ∧ w'.cell? (ad1458.add (x9_2).toNat) = some (.int .i64 (rd l1 x9_2))) (ds := []) #[false, false, false, false, false, false, false, false, false, false, false] (by kernel_rfl) rfl rfl ⟨(blk_cell BK1455.out 0).trans rfl, (blk_cell BK1455.out 1).trans rfl, (blk_cell BK1455.out 2).trans rfl, ((HB.out.cell (World.block_lt_of_cell? w _ hw1458_0)).trans hw1458_0)⟩ (fun hHeld => ?_); refine with_tabW barscanref05_Scale.tab7 barscanref05_Scale.bits7 (fun HT_ HW_ => ?_)
         generalize wr.drew = w20 at HO_8 BK1455 HB hx1458_0 hHeld ⊢
         refine pU 0 (some 26) ?_
         refine pU 2 (some 28) ?_
         refine pU 3 (some 29) ?_
         refine pU 4 (some 30) ?_
         refine pU 6 (some 32) ?_
         refine tU 1 (some 27) hHeld ?_
         refine tU 5 (some 31) hHeld ?_
         refine oU 7 (some 33) (fun K hK => ?_)
         refine goes_ Try.func111 (by kernel_rfl) rfl #[.agg #[.int .i64 a0_0, .int .i64 a0_1, .int .i64 a0_2], .int .i64 (rd l1 x9_2), .int .i64 a2] (by rfl) rfl rfl zM ?_
         with_reducible refine (barscanref05_times.calls k2 a0_0 a0_1 a0_2 (rd l1 x9_2) a2 t1459 _ A18.out).mono ?_
         rintro e w21 ⟨rfl, hb⟩
         refine ⟨_, rfl, ?_⟩
         replace HO_8 := Aside0.mk (Kd.R_below (zO HO_8) hb)
         replace BK1455 := bB BK1455 hb
         replace HB := bS hb
         (try clear hb)
         (try clear hb2)
         (try clear hk)
         (try clear hi)
         refine hK.out _ _ ⟨(blk_cell BK1455.out 0).trans rfl, (blk_cell BK1455.out 1).trans rfl, (blk_cell BK1455.out 2).trans rfl, ((HB.out.cell (World.block_lt_of_cell? w _ hw1458_0)).trans hw1458_0)⟩ (fun hHeld => ?_)
         clear hK K
         refine nU ?_
         refine oU 8 (some 34) (fun K hK => ?_)
         refine value_ (w1 := ?_) (v := ?_) (by rfl) rfl ?_ ?_
         rotate_left 2
         ·go_simp
          constructor
          ·rfl
          ·rfl
         refine hK.out _ _ ⟨(blk_cell (blk_alloc BK1455.out _) 0).trans rfl, (blk_cell (blk_alloc BK1455.out _) 1).trans rfl, (blk_cell (blk_alloc BK1455.out _) 2).trans rfl, (World.cell?_alloc_lt _ _ _ (World.block_lt_of_cell? _ _ (((HB.out.cell (World.block_lt_of_cell? w _ hw1458_0)).trans hw1458_0)))).trans (((HB.out.cell (World.block_lt_of_cell? w _ hw1458_0)).trans hw1458_0))⟩ (fun hHeld => ?_)
         clear hK K
         refine nU ?_
         refine oU 9 (some 35) (fun K hK => ?_)
         refine Kd.R_append_step (Kd.int .i64) (w0 := w) w.heap.size (by rfl) (.tmp 26) (.tmp 34) 45 3 (.int .i64 0) 8 rfl Try.underlying45 info3 rfl (by decide) (by omega) u8 x8_2 t1459 [.int .i64 t1459] (fun _ => True) (fun _ => False) rfl rfl ?aP (fun _ hk => hk.elim) ?aF ?aO ?aB ?aS ?aL ?_
         (case aP => exact rfl)
         (case aB => exact zB)
         (case aF => exact (fun _ _ => trivial))
         (case aO => exact (zO HO_8))
         (case aS => exact (below_size zB))
         (case aL => have := LMc19.out; omega)
         intro v1461 w22 ho hb hg hat
         rw [← Ny1460.out] at ho
         replace BK1455 := Aside0.mk (blk_grown (g := gb1455) (o := .cells #[.int .i64 a0_0, .int .i64 a0_1, .int .i64 a0_2] 23 (0, 0)) (zK BK1455) hg (Kd.R_ne HO_8.out BK1455.out (by decide)))
         replace HB := Aside0.mk (hb)
         have HO1462 := Aside0.mk (ho)
         clear HO_8
         clear ho hb hg hat
         refine hK.out _ _ ⟨(blk_cell BK1455.out 0).trans rfl, (blk_cell BK1455.out 1).trans rfl, (blk_cell BK1455.out 2).trans rfl, ((HB.out.cell (World.block_lt_of_cell? w _ hw1458_0)).trans hw1458_0)⟩ (fun hHeld => ?_)
         clear hK K
         refine nU ?_
         refine pU 10 (some 8) ?_
         refine dU ?_
         try go_wp2
         go_roundg k2
         case measure => have := HJ3.out; have := HK2.out; omega
         case rel => exact ⟨(y1460), (wrap64 (x9_2 + 1)), zR, H', ⟨by have := HJ3.out; have := HK2.out; omega⟩, ⟨zO HO1462⟩, ⟨zK BK1455⟩, ⟨zB⟩⟩
        ·rw [if_neg c19] at H
         exact absurd H (by simp)
       ·rw [if_neg c17] at H
        exact absurd H (by simp)
      ·rw [if_neg c16] at H
       have c16b0 : decide (x9_2 < (l1.length : Int)) = false := decide_eq_false c16
       clear c16
       obtain ⟨t1463, A23, H⟩ := zD H
       simp only [Option.some.injEq, Prod.mk.injEq] at H
       obtain ⟨rfl, rfl⟩ := H
       obtain ⟨Ao24, co24, eo24⟩ := Kd.R_slice HO_8.out
       subst eo24
       go_wp2_with (first | ((with_reducible refine gate_callee (f := 83) rfl ?_); refine gL (some 37) Try.func83 #[.slice Ao24 x8_2.length co24] ?_; (with_reducible refine (barscanref05_Trim.calls k2 _ _ x8_2 t1463 _ ?side1 ?side2 A23.out).mono ?_); (case side1 => exact zN HO_8); (case side2 => exact (Kd.R_reads' HO_8.out).2.1); rintro e w25 ⟨v1464, rfl, ho0, hb⟩; refine ⟨_, rfl, ?_⟩; have HO1465 := Aside0.mk (Kd.R_lower (Kd.R_new' ho0 (Kd.R_lt (zO HO_8))) (below_size zB)); replace HO_8 := Aside0.mk (Kd.R_elder' (zO HO_8) (Kd.R_base ho0) hb); replace BK1455 := bB BK1455 hb; replace HB := bS hb; (try clear hb); (try clear ho0)))
       go_ret2
       exact ⟨_, zE, by (with_reducible repeat (first | apply Kd.R_alloc | apply Kd.R_drewN | apply Kd.R_drew)); exact Kd.R_mono HO1465.out (fun _ hk => trivial), zB⟩
end Go.Proofs.Ytlhaclammaaabaa.Pg
