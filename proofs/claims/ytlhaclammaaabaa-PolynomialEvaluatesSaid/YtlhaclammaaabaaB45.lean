-- Written by a program of this session over the print of the kit.
import Derived.Test.YtlhaclammaaabaaY
import Derived.Test.YtlhaclammaaabaaB1
namespace Go.Proofs.Ytlhaclammaaabaa.Pg
open Go.RowKit Go.Proofs.YtlhaclammaaabaaW.PrintWords Go.Proofs.YtlhaclammaaabaaW.PrintLast Go.Proofs.YtlhaclammaaabaaW.PrintMore
attribute [local go_sem] max2_int min2_int max_two min_two max_three min_three max_four min_four
set_option linter.unusedVariables false
set_option maxHeartbeats 8000000
set_option maxRecDepth 100000
set_option linter.unusedSimpArgs false
/-! ### barscanref05_Eval: function 73 -/
mutual
def barscanref05_Eval.j0 : Nat → List Int → Int → Bool → Int → Int → Int → Option (Int × Int)
 | 0, _, _, _, _, _, _ => none
 | k + 1, x1, x2, x20, x1747000, x1747001, x1747002 => if x20 = true then (some (0, 1)) else (barscanref05_Eval.l0 k x1 x2 0 1 0 x1747000 x1747001 x1747002)
def barscanref05_Eval.l0 : Nat → List Int → Int → Int → Int → Int → Int → Int → Int → Option (Int × Int)
 | 0, _, _, _, _, _, _, _, _ => none
 | k + 1, x1, x2, x8, x9, x10, x1747000, x1747001, x1747002 => if x10 < (x1.length : Int) then (if 0 ≤ x10 then ((barscanref05_times.f k x1747000 x1747001 x1747002 (rd x1 x10) x9).bind fun t1750 => ((barscanref05_plus.f x1747000 x1747001 x1747002 x8 t1750).bind fun t1751 => ((barscanref05_times.f k x1747000 x1747001 x1747002 x9 x2).bind fun t1752 => (barscanref05_Eval.l0 k x1 x2 t1751 t1752 (wrap64 (x10 + 1)) x1747000 x1747001 x1747002)))) else (none)) else (some (x8, 0))
end
def barscanref05_Eval.f (k : Nat) (a0_0 : Int) (a0_1 : Int) (a0_2 : Int) (l1 : List Int) (a2 : Int) : Option (Int × Int) := (barscanref05_Valid.f k a0_0 a0_1 a0_2 l1).bind fun t1747 => (if t1747 = true then ((barscanref05_element.f a0_0 a0_1 a0_2 a2).bind fun t1748 => (barscanref05_Eval.j0 k l1 a2 (!t1748) a0_0 a0_1 a0_2)) else (barscanref05_Eval.j0 k l1 a2 true a0_0 a0_1 a0_2))
theorem barscanref05_Eval.mono_l : ∀ k, (∀ y0 y1 y2 y3 y4 y5, LeO (barscanref05_Eval.j0 k y0 y1 y2 y3 y4 y5) (barscanref05_Eval.j0 (k + 1) y0 y1 y2 y3 y4 y5)) ∧ (∀ y0 y1 y2 y3 y4 y5 y6 y7, LeO (barscanref05_Eval.l0 k y0 y1 y2 y3 y4 y5 y6 y7) (barscanref05_Eval.l0 (k + 1) y0 y1 y2 y3 y4 y5 y6 y7))
 | 0 => ⟨fun _ _ _ _ _ _ r h => by simp [barscanref05_Eval.j0] at h, fun _ _ _ _ _ _ _ _ r h => by simp [barscanref05_Eval.l0] at h⟩
 | k + 1 => by
  obtain ⟨ih0, ih1⟩ := barscanref05_Eval.mono_l k
  refine ⟨?_, ?_⟩
  ·intro y0 y1 y2 y3 y4 y5
   unfold barscanref05_Eval.j0
   have m0_ := @barscanref05_Valid.mono
   have m1_ := @barscanref05_times.mono
   exact zMo
  ·intro y0 y1 y2 y3 y4 y5 y6 y7
   unfold barscanref05_Eval.l0
   have m0_ := @barscanref05_Valid.mono
   have m1_ := @barscanref05_times.mono
   exact zMo
theorem barscanref05_Eval.mono : ∀ a0 a1 a2 a3 a4 k, LeO (barscanref05_Eval.f k a0 a1 a2 a3 a4) (barscanref05_Eval.f (k + 1) a0 a1 a2 a3 a4) := by
 intro a0 a1 a2 a3 a4 k
 obtain ⟨ih0, ih1⟩ := barscanref05_Eval.mono_l k
 unfold barscanref05_Eval.f
 have m0_ := @barscanref05_Valid.mono
 have m1_ := @barscanref05_times.mono
 exact zMo
def barscanref05_Eval.T8 : Bool × List (List Nat × List Nat) := (true, [([], []), ([], []), ([], []), ([], []), ([], []), ([3, 4], [3, 4]), ([5], [5]), ([], []), ([2, 6, 7], [2, 6, 7]), ([0, 1, 8, 8], [0, 1, 8]), ([9, 9, 0, 1, 2, 3, 4, 5, 6, 7, 8, 9], [1, 9])])
def barscanref05_Eval.B8 : List Nat := [0, 0, 0, 0, 0, 24, 56, 0, 252, 511, 1023]
theorem barscanref05_Eval.tab8 : rtab .any (opsOf Try.f73 8) = barscanref05_Eval.T8 := by kernel_rfl
theorem barscanref05_Eval.bits8 : waitsOk barscanref05_Eval.T8.2 barscanref05_Eval.B8 = true := by kernel_rfl
theorem barscanref05_Eval.calls (k : Nat) (a0_0 : Int) (a0_1 : Int) (a0_2 : Int) (A1 : Option Addr) (c1 : Nat) (l1 : List Int) (a2 : Int) (r1 : Int) (r2 : Int) (w : World) (hr1 : Kd.C (Kd.int .i64) w A1 l1.length l1) (hc1 : l1.length ≤ c1) (h : barscanref05_Eval.f k a0_0 a0_1 a0_2 l1 a2 = some (r1, r2)) :
  Calls Try.prog 73 #[.agg #[.int .i64 a0_0, .int .i64 a0_1, .int .i64 a0_2], .slice A1 l1.length c1, .int .i64 a2] w fun e w' => e = .returned (.tuple #[.int .i64 r1, .int .i64 r2]) ∧ Below w.heap.size w w' := by
 have hu23 := Try.underlying23
 have HR1 := Aside0.mk hr1
 have HC1 := Aside0.mk hc1
 clear hr1 hc1
 have HB := Aside0.mk (Below.refl w.heap.size w)
 have H := h
 unfold barscanref05_Eval.f at H
 clear h
 have HC4 := Aside0.mk H
 clear H
 go_enter Try.func73, Try.ntmps73
 go_upto_region 1 with (first | ((with_reducible refine gate_dst (N := 3) rfl ?_); refine zBox 3 #[.int .i64 a0_0, .int .i64 a0_1, .int .i64 a0_2] 23 ?_; clear HB; intro gb1746 w5 BK1746 GE1746 HB))
 (try simp only [Act.put, List.setIfInBounds_toArray, List.set_cons_zero, List.set_cons_succ])
 go_cut [20] (fun v20 wc => ∃ (kq : Nat) (x20_3 : Bool), v20 = .bool x20_3 ∧ Aside0 (barscanref05_Eval.j0 kq l1 a2 x20_3 a0_0 a0_1 a0_2 = some (r1, r2)) ∧ Aside0 (kq ≤ k) ∧ Aside0 (wc.heap[gb1746]? = some (.cells #[.int .i64 a0_0, .int .i64 a0_1, .int .i64 a0_2] 23 (0, 0))) ∧ Aside0 (Below w.heap.size w wc))
 case first =>
  have H := HC4.out
  clear HC4
  obtain ⟨t1747, A6, H⟩ := zD H
  by_cases c7 : t1747 = true
  ·subst c7
   rw [if_pos rfl] at H
   obtain ⟨t1748, A8, H⟩ := zD H
   have H' := zA H
   clear H
   (try clear z1746_0 z1746_1 z1746_2 f1746_0 f1746_1 f1746_2)
   obtain ⟨z1746_0, z1746_1, z1746_2, f1746_0, f1746_1, f1746_2⟩ := cz3 BK1746
   go_wp2_with (first | ((with_reducible refine gate_callee (f := 82) rfl ?_); refine gL (some 13) Try.func82 #[.agg #[.int .i64 a0_0, .int .i64 a0_1, .int .i64 a0_2], .slice A1 l1.length c1] ?_; (with_reducible refine zCall (barscanref05_Valid.calls k a0_0 a0_1 a0_2 _ _ l1 true _ ?side1 ?side2 A6.out) ?_); (case side1 => exact zN HR1); (case side2 => exact HC1.out); intro w10 hb; replace BK1746 := bB BK1746 hb; replace HB := bS hb; (try clear hb); (try clear z1746_0 z1746_1 z1746_2 f1746_0 f1746_1 f1746_2); obtain ⟨z1746_0, z1746_1, z1746_2, f1746_0, f1746_1, f1746_2⟩ := cz3 BK1746) | (go_at_call 125; (with_reducible refine (barscanref05_element.calls a0_0 a0_1 a0_2 a2 t1748 _ A8.out).mono ?_); rintro e w12 ⟨rfl, hb⟩; replace BK1746 := bB BK1746 hb; replace HB := bS hb; (try clear hb)))
   go_meet
   case rel => exact ⟨_, (!t1748), zR, H', zL, ⟨zK BK1746⟩, ⟨zB⟩⟩
  ·replace c7 := Bool.eq_false_iff.mpr c7
   subst c7
   rw [if_neg (show ¬ (false = true) by decide)] at H
   have H' := zA H
   clear H
   (try clear z1746_0 z1746_1 z1746_2 f1746_0 f1746_1 f1746_2)
   obtain ⟨z1746_0, z1746_1, z1746_2, f1746_0, f1746_1, f1746_2⟩ := cz3 BK1746
   go_wp2_with (first | ((with_reducible refine gate_callee (f := 82) rfl ?_); refine gL (some 13) Try.func82 #[.agg #[.int .i64 a0_0, .int .i64 a0_1, .int .i64 a0_2], .slice A1 l1.length c1] ?_; (with_reducible refine zCall (barscanref05_Valid.calls k a0_0 a0_1 a0_2 _ _ l1 false _ ?side1 ?side2 A6.out) ?_); (case side1 => exact zN HR1); (case side2 => exact HC1.out); intro w14 hb; replace BK1746 := bB BK1746 hb; replace HB := bS hb; (try clear hb)))
   go_meet
   case rel => exact ⟨_, (true), zR, H', zL, ⟨zK BK1746⟩, ⟨zB⟩⟩
 case rest =>
  clear HC4
  try clear c1
  try clear p2
  try clear c7
  try clear c8
  try clear z1746_0 z1746_1 z1746_2 f1746_0 f1746_1 f1746_2
  obtain ⟨kq, x20_3, rfl, HA, HJ3, BK1746, HB⟩ := hcut
  cases kq with
  | zero => exact absurd HA.out (by simp [barscanref05_Eval.j0])
  | succ kj3 =>
   have H := HA.out
   clear HA
   simp only [barscanref05_Eval.j0] at H
   by_cases c15 : x20_3 = true
   ·subst c15
    rw [if_pos rfl] at H
    simp only [Option.some.injEq, Prod.mk.injEq] at H
    obtain ⟨rfl, rfl⟩ := H
    go_wp2
    go_ret2
    exact ⟨zE, zB⟩
   ·replace c15 := Bool.eq_false_iff.mpr c15
    subst c15
    rw [if_neg (show ¬ (false = true) by decide)] at H
    have H' := zA H
    clear H
    go_wp2
    go_loopg [8, 9, 10] kj3 (fun kq v8 v9 v10 w' => ∃ (x8_2 : Int) (x9_2 : Int) (x10_2 : Int), v8 = .int .i64 x8_2 ∧ v9 = .int .i64 x9_2 ∧ v10 = .int .i64 x10_2 ∧ Aside0 (barscanref05_Eval.l0 kq l1 a2 x8_2 x9_2 x10_2 a0_0 a0_1 a0_2 = some (r1, r2)) ∧ Aside0 (kq ≤ kj3) ∧ Aside0 (w'.heap[gb1746]? = some (.cells #[.int .i64 a0_0, .int .i64 a0_1, .int .i64 a0_2] 23 (0, 0))) ∧ Aside0 (Below w.heap.size w w'))
    case atStart => exact ⟨(0), (1), (0), zR, zR, zR, H', ⟨Nat.le_refl _⟩, ⟨zK BK1746⟩, ⟨zB⟩⟩
    case round =>
     clear H'
     try clear c1
     try clear p2
     try clear c7
     try clear c8
     try clear c15
     try clear z1746_0 z1746_1 z1746_2 f1746_0 f1746_1 f1746_2
     try clear p2
     obtain ⟨x8_2, x9_2, x10_2, rfl, rfl, rfl, HA, HK2, BK1746, HB⟩ := hrel
     cases gk with
     | zero => exact absurd HA.out (by simp [barscanref05_Eval.l0])
     | succ k2 =>
      have H := HA.out
      clear HA
      simp only [barscanref05_Eval.l0] at H
      by_cases c16 : x10_2 < (l1.length : Int)
      ·rw [if_pos c16] at H
       have c16b0 : decide (x10_2 < (l1.length : Int)) = true := decide_eq_true c16
       clear c16
       by_cases c17 : 0 ≤ x10_2
       ·rw [if_pos c17] at H
        have c17b0 : decide (0 ≤ x10_2) = true := decide_eq_true c17
        clear c17
        obtain ⟨t1750, A18, H⟩ := zD H
        obtain ⟨t1751, A19, H⟩ := zD H
        obtain ⟨t1752, A20, H⟩ := zD H
        have H' := zA H
        clear H
        try go_wp2
        replace BK1746 := Aside0.mk (blk_drew BK1746.out)
        replace HB := Aside0.mk (below_drew1 HB.out)
        have p1749 : 0 ≤ (x10_2 : Int) := of_decide_eq_true (by first | (with_reducible assumption) | assumption)
        have q1749 : x10_2 < (l1.length : Int) := of_decide_eq_true (by first | (with_reducible assumption) | assumption)
        obtain ⟨ad1749, e1749, hx1749_0⟩ := Kd.at_int HR1.out x10_2 p1749 q1749
        have hw1749_0 := hx1749_0
        cases e1749
        replace hx1749_0 := (HB.out.cell (World.block_lt_of_cell? w _ hx1749_0)).trans hx1749_0
        replace p1749 := eq_true p1749
        replace q1749 := eq_true q1749
        refine start_ (n := 11) (S := fun w' => w'.cell? ⟨gb1746, 0, none⟩ = some (.int .i64 a0_0) ∧ w'.cell? ⟨gb1746, 1, none⟩ = some (.int .i64 a0_1) ∧ w'.cell? ⟨gb1746, 2, none⟩ = some (.int .i64 a0_2) ∧ w'.cell? (ad1749.add (x10_2).toNat) = some (.int .i64 (rd l1 x10_2))) (ds := []) #[false, false, false, false, false, false, false, false, false, false, false] (by kernel_rfl) rfl rfl ⟨(blk_cell BK1746.out 0).trans rfl, (blk_cell BK1746.out 1).trans rfl, (blk_cell BK1746.out 2).trans rfl, ((HB.out.cell (World.block_lt_of_cell? w _ hw1749_0)).trans hw1749_0)⟩ (fun hHeld => ?_); refine with_tabW barscanref05_Eval.tab8 barscanref05_Eval.bits8 (fun HT_ HW_ => ?_)
        generalize wr.drew = w21 at BK1746 HB hx1749_0 hHeld ⊢
        refine pU 1 (some 28) ?_
        refine pU 3 (some 30) ?_
        refine pU 4 (some 31) ?_
        refine pU 5 (some 32) ?_
        refine pU 7 (some 34) ?_
        refine tU 0 (some 27) hHeld ?_
        refine tU 2 (some 29) hHeld ?_
        refine tU 6 (some 33) hHeld ?_
        refine oU 8 (some 35) (fun K hK => ?_)
        refine goes_ Try.func111 (by kernel_rfl) rfl #[.agg #[.int .i64 a0_0, .int .i64 a0_1, .int .i64 a0_2], .int .i64 (rd l1 x10_2), .int .i64 x9_2] (by rfl) rfl rfl zM ?_
        with_reducible refine (barscanref05_times.calls k2 a0_0 a0_1 a0_2 (rd l1 x10_2) x9_2 t1750 _ A18.out).mono ?_
        rintro e w22 ⟨rfl, hb⟩
        refine ⟨_, rfl, ?_⟩
        replace BK1746 := bB BK1746 hb
        replace HB := bS hb
        (try clear hb)
        (try clear hb2)
        (try clear hk)
        (try clear hi)
        refine hK.out _ _ ⟨(blk_cell BK1746.out 0).trans rfl, (blk_cell BK1746.out 1).trans rfl, (blk_cell BK1746.out 2).trans rfl, ((HB.out.cell (World.block_lt_of_cell? w _ hw1749_0)).trans hw1749_0)⟩ (fun hHeld => ?_)
        clear hK K
        refine nU ?_
        refine oU 9 (some 36) (fun K hK => ?_)
        refine goes_ Try.func110 (by kernel_rfl) rfl #[.agg #[.int .i64 a0_0, .int .i64 a0_1, .int .i64 a0_2], .int .i64 x8_2, .int .i64 t1750] (by rfl) rfl rfl zM ?_
        with_reducible refine (barscanref05_plus.calls a0_0 a0_1 a0_2 x8_2 t1750 t1751 _ A19.out).mono ?_
        rintro e w23 ⟨rfl, hb⟩
        refine ⟨_, rfl, ?_⟩
        replace BK1746 := bB BK1746 hb
        replace HB := bS hb
        (try clear hb)
        (try clear hb2)
        (try clear hk)
        (try clear hi)
        refine hK.out _ _ ⟨(blk_cell BK1746.out 0).trans rfl, (blk_cell BK1746.out 1).trans rfl, (blk_cell BK1746.out 2).trans rfl, ((HB.out.cell (World.block_lt_of_cell? w _ hw1749_0)).trans hw1749_0)⟩ (fun hHeld => ?_)
        clear hK K
        refine nU ?_
        refine pU 10 (some 8) ?_
        refine dU ?_
        (try clear z1746_0 z1746_1 z1746_2 f1746_0 f1746_1 f1746_2)
        obtain ⟨z1746_0, z1746_1, z1746_2, f1746_0, f1746_1, f1746_2⟩ := cz3 BK1746
        try go_wp2_with (first | ((with_reducible refine gate_callee (f := 111) rfl ?_); refine gL (some 40) Try.func111 #[.agg #[.int .i64 a0_0, .int .i64 a0_1, .int .i64 a0_2], .int .i64 x9_2, .int .i64 a2] ?_; (with_reducible refine zCall (barscanref05_times.calls k2 a0_0 a0_1 a0_2 x9_2 a2 t1752 _ A20.out) ?_); intro w25 hb; replace BK1746 := bB BK1746 hb; replace HB := bS hb; (try clear hb)))
        go_roundg k2
        case measure => have := HJ3.out; have := HK2.out; omega
        case rel => exact ⟨(t1751), (t1752), (wrap64 (x10_2 + 1)), zR, zR, zR, H', ⟨by have := HJ3.out; have := HK2.out; omega⟩, ⟨zK BK1746⟩, ⟨zB⟩⟩
       ·rw [if_neg c17] at H
        exact absurd H (by simp)
      ·rw [if_neg c16] at H
       have c16b0 : decide (x10_2 < (l1.length : Int)) = false := decide_eq_false c16
       clear c16
       simp only [Option.some.injEq, Prod.mk.injEq] at H
       obtain ⟨rfl, rfl⟩ := H
       go_wp2
       go_ret2
       exact ⟨zE, zB⟩
/-! ### barscanref05_Roots: function 75 -/
def barscanref05_Roots.l0 : Nat → List Int → List Int → Int → Int → Int → Int → Option (List Int × Int)
 | 0, _, _, _, _, _, _ => none
 | k + 1, x1, x6, x7, x1754000, x1754001, x1754002 => if x7 < x1754001 then ((barscanref05_Eval.f k x1754000 x1754001 x1754002 x1 x7).bind fun bt1755 => (if bt1755.1 = 0 then (if x6.length < 17592186044416 then (barscanref05_Roots.l0 k x1 (x6 ++ [x7]) (wrap64 (x7 + 1)) x1754000 x1754001 x1754002) else (none)) else (barscanref05_Roots.l0 k x1 x6 (wrap64 (x7 + 1)) x1754000 x1754001 x1754002))) else (some (x6, 0))
def barscanref05_Roots.f (k : Nat) (a0_0 : Int) (a0_1 : Int) (a0_2 : Int) (l1 : List Int) : Option (List Int × Int) := (barscanref05_Valid.f k a0_0 a0_1 a0_2 l1).bind fun t1754 => (if t1754 = true then (if (l1.length : Int) = 0 then (some (([] : List Int), 12)) else (barscanref05_Roots.l0 k l1 ([] : List Int) 0 a0_0 a0_1 a0_2)) else (some (([] : List Int), 1)))
theorem barscanref05_Roots.mono_l : ∀ k, (∀ y0 y1 y2 y3 y4 y5, LeO (barscanref05_Roots.l0 k y0 y1 y2 y3 y4 y5) (barscanref05_Roots.l0 (k + 1) y0 y1 y2 y3 y4 y5))
 | 0 => fun _ _ _ _ _ _ r h => by simp [barscanref05_Roots.l0] at h
 | k + 1 => by
  have ih0 := barscanref05_Roots.mono_l k
  ·intro y0 y1 y2 y3 y4 y5
   unfold barscanref05_Roots.l0
   have m0_ := @barscanref05_Eval.mono
   have m1_ := @barscanref05_Valid.mono
   exact zMo
theorem barscanref05_Roots.mono : ∀ a0 a1 a2 a3 k, LeO (barscanref05_Roots.f k a0 a1 a2 a3) (barscanref05_Roots.f (k + 1) a0 a1 a2 a3) := by
 intro a0 a1 a2 a3 k
 have ih0 := barscanref05_Roots.mono_l k
 unfold barscanref05_Roots.f
 have m0_ := @barscanref05_Eval.mono
 have m1_ := @barscanref05_Valid.mono
 exact zMo
theorem barscanref05_Roots.calls (k : Nat) (a0_0 : Int) (a0_1 : Int) (a0_2 : Int) (A1 : Option Addr) (c1 : Nat) (l1 : List Int) (r1 : List Int) (r2 : Int) (w : World) (hr1 : Kd.C (Kd.int .i64) w A1 l1.length l1) (hc1 : l1.length ≤ c1) (h : barscanref05_Roots.f k a0_0 a0_1 a0_2 l1 = some (r1, r2)) :
  Calls Try.prog 75 #[.agg #[.int .i64 a0_0, .int .i64 a0_1, .int .i64 a0_2], .slice A1 l1.length c1] w fun e w' => ∃ v0_ : Value, e = .returned (.tuple #[v0_, .int .i64 r2]) ∧ Kd.R (Kd.int .i64) 3 w' w.heap.size (fun _ => True) v0_ r1 ∧ Below w.heap.size w w' := by
 have hu23 := Try.underlying23
 have HR1 := Aside0.mk hr1
 have HC1 := Aside0.mk hc1
 clear hr1 hc1
 have HB := Aside0.mk (Below.refl w.heap.size w)
 have H := h
 unfold barscanref05_Roots.f at H
 clear h
 obtain ⟨t1754, A3, H⟩ := zD H
 by_cases c4 : t1754 = true
 ·subst c4
  rw [if_pos rfl] at H
  by_cases c5 : (l1.length : Int) = 0
  ·rw [if_pos c5] at H
   have c5b0 := beq_iff_eq.mpr c5
   have c5b1 := bne_eq_false_iff_eq.mpr c5
   clear c5
   simp only [Option.some.injEq, Prod.mk.injEq] at H
   obtain ⟨rfl, rfl⟩ := H
   go_enter Try.func75, Try.ntmps75
   go_wp2_with (first | ((with_reducible refine gate_dst (N := 2) rfl ?_); refine zBox 2 #[.int .i64 a0_0, .int .i64 a0_1, .int .i64 a0_2] 23 ?_; clear HB; intro gb1753 w6 BK1753 GE1753 HB; (try clear z1753_0 z1753_1 z1753_2 f1753_0 f1753_1 f1753_2); obtain ⟨z1753_0, z1753_1, z1753_2, f1753_0, f1753_1, f1753_2⟩ := cz3 BK1753) | ((with_reducible refine gate_callee (f := 82) rfl ?_); refine gL (some 12) Try.func82 #[.agg #[.int .i64 a0_0, .int .i64 a0_1, .int .i64 a0_2], .slice A1 l1.length c1] ?_; (with_reducible refine zCall (barscanref05_Valid.calls k a0_0 a0_1 a0_2 _ _ l1 true _ ?side1 ?side2 A3.out) ?_); (case side1 => exact zN HR1); (case side2 => exact HC1.out); intro w8 hb; replace BK1753 := bB BK1753 hb; replace HB := bS hb; (try clear hb)))
   go_ret2
   exact ⟨_, zE, by first | exact Kd.R_nil _ _ _ _ _ | exact Kd.N_nil _ _ _ _ _ | exact Kd.V_nil _ _ _ _ _ | exact Kd.Q_nil _ _ _ _ _ | exact Kd.S_nil _ _ _ _ _, zB⟩
  ·rw [if_neg c5] at H
   have c5b0 := beq_eq_false_iff_ne.mpr c5
   have c5b1 := bne_iff_ne.mpr c5
   have c5b2 : ¬ (l1 = []) := fun h_ => c5 (by rw [h_]; rfl)
   have H' := zA H
   clear H
   go_enter Try.func75, Try.ntmps75
   go_wp2_with (first | ((with_reducible refine gate_dst (N := 2) rfl ?_); refine zBox 2 #[.int .i64 a0_0, .int .i64 a0_1, .int .i64 a0_2] 23 ?_; clear HB; intro gb1753 w9 BK1753 GE1753 HB; (try clear z1753_0 z1753_1 z1753_2 f1753_0 f1753_1 f1753_2); obtain ⟨z1753_0, z1753_1, z1753_2, f1753_0, f1753_1, f1753_2⟩ := cz3 BK1753) | ((with_reducible refine gate_callee (f := 82) rfl ?_); refine gL (some 12) Try.func82 #[.agg #[.int .i64 a0_0, .int .i64 a0_1, .int .i64 a0_2], .slice A1 l1.length c1] ?_; (with_reducible refine zCall (barscanref05_Valid.calls k a0_0 a0_1 a0_2 _ _ l1 true _ ?side1 ?side2 A3.out) ?_); (case side1 => exact zN HR1); (case side2 => exact HC1.out); intro w11 hb; replace BK1753 := bB BK1753 hb; replace HB := bS hb; (try clear hb)))
   go_loopg [6, 7] k (fun kq v6 v7 w' => ∃ (x6_1 : List Int) (x7_1 : Int), v7 = .int .i64 x7_1 ∧ Aside0 (barscanref05_Roots.l0 kq l1 x6_1 x7_1 a0_0 a0_1 a0_2 = some (r1, r2)) ∧ Aside0 (kq ≤ k) ∧ Aside0 (Kd.R (Kd.int .i64) 3 w' w.heap.size (fun _ => True) v6 x6_1) ∧ Aside0 (w'.heap[gb1753]? = some (.cells #[.int .i64 a0_0, .int .i64 a0_1, .int .i64 a0_2] 23 (0, 0))) ∧ Aside0 (Below w.heap.size w w'))
   case atStart => exact ⟨(([] : List Int)), (0), zR, H', ⟨Nat.le_refl _⟩, ⟨by first | exact Kd.R_nil _ _ _ _ _ | exact Kd.N_nil _ _ _ _ _ | exact Kd.V_nil _ _ _ _ _ | exact Kd.Q_nil _ _ _ _ _ | exact Kd.S_nil _ _ _ _ _⟩, ⟨zK BK1753⟩, ⟨zB⟩⟩
   case round =>
    clear H'
    try clear c1
    try clear p2
    try clear c4
    try clear c5
    try clear c5b0
    try clear c5b1
    try clear c5b2
    try clear c7
    try clear c8
    try clear z1753_0 z1753_1 z1753_2 f1753_0 f1753_1 f1753_2
    obtain ⟨x6_1, x7_1, rfl, HA, HK1, HO_6, BK1753, HB⟩ := hrel
    cases gk with
    | zero => exact absurd HA.out (by simp [barscanref05_Roots.l0])
    | succ k1 =>
     have H := HA.out
     clear HA
     simp only [barscanref05_Roots.l0] at H
     by_cases c12 : x7_1 < a0_1
     ·rw [if_pos c12] at H
      have c12b0 : decide (x7_1 < a0_1) = true := decide_eq_true c12
      clear c12
      obtain ⟨⟨t1755, t1756⟩, A13, H⟩ := zD H
      dsimp only at H
      by_cases c14 : t1755 = 0
      ·rw [if_pos c14] at H
       have c14b0 := beq_iff_eq.mpr c14
       have c14b1 := bne_eq_false_iff_eq.mpr c14
       clear c14
       by_cases c15 : x6_1.length < 17592186044416
       ·rw [if_pos c15] at H
        have LMc15 := Aside0.mk c15
        clear c15
        obtain ⟨y1757, hy1757⟩ : ∃ y_ : List Int, y_ = (x6_1 ++ [x7_1]) := ⟨_, rfl⟩
        replace H : (barscanref05_Roots.l0 k1 l1 y1757 (wrap64 (x7_1 + 1)) a0_0 a0_1 a0_2) = some (r1, r2) := by first | (rw [hy1757]; with_reducible exact H) | (have H2_ := (Option.bind_some _ _).symm.trans H; rw [hy1757]; with_reducible exact H2_) | (have H2_ := (Option.bind_some _ _).symm.trans H; with_reducible exact H2_) | with_reducible exact H | (rw [hy1757]; exact H) | exact H
        have Ny1757 := Aside0.mk hy1757
        clear hy1757
        have H' := zA H
        clear H
        (try clear z1753_0 z1753_1 z1753_2 f1753_0 f1753_1 f1753_2)
        obtain ⟨z1753_0, z1753_1, z1753_2, f1753_0, f1753_1, f1753_2⟩ := cz3 BK1753
        go_wp2_with (first | ((with_reducible refine gate_callee (f := 73) rfl ?_); refine gL (some 27) Try.func73 #[.agg #[.int .i64 a0_0, .int .i64 a0_1, .int .i64 a0_2], .slice A1 l1.length c1, .int .i64 x7_1] ?_; (with_reducible refine zCall (barscanref05_Eval.calls k1 a0_0 a0_1 a0_2 _ _ l1 x7_1 t1755 t1756 _ ?side1 ?side2 A13.out) ?_); (case side1 => exact zN HR1); (case side2 => exact HC1.out); intro w17 hb; replace HO_6 := Aside0.mk (Kd.R_below (zO HO_6) hb); replace BK1753 := bB BK1753 hb; replace HB := bS hb; (try clear hb)) | ((with_reducible refine gate_builtin (b := .append) (xs := #[.tmp 32, .tmp 34]) rfl ?_); at_builtin; refine Kd.R_append (Kd.int .i64) (w0 := w) w.heap.size rfl (.tmp 32) (.tmp 34) 45 3 (.int .i64 0) 8 rfl Try.underlying45 info3 rfl (by decide) (by omega) u6 x6_1 x7_1 [.int .i64 x7_1] (fun _ => True) (fun _ => False) rfl rfl ?aP (fun _ hk => hk.elim) ?aF ?aO ?aB ?aS ?aL ?_; (case aP => exact rfl); (case aB => exact zB); (case aF => exact (fun _ _ => trivial)); (case aO => exact (zO HO_6)); (case aS => exact (below_size zB)); (case aL => have := LMc15.out; omega); intro v1758 w18 ho hb hg hat; rw [← Ny1757.out] at ho; replace BK1753 := Aside0.mk (blk_grown (g := gb1753) (o := .cells #[.int .i64 a0_0, .int .i64 a0_1, .int .i64 a0_2] 23 (0, 0)) (zK BK1753) hg (Kd.R_ne HO_6.out BK1753.out (by decide))); replace HB := Aside0.mk (hb); have HO1759 := Aside0.mk (ho); clear HO_6; clear ho hb hg hat))
        go_roundg k1
        case measure => have := HK1.out; omega
        case rel => exact ⟨(y1757), (wrap64 (x7_1 + 1)), zR, H', zH, ⟨zO HO1759⟩, ⟨zK BK1753⟩, ⟨zB⟩⟩
       ·rw [if_neg c15] at H
        exact absurd H (by simp)
      ·rw [if_neg c14] at H
       have c14b0 := beq_eq_false_iff_ne.mpr c14
       have c14b1 := bne_iff_ne.mpr c14
       have H' := zA H
       clear H
       (try clear z1753_0 z1753_1 z1753_2 f1753_0 f1753_1 f1753_2)
       obtain ⟨z1753_0, z1753_1, z1753_2, f1753_0, f1753_1, f1753_2⟩ := cz3 BK1753
       go_wp2_with (first | ((with_reducible refine gate_callee (f := 73) rfl ?_); refine gL (some 27) Try.func73 #[.agg #[.int .i64 a0_0, .int .i64 a0_1, .int .i64 a0_2], .slice A1 l1.length c1, .int .i64 x7_1] ?_; (with_reducible refine zCall (barscanref05_Eval.calls k1 a0_0 a0_1 a0_2 _ _ l1 x7_1 t1755 t1756 _ ?side1 ?side2 A13.out) ?_); (case side1 => exact zN HR1); (case side2 => exact HC1.out); intro w20 hb; replace HO_6 := Aside0.mk (Kd.R_below (zO HO_6) hb); replace BK1753 := bB BK1753 hb; replace HB := bS hb; (try clear hb)))
       go_roundg k1
       case measure => have := HK1.out; omega
       case rel => exact ⟨(x6_1), (wrap64 (x7_1 + 1)), zR, H', zH, ⟨zO HO_6⟩, ⟨zK BK1753⟩, ⟨zB⟩⟩
     ·rw [if_neg c12] at H
      have c12b0 : decide (x7_1 < a0_1) = false := decide_eq_false c12
      clear c12
      simp only [Option.some.injEq, Prod.mk.injEq] at H
      obtain ⟨rfl, rfl⟩ := H
      (try clear z1753_0 z1753_1 z1753_2 f1753_0 f1753_1 f1753_2)
      obtain ⟨z1753_0, z1753_1, z1753_2, f1753_0, f1753_1, f1753_2⟩ := cz3 BK1753
      go_wp2
      go_ret2
      exact ⟨_, zE, by (with_reducible repeat (first | apply Kd.R_alloc | apply Kd.R_drewN | apply Kd.R_drew)); exact HO_6.out, zB⟩
 ·replace c4 := Bool.eq_false_iff.mpr c4
  subst c4
  rw [if_neg (show ¬ (false = true) by decide)] at H
  simp only [Option.some.injEq, Prod.mk.injEq] at H
  obtain ⟨rfl, rfl⟩ := H
  go_enter Try.func75, Try.ntmps75
  go_wp2_with (first | ((with_reducible refine gate_dst (N := 2) rfl ?_); refine zBox 2 #[.int .i64 a0_0, .int .i64 a0_1, .int .i64 a0_2] 23 ?_; clear HB; intro gb1753 w22 BK1753 GE1753 HB; (try clear z1753_0 z1753_1 z1753_2 f1753_0 f1753_1 f1753_2); obtain ⟨z1753_0, z1753_1, z1753_2, f1753_0, f1753_1, f1753_2⟩ := cz3 BK1753) | ((with_reducible refine gate_callee (f := 82) rfl ?_); refine gL (some 12) Try.func82 #[.agg #[.int .i64 a0_0, .int .i64 a0_1, .int .i64 a0_2], .slice A1 l1.length c1] ?_; (with_reducible refine zCall (barscanref05_Valid.calls k a0_0 a0_1 a0_2 _ _ l1 false _ ?side1 ?side2 A3.out) ?_); (case side1 => exact zN HR1); (case side2 => exact HC1.out); intro w24 hb; replace BK1753 := bB BK1753 hb; replace HB := bS hb; (try clear hb)))
  go_ret2
  exact ⟨_, zE, by first | exact Kd.R_nil _ _ _ _ _ | exact Kd.N_nil _ _ _ _ _ | exact Kd.V_nil _ _ _ _ _ | exact Kd.Q_nil _ _ _ _ _ | exact Kd.S_nil _ _ _ _ _, zB⟩
end Go.Proofs.Ytlhaclammaaabaa.Pg
