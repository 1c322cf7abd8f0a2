-- Written by a program of this session over the print of the kit.
import Derived.Test.YtlhaclammaaabaaY
import Derived.Test.YtlhaclammaaabaaB3
namespace Go.Proofs.Ytlhaclammaaabaa.Pg
open Go.RowKit Go.Proofs.YtlhaclammaaabaaW.PrintWords Go.Proofs.YtlhaclammaaabaaW.PrintLast Go.Proofs.YtlhaclammaaabaaW.PrintMore
attribute [local go_sem] max2_int min2_int max_two min_two max_three min_three max_four min_four
set_option linter.unusedVariables false
set_option maxHeartbeats 8000000
set_option maxRecDepth 100000
set_option linter.unusedSimpArgs false
/-! ### barscanlaw05_valid: function 47 -/
def barscanlaw05_valid.l0 : Nat → Int → List (List Int) → Int → Int → Int → Int → Int → Option (Bool)
 | 0, _, _, _, _, _, _, _ => none
 | k + 1, x1, x9, x10, x11, x869000, x869001, x869002 => if x11 < x10 then (if 0 ≤ x11 then (if x11 < (x9.length : Int) then (if ((rd_L1 x9 x11).length : Int) > x1 then (some false) else ((polynomial_Valid.f k x869000 x869001 x869002 (rd_L1 x9 x11)).bind fun t870 => (if t870 = true then (barscanlaw05_valid.l0 k x1 x9 x10 (wrap64 (x11 + 1)) x869000 x869001 x869002) else (some false)))) else (none)) else (none)) else (some true)
def barscanlaw05_valid.f (k : Nat) (a0_0 : Int) (a0_1 : Int) (a0_2 : Int) (a1 : Int) (l2 : List (List Int)) : Option (Bool) := barscanlaw05_valid.l0 k a1 l2 (l2.length : Int) 0 a0_0 a0_1 a0_2
theorem barscanlaw05_valid.mono_l : ∀ k, (∀ y0 y1 y2 y3 y4 y5 y6, LeO (barscanlaw05_valid.l0 k y0 y1 y2 y3 y4 y5 y6) (barscanlaw05_valid.l0 (k + 1) y0 y1 y2 y3 y4 y5 y6))
 | 0 => fun _ _ _ _ _ _ _ r h => by simp [barscanlaw05_valid.l0] at h
 | k + 1 => by
  have ih0 := barscanlaw05_valid.mono_l k
  ·intro y0 y1 y2 y3 y4 y5 y6
   unfold barscanlaw05_valid.l0
   have m0_ := @polynomial_Valid.mono
   exact zMo
theorem barscanlaw05_valid.mono : ∀ a0 a1 a2 a3 a4 k, LeO (barscanlaw05_valid.f k a0 a1 a2 a3 a4) (barscanlaw05_valid.f (k + 1) a0 a1 a2 a3 a4) := by
 intro a0 a1 a2 a3 a4 k
 have ih0 := barscanlaw05_valid.mono_l k
 unfold barscanlaw05_valid.f
 have m0_ := @polynomial_Valid.mono
 exact zMo
theorem barscanlaw05_valid.calls (k : Nat) (a0_0 : Int) (a0_1 : Int) (a0_2 : Int) (a1 : Int) (A2 : Option Addr) (c2 : Nat) (l2 : List (List Int)) (r : Bool) (w : World) (hr2 : Kd.C (Kd.slice 3 (Kd.int .i64)) w A2 l2.length l2) (hc2 : l2.length ≤ c2) (h : barscanlaw05_valid.f k a0_0 a0_1 a0_2 a1 l2 = some r) :
  Calls Try.prog 47 #[.agg #[.int .i64 a0_0, .int .i64 a0_1, .int .i64 a0_2], .int .i64 a1, .slice A2 l2.length c2] w fun e w' => e = .returned (.bool r) ∧ Below w.heap.size w w' := by
 have hu23 := Try.underlying23
 have HR2 := Aside0.mk hr2
 have HC2 := Aside0.mk hc2
 clear hr2 hc2
 have HB := Aside0.mk (Below.refl w.heap.size w)
 have H := h
 unfold barscanlaw05_valid.f at H
 clear h
 have H' := zA H
 clear H
 go_enter Try.func47, Try.ntmps47
 go_wp2_with (first | ((with_reducible refine gate_dst (N := 3) rfl ?_); refine zBox 3 #[.int .i64 a0_0, .int .i64 a0_1, .int .i64 a0_2] 23 ?_; clear HB; intro gb868 w4 BK868 GE868 HB))
 go_loopg [11] k (fun kq v11 w' => ∃ (x11_1 : Int), v11 = .int .i64 x11_1 ∧ Aside0 (barscanlaw05_valid.l0 kq a1 l2 (l2.length : Int) x11_1 a0_0 a0_1 a0_2 = some r) ∧ Aside0 (kq ≤ k) ∧ Aside0 (w'.heap[gb868]? = some (.cells #[.int .i64 a0_0, .int .i64 a0_1, .int .i64 a0_2] 23 (0, 0))) ∧ Aside0 (Below w.heap.size w w'))
 case atStart => exact ⟨(0), zR, H', ⟨Nat.le_refl _⟩, ⟨zK BK868⟩, ⟨zB⟩⟩
 case round =>
  clear H'
  try clear c2
  try clear p2
  try clear c4
  obtain ⟨x11_1, rfl, HA, HK1, BK868, HB⟩ := hrel
  cases gk with
  | zero => exact absurd HA.out (by simp [barscanlaw05_valid.l0])
  | succ k1 =>
   have H := HA.out
   clear HA
   simp only [barscanlaw05_valid.l0] at H
   by_cases c5 : x11_1 < (l2.length : Int)
   ·rw [if_pos c5] at H
    have c5b0 : decide (x11_1 < (l2.length : Int)) = true := decide_eq_true c5
    clear c5
    by_cases c6 : 0 ≤ x11_1
    ·rw [if_pos c6] at H
     have c6b0 : decide (0 ≤ x11_1) = true := decide_eq_true c6
     clear c6
     by_cases c7 : x11_1 < (l2.length : Int)
     ·rw [if_pos c7] at H
      have c7b0 : decide (x11_1 < (l2.length : Int)) = true := decide_eq_true c7
      clear c7
      by_cases c8 : ((rd_L1 l2 x11_1).length : Int) > a1
      ·rw [if_pos c8] at H
       have c8b0 : decide (a1 < ((rd_L1 l2 x11_1).length : Int)) = true := decide_eq_true c8
       clear c8
       obtain rfl := Option.some.inj H
       have p869 : 0 ≤ (x11_1 : Int) := of_decide_eq_true (by first | (with_reducible assumption) | assumption)
       have q869 : x11_1 < (l2.length : Int) := of_decide_eq_true (by first | (with_reducible assumption) | assumption)
       obtain ⟨ad869, A869_0, c869_0, e869, hx869_0, hl869_0, hi869_0⟩ := at_L1 HR2.out x11_1 p869 q869
       cases e869
       replace hx869_0 := (HB.out.cell (World.block_lt_of_cell? w _ hx869_0)).trans hx869_0
       have HR869_0 := Aside0.mk hi869_0
       have HC869_0 := Aside0.mk hl869_0
       clear hi869_0 hl869_0
       replace p869 := eq_true p869
       replace q869 := eq_true q869
       go_wp2
       go_ret
       exact ⟨zE, zB⟩
      ·rw [if_neg c8] at H
       have c8b0 : decide (a1 < ((rd_L1 l2 x11_1).length : Int)) = false := decide_eq_false c8
       clear c8
       obtain ⟨t870, A9, H⟩ := zD H
       by_cases c10 : t870 = true
       ·subst c10
        rw [if_pos rfl] at H
        have H' := zA H
        clear H
        have p869 : 0 ≤ (x11_1 : Int) := of_decide_eq_true (by first | (with_reducible assumption) | assumption)
        have q869 : x11_1 < (l2.length : Int) := of_decide_eq_true (by first | (with_reducible assumption) | assumption)
        obtain ⟨ad869, A869_0, c869_0, e869, hx869_0, hl869_0, hi869_0⟩ := at_L1 HR2.out x11_1 p869 q869
        cases e869
        replace hx869_0 := (HB.out.cell (World.block_lt_of_cell? w _ hx869_0)).trans hx869_0
        have HR869_0 := Aside0.mk hi869_0
        have HC869_0 := Aside0.mk hl869_0
        clear hi869_0 hl869_0
        replace p869 := eq_true p869
        replace q869 := eq_true q869
        (try clear z868_0 z868_1 z868_2 f868_0 f868_1 f868_2)
        obtain ⟨z868_0, z868_1, z868_2, f868_0, f868_1, f868_2⟩ := cz3 BK868
        go_wp2_with (first | (go_at_call 81; (with_reducible refine (polynomial_Valid.calls k1 a0_0 a0_1 a0_2 _ _ (rd_L1 l2 x11_1) true _ ?side1 ?side2 A9.out).mono ?_); (case side1 => repeat (first | exact (Kd.C_below HR869_0.out HB.out) | (with_reducible refine Kd.C_alloc ?_ _) | (with_reducible refine Kd.C_drewN ?_ _) | (with_reducible refine Kd.C_drew ?_))); (case side2 => exact HC869_0.out); rintro e w12 ⟨rfl, hb⟩; replace BK868 := bB BK868 hb; replace HB := bS hb; (try clear hb)))
        go_roundg k1
        case measure => have := HK1.out; omega
        case rel => exact ⟨(wrap64 (x11_1 + 1)), zR, H', zH, ⟨zK BK868⟩, ⟨zB⟩⟩
       ·replace c10 := Bool.eq_false_iff.mpr c10
        subst c10
        rw [if_neg (show ¬ (false = true) by decide)] at H
        obtain rfl := Option.some.inj H
        have p869 : 0 ≤ (x11_1 : Int) := of_decide_eq_true (by first | (with_reducible assumption) | assumption)
        have q869 : x11_1 < (l2.length : Int) := of_decide_eq_true (by first | (with_reducible assumption) | assumption)
        obtain ⟨ad869, A869_0, c869_0, e869, hx869_0, hl869_0, hi869_0⟩ := at_L1 HR2.out x11_1 p869 q869
        cases e869
        replace hx869_0 := (HB.out.cell (World.block_lt_of_cell? w _ hx869_0)).trans hx869_0
        have HR869_0 := Aside0.mk hi869_0
        have HC869_0 := Aside0.mk hl869_0
        clear hi869_0 hl869_0
        replace p869 := eq_true p869
        replace q869 := eq_true q869
        (try clear z868_0 z868_1 z868_2 f868_0 f868_1 f868_2)
        obtain ⟨z868_0, z868_1, z868_2, f868_0, f868_1, f868_2⟩ := cz3 BK868
        go_wp2_with (first | (go_at_call 81; (with_reducible refine (polynomial_Valid.calls k1 a0_0 a0_1 a0_2 _ _ (rd_L1 l2 x11_1) false _ ?side1 ?side2 A9.out).mono ?_); (case side1 => repeat (first | exact (Kd.C_below HR869_0.out HB.out) | (with_reducible refine Kd.C_alloc ?_ _) | (with_reducible refine Kd.C_drewN ?_ _) | (with_reducible refine Kd.C_drew ?_))); (case side2 => exact HC869_0.out); rintro e w14 ⟨rfl, hb⟩; replace BK868 := bB BK868 hb; replace HB := bS hb; (try clear hb)))
        go_ret
        exact ⟨zE, zB⟩
     ·rw [if_neg c7] at H
      exact absurd H (by simp)
    ·rw [if_neg c6] at H
     exact absurd H (by simp)
   ·rw [if_neg c5] at H
    have c5b0 : decide (x11_1 < (l2.length : Int)) = false := decide_eq_false c5
    clear c5
    obtain rfl := Option.some.inj H
    go_wp2
    go_ret
    exact ⟨zE, zB⟩
end Go.Proofs.Ytlhaclammaaabaa.Pg
