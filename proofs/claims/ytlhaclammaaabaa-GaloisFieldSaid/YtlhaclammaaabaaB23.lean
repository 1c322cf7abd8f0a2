-- Written by a program of this session over the print of the kit.
import Derived.Test.YtlhaclammaaabaaY
namespace Go.Proofs.Ytlhaclammaaabaa.Pg
open Go.RowKit Go.Proofs.YtlhaclammaaabaaW.PrintWords Go.Proofs.YtlhaclammaaabaaW.PrintLast Go.Proofs.YtlhaclammaaabaaW.PrintMore
attribute [local go_sem] max2_int min2_int max_two min_two max_three min_three max_four min_four
set_option linter.unusedVariables false
set_option maxHeartbeats 8000000
set_option maxRecDepth 100000
set_option linter.unusedSimpArgs false
/-! ### galois_exponent: function 105 -/
def galois_exponent.f (a0_0 : Int) (a0_1 : Int) (a0_2 : Int) (a1 : Int) : Option (Int) := if (wrap64 (a0_1 - 1)) = 0 then (none) else (some (Int.tmod (wrap64 ((Int.tmod a1 (wrap64 (a0_1 - 1))) + (wrap64 (a0_1 - 1)))) (wrap64 (a0_1 - 1))))
theorem galois_exponent.calls (a0_0 : Int) (a0_1 : Int) (a0_2 : Int) (a1 : Int) (r : Int) (w : World) (h : galois_exponent.f a0_0 a0_1 a0_2 a1 = some r) :
  Calls Try.prog 105 #[.agg #[.int .i64 a0_0, .int .i64 a0_1, .int .i64 a0_2], .int .i64 a1] w fun e w' => e = .returned (.int .i64 r) ∧ Below w.heap.size w w' := by
 have hu23 := Try.underlying23
 have HB := Aside0.mk (Below.refl w.heap.size w)
 have H := h
 unfold galois_exponent.f at H
 clear h
 by_cases c3 : (wrap64 (a0_1 - 1)) = 0
 ·rw [if_pos c3] at H
  exact absurd H (by simp)
 ·rw [if_neg c3] at H
  have c3b0 := beq_eq_false_iff_ne.mpr c3
  have c3b1 := bne_iff_ne.mpr c3
  obtain rfl := Option.some.inj H
  go_enter Try.func105, Try.ntmps105
  go_wp2_with (first | ((with_reducible refine gate_dst (N := 2) rfl ?_); refine zBox 2 #[.int .i64 a0_0, .int .i64 a0_1, .int .i64 a0_2] 23 ?_; clear HB; intro gb1148 w4 BK1148 GE1148 HB; (try clear z1148_0 z1148_1 z1148_2 f1148_0 f1148_1 f1148_2); obtain ⟨z1148_0, z1148_1, z1148_2, f1148_0, f1148_1, f1148_2⟩ := cz3 BK1148))
  go_ret
  exact ⟨zE, zB⟩
end Go.Proofs.Ytlhaclammaaabaa.Pg
