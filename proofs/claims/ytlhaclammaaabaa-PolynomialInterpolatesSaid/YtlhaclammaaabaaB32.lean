-- Written by a program of this session over the print of the kit.
import Derived.Test.YtlhaclammaaabaaY
import Derived.Test.YtlhaclammaaabaaB12
namespace Go.Proofs.Ytlhaclammaaabaa.Pg
open Go.RowKit Go.Proofs.YtlhaclammaaabaaW.PrintWords Go.Proofs.YtlhaclammaaabaaW.PrintLast Go.Proofs.YtlhaclammaaabaaW.PrintMore
attribute [local go_sem] max2_int min2_int max_two min_two max_three min_three max_four min_four
set_option linter.unusedVariables false
set_option maxHeartbeats 8000000
set_option maxRecDepth 100000
set_option linter.unusedSimpArgs false
/-! ### barscanref05_less: function 120 -/
def barscanref05_less.f (a0_0 : Int) (a0_1 : Int) (a0_2 : Int) (a1 : Int) (a2 : Int) : Option (Int) := (barscanref04_Minus.f a0_0 a0_1 a0_2 a1 a2).bind fun t1423 => (some t1423)
theorem barscanref05_less.calls (a0_0 : Int) (a0_1 : Int) (a0_2 : Int) (a1 : Int) (a2 : Int) (r : Int) (w : World) (h : barscanref05_less.f a0_0 a0_1 a0_2 a1 a2 = some r) :
  Calls Try.prog 120 #[.agg #[.int .i64 a0_0, .int .i64 a0_1, .int .i64 a0_2], .int .i64 a1, .int .i64 a2] w fun e w' => e = .returned (.int .i64 r) ∧ Below w.heap.size w w' := by
 have hu23 := Try.underlying23
 have HB := Aside0.mk (Below.refl w.heap.size w)
 have H := h
 unfold barscanref05_less.f at H
 clear h
 obtain ⟨t1423, A4, H⟩ := zD H
 obtain rfl := Option.some.inj H
 go_enter Try.func120, Try.ntmps120
 go_wp2_with (first | ((with_reducible refine gate_dst (N := 3) rfl ?_); refine zBox 3 #[.int .i64 a0_0, .int .i64 a0_1, .int .i64 a0_2] 23 ?_; clear HB; intro gb1422 w5 BK1422 GE1422 HB; (try clear z1422_0 z1422_1 z1422_2 f1422_0 f1422_1 f1422_2); obtain ⟨z1422_0, z1422_1, z1422_2, f1422_0, f1422_1, f1422_2⟩ := cz3 BK1422) | ((with_reducible refine gate_callee (f := 98) rfl ?_); refine gL (some 10) Try.func98 #[.agg #[.int .i64 a0_0, .int .i64 a0_1, .int .i64 a0_2], .int .i64 a1, .int .i64 a2] ?_; (with_reducible refine zCall (barscanref04_Minus.calls a0_0 a0_1 a0_2 a1 a2 t1423 _ A4.out) ?_); intro w7 hb; replace BK1422 := bB BK1422 hb; replace HB := bS hb; (try clear hb)))
 go_ret
 exact ⟨zE, zB⟩
end Go.Proofs.Ytlhaclammaaabaa.Pg
