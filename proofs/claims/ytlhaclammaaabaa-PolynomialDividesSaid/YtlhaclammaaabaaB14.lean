-- Written by a program of this session over the print of the kit.
import Derived.Test.YtlhaclammaaabaaY
import Derived.Test.YtlhaclammaaabaaB13
namespace Go.Proofs.Ytlhaclammaaabaa.Pg
open Go.RowKit Go.Proofs.YtlhaclammaaabaaW.PrintWords Go.Proofs.YtlhaclammaaabaaW.PrintLast Go.Proofs.YtlhaclammaaabaaW.PrintMore
attribute [local go_sem] max2_int min2_int max_two min_two max_three min_three max_four min_four
set_option linter.unusedVariables false
set_option maxHeartbeats 8000000
set_option maxRecDepth 100000
set_option linter.unusedSimpArgs false
/-! ### barscanref04_Inv: function 43 -/
def barscanref04_Inv.f (k : Nat) (a0_0 : Int) (a0_1 : Int) (a0_2 : Int) (a1 : Int) : Option (Int × Int) := (barscanref04_Div.f k a0_0 a0_1 a0_2 1 a1).bind fun bt301 => (some (bt301.1, bt301.2))
theorem barscanref04_Inv.mono : ∀ a0 a1 a2 a3 k, LeO (barscanref04_Inv.f k a0 a1 a2 a3) (barscanref04_Inv.f (k + 1) a0 a1 a2 a3) := by
 intro a0 a1 a2 a3 k
 unfold barscanref04_Inv.f
 have m0_ := @barscanref04_Div.mono
 exact zMo
theorem barscanref04_Inv.calls (k : Nat) (a0_0 : Int) (a0_1 : Int) (a0_2 : Int) (a1 : Int) (r1 : Int) (r2 : Int) (w : World) (h : barscanref04_Inv.f k a0_0 a0_1 a0_2 a1 = some (r1, r2)) :
  Calls Try.prog 43 #[.agg #[.int .i64 a0_0, .int .i64 a0_1, .int .i64 a0_2], .int .i64 a1] w fun e w' => e = .returned (.tuple #[.int .i64 r1, .int .i64 r2]) ∧ Below w.heap.size w w' := by
 have hu23 := Try.underlying23
 have HB := Aside0.mk (Below.refl w.heap.size w)
 have H := h
 unfold barscanref04_Inv.f at H
 clear h
 obtain ⟨⟨t301, t302⟩, A3, H⟩ := zD H
 dsimp only at H
 simp only [Option.some.injEq, Prod.mk.injEq] at H
 obtain ⟨rfl, rfl⟩ := H
 go_enter Try.func43, Try.ntmps43
 go_wp2_with (first | ((with_reducible refine gate_dst (N := 2) rfl ?_); refine zBox 2 #[.int .i64 a0_0, .int .i64 a0_1, .int .i64 a0_2] 23 ?_; clear HB; intro gb300 w4 BK300 GE300 HB; (try clear z300_0 z300_1 z300_2 f300_0 f300_1 f300_2); obtain ⟨z300_0, z300_1, z300_2, f300_0, f300_1, f300_2⟩ := cz3 BK300) | ((with_reducible refine gate_callee (f := 41) rfl ?_); refine gL (some 8) Try.func41 #[.agg #[.int .i64 a0_0, .int .i64 a0_1, .int .i64 a0_2], .int .i64 1, .int .i64 a1] ?_; (with_reducible refine zCall (barscanref04_Div.calls k a0_0 a0_1 a0_2 1 a1 t301 t302 _ A3.out) ?_); intro w6 hb; replace BK300 := bB BK300 hb; replace HB := bS hb; (try clear hb)))
 go_ret2
 exact ⟨zE, zB⟩
end Go.Proofs.Ytlhaclammaaabaa.Pg
