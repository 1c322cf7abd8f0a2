-- Written by a program of this session over the print of the kit.
import Derived.Test.YtlhaclammaaabaaY
import Derived.Test.YtlhaclammaaabaaB42
namespace Go.Proofs.Ytlhaclammaaabaa.Pg
open Go.RowKit Go.Proofs.YtlhaclammaaabaaW.PrintWords Go.Proofs.YtlhaclammaaabaaW.PrintLast Go.Proofs.YtlhaclammaaabaaW.PrintMore
attribute [local go_sem] max2_int min2_int max_two min_two max_three min_three max_four min_four
set_option linter.unusedVariables false
set_option maxHeartbeats 8000000
set_option maxRecDepth 100000
set_option linter.unusedSimpArgs false
/-! ### barscanlaw05_derive: function 72 -/
def barscanlaw05_derive.f (k : Nat) (a0_0 : Int) (a0_1 : Int) (a0_2 : Int) (l1 : List Int) : Option (List Int) := (polynomial_Derive.f k a0_0 a0_1 a0_2 l1).bind fun bt1694 => (some bt1694.1)
theorem barscanlaw05_derive.mono : ∀ a0 a1 a2 a3 k, LeO (barscanlaw05_derive.f k a0 a1 a2 a3) (barscanlaw05_derive.f (k + 1) a0 a1 a2 a3) := by
 intro a0 a1 a2 a3 k
 unfold barscanlaw05_derive.f
 have m0_ := @polynomial_Derive.mono
 exact zMo
theorem barscanlaw05_derive.calls (k : Nat) (a0_0 : Int) (a0_1 : Int) (a0_2 : Int) (A1 : Option Addr) (c1 : Nat) (l1 : List Int) (r : List Int) (w : World) (hr1 : Kd.C (Kd.int .i64) w A1 l1.length l1) (hc1 : l1.length ≤ c1) (h : barscanlaw05_derive.f k a0_0 a0_1 a0_2 l1 = some r) :
  Calls Try.prog 72 #[.agg #[.int .i64 a0_0, .int .i64 a0_1, .int .i64 a0_2], .slice A1 l1.length c1] w fun e w' => ∃ v0_ : Value, e = .returned (v0_) ∧ Kd.R (Kd.int .i64) 3 w' w.heap.size (fun _ => True) v0_ r ∧ Below w.heap.size w w' := by
 have hu23 := Try.underlying23
 have HR1 := Aside0.mk hr1
 have HC1 := Aside0.mk hc1
 clear hr1 hc1
 have HB := Aside0.mk (Below.refl w.heap.size w)
 have H := h
 unfold barscanlaw05_derive.f at H
 clear h
 obtain ⟨⟨t1694, t1697⟩, A3, H⟩ := zD H
 dsimp only at H
 obtain rfl := Option.some.inj H
 go_enter Try.func72, Try.ntmps72
 go_wp2_with (first | ((with_reducible refine gate_dst (N := 2) rfl ?_); refine zBox 2 #[.int .i64 a0_0, .int .i64 a0_1, .int .i64 a0_2] 23 ?_; clear HB; intro gb1693 w4 BK1693 GE1693 HB; (try clear z1693_0 z1693_1 z1693_2 f1693_0 f1693_1 f1693_2); obtain ⟨z1693_0, z1693_1, z1693_2, f1693_0, f1693_1, f1693_2⟩ := cz3 BK1693) | ((with_reducible refine gate_callee (f := 79) rfl ?_); refine gL (some 10) Try.func79 #[.agg #[.int .i64 a0_0, .int .i64 a0_1, .int .i64 a0_2], .slice A1 l1.length c1] ?_; (with_reducible refine (polynomial_Derive.calls k a0_0 a0_1 a0_2 _ _ l1 t1694 t1697 _ ?side1 ?side2 A3.out).mono ?_); (case side1 => exact zN HR1); (case side2 => exact HC1.out); rintro e w6 ⟨v1695, rfl, ho0, hb⟩; refine ⟨_, rfl, ?_⟩; have HO1696 := Aside0.mk (Kd.R_lower ho0 (below_size zB)); replace BK1693 := bB BK1693 hb; replace HB := bS hb; (try clear hb); (try clear ho0)))
 go_ret
 exact ⟨_, zE, by (with_reducible repeat (first | apply Kd.R_alloc | apply Kd.R_drewN | apply Kd.R_drew)); exact HO1696.out, zB⟩
end Go.Proofs.Ytlhaclammaaabaa.Pg
