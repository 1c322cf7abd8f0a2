-- Written by a program of this session over the print of the kit.
import Derived.Test.YtlhaclammaaabaaY
import Derived.Test.YtlhaclammaaabaaB5
namespace Go.Proofs.Ytlhaclammaaabaa.Pg
open Go.RowKit Go.Proofs.YtlhaclammaaabaaW.PrintWords Go.Proofs.YtlhaclammaaabaaW.PrintLast Go.Proofs.YtlhaclammaaabaaW.PrintMore
attribute [local go_sem] max2_int min2_int max_two min_two max_three min_three max_four min_four
set_option linter.unusedVariables false
set_option maxHeartbeats 8000000
set_option maxRecDepth 100000
set_option linter.unusedSimpArgs false
/-! ### barscanlaw05_add: function 56 -/
def barscanlaw05_add.f (k : Nat) (a0_0 : Int) (a0_1 : Int) (a0_2 : Int) (l1 : List Int) (l2 : List Int) : Option (List Int) := (polynomial_Add.f k a0_0 a0_1 a0_2 l1 l2).bind fun bt1182 => (some bt1182.1)
theorem barscanlaw05_add.mono : ∀ a0 a1 a2 a3 a4 k, LeO (barscanlaw05_add.f k a0 a1 a2 a3 a4) (barscanlaw05_add.f (k + 1) a0 a1 a2 a3 a4) := by
 intro a0 a1 a2 a3 a4 k
 unfold barscanlaw05_add.f
 have m0_ := @polynomial_Add.mono
 exact zMo
theorem barscanlaw05_add.calls (k : Nat) (a0_0 : Int) (a0_1 : Int) (a0_2 : Int) (A1 : Option Addr) (c1 : Nat) (l1 : List Int) (A2 : Option Addr) (c2 : Nat) (l2 : List Int) (r : List Int) (w : World) (hr1 : Kd.C (Kd.int .i64) w A1 l1.length l1) (hc1 : l1.length ≤ c1) (hr2 : Kd.C (Kd.int .i64) w A2 l2.length l2) (hc2 : l2.length ≤ c2) (h : barscanlaw05_add.f k a0_0 a0_1 a0_2 l1 l2 = some r) :
  Calls Try.prog 56 #[.agg #[.int .i64 a0_0, .int .i64 a0_1, .int .i64 a0_2], .slice A1 l1.length c1, .slice A2 l2.length c2] w fun e w' => ∃ v0_ : Value, e = .returned (v0_) ∧ Kd.R (Kd.int .i64) 3 w' w.heap.size (fun _ => True) v0_ r ∧ Below w.heap.size w w' := by
 have hu23 := Try.underlying23
 have HR1 := Aside0.mk hr1
 have HC1 := Aside0.mk hc1
 clear hr1 hc1
 have HR2 := Aside0.mk hr2
 have HC2 := Aside0.mk hc2
 clear hr2 hc2
 have HB := Aside0.mk (Below.refl w.heap.size w)
 have H := h
 unfold barscanlaw05_add.f at H
 clear h
 obtain ⟨⟨t1182, t1185⟩, A4, H⟩ := zD H
 dsimp only at H
 obtain rfl := Option.some.inj H
 go_enter Try.func56, Try.ntmps56
 go_wp2_with (first | ((with_reducible refine gate_dst (N := 3) rfl ?_); refine zBox 3 #[.int .i64 a0_0, .int .i64 a0_1, .int .i64 a0_2] 23 ?_; clear HB; intro gb1181 w5 BK1181 GE1181 HB; (try clear z1181_0 z1181_1 z1181_2 f1181_0 f1181_1 f1181_2); obtain ⟨z1181_0, z1181_1, z1181_2, f1181_0, f1181_1, f1181_2⟩ := cz3 BK1181) | ((with_reducible refine gate_callee (f := 71) rfl ?_); refine gL (some 13) Try.func71 #[.agg #[.int .i64 a0_0, .int .i64 a0_1, .int .i64 a0_2], .slice A1 l1.length c1, .slice A2 l2.length c2] ?_; (with_reducible refine (polynomial_Add.calls k a0_0 a0_1 a0_2 _ _ l1 _ _ l2 t1182 t1185 _ ?side1 ?side2 ?side3 ?side4 A4.out).mono ?_); (case side1 => exact zN HR1); (case side2 => exact HC1.out); (case side3 => exact zN HR2); (case side4 => exact HC2.out); rintro e w7 ⟨v1183, rfl, ho0, hb⟩; refine ⟨_, rfl, ?_⟩; have HO1184 := Aside0.mk (Kd.R_lower ho0 (below_size zB)); replace BK1181 := bB BK1181 hb; replace HB := bS hb; (try clear hb); (try clear ho0)))
 go_ret
 exact ⟨_, zE, by (with_reducible repeat (first | apply Kd.R_alloc | apply Kd.R_drewN | apply Kd.R_drew)); exact HO1184.out, zB⟩
end Go.Proofs.Ytlhaclammaaabaa.Pg
