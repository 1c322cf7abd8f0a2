-- Written by a program of this session over the print of the kit.
import Derived.Test.YtlhaclammaaabaaY
import Derived.Test.YtlhaclammaaabaaB3
namespace Go.Proofs.Ytlhaclammaaabaa.Pg
open Go.RowKit Go.Proofs.YtlhaclammaaabaaW.PrintWords Go.Proofs.YtlhaclammaaabaaW.PrintLast Go.Proofs.YtlhaclammaaabaaW.PrintMore
attribute [local go_sem] max2_int min2_int max_two min_two max_three min_three max_four min_four
set_option linter.unusedVariables false
set_option maxHeartbeats 8000000
set_option maxRecDepth 100000
set_option linter.unusedSimpArgs false
/-! ### polynomial_Trim: function 70 -/
def polynomial_Trim.f (k : Nat) (l0 : List Int) : Option (List Int) := (polynomial_trimmed_int.f k l0).bind fun t1648 => (some t1648)
theorem polynomial_Trim.mono : ∀ a0 k, LeO (polynomial_Trim.f k a0) (polynomial_Trim.f (k + 1) a0) := by
 intro a0 k
 unfold polynomial_Trim.f
 have m0_ := @polynomial_trimmed_int.mono
 exact zMo
theorem polynomial_Trim.calls (k : Nat) (A0 : Option Addr) (c0 : Nat) (l0 : List Int) (r : List Int) (w : World) (hr0 : Kd.C (Kd.int .i64) w A0 l0.length l0) (hc0 : l0.length ≤ c0) (h : polynomial_Trim.f k l0 = some r) :
  Calls Try.prog 70 #[.slice A0 l0.length c0] w fun e w' => ∃ v0_ : Value, e = .returned (v0_) ∧ Kd.R (Kd.int .i64) 3 w' w.heap.size (fun _ => True) v0_ r ∧ Below w.heap.size w w' := by
 have HR0 := Aside0.mk hr0
 have HC0 := Aside0.mk hc0
 clear hr0 hc0
 have HB := Aside0.mk (Below.refl w.heap.size w)
 have H := h
 unfold polynomial_Trim.f at H
 clear h
 obtain ⟨t1648, A2, H⟩ := zD H
 obtain rfl := Option.some.inj H
 go_enter Try.func70, Try.ntmps70
 go_wp2_with (first | ((with_reducible refine gate_callee (f := 124) rfl ?_); refine gL (some 4) Try.func124 #[.slice A0 l0.length c0] ?_; (with_reducible refine (polynomial_trimmed_int.calls k (fun k_ => k_ < w.heap.size) _ _ l0 t1648 _ ?side1 A2.out).mono ?_); (case side1 => exact Kd.V_mk HC0.out (Kd.F_below (Kd.C_F (Kd.heap_int .i64) HR0.out) zB)); rintro e w3 ⟨v1649, rfl, ho0, hb⟩; refine ⟨_, rfl, ?_⟩; have HO1650 := Aside0.mk (Kd.R_lower (Kd.R_mono (ok' := fun k_ => True) ho0 (fun _ hk_ => trivial)) (below_size zB)); replace HB := bS hb; (try clear hb); (try clear ho0)))
 go_ret
 exact ⟨_, zE, by (with_reducible repeat (first | apply Kd.R_alloc | apply Kd.R_drewN | apply Kd.R_drew)); exact HO1650.out, zB⟩
end Go.Proofs.Ytlhaclammaaabaa.Pg
