-- Written by a program of this session over the print of the kit.
import Derived.Test.YtlhaclammaaabaaY
import Derived.Test.YtlhaclammaaabaaB3
import Derived.Test.YtlhaclammaaabaaB4
namespace Go.Proofs.Ytlhaclammaaabaa.Pg
open Go.RowKit Go.Proofs.YtlhaclammaaabaaW.PrintWords Go.Proofs.YtlhaclammaaabaaW.PrintLast Go.Proofs.YtlhaclammaaabaaW.PrintMore
attribute [local go_sem] max2_int min2_int max_two min_two max_three min_three max_four min_four
set_option linter.unusedVariables false
set_option maxHeartbeats 8000000
set_option maxRecDepth 100000
set_option linter.unusedSimpArgs false
/-! ### polynomial_DivMod: function 66 -/
def polynomial_DivMod.j0 : Nat → List Int → List Int → Bool → Int → Int → Int → Option (List Int × List Int × Int)
 | 0, _, _, _, _, _, _ => none
 | k + 1, x1, x2, x9, x1098000, x1098001, x1098002 => if x9 = true then (some (([] : List Int), ([] : List Int), 1)) else (if (x2.length : Int) = 0 then (some (([] : List Int), ([] : List Int), 12)) else ((polynomial_division.f k x1098000 x1098001 x1098002 x1 x2).bind fun bt1100 => (some (bt1100.1, bt1100.2, 0))))
def polynomial_DivMod.f (k : Nat) (a0_0 : Int) (a0_1 : Int) (a0_2 : Int) (l1 : List Int) (l2 : List Int) : Option (List Int × List Int × Int) := (polynomial_Valid.f k a0_0 a0_1 a0_2 l1).bind fun t1098 => (if t1098 = true then ((polynomial_Valid.f k a0_0 a0_1 a0_2 l2).bind fun t1099 => (polynomial_DivMod.j0 k l1 l2 (!t1099) a0_0 a0_1 a0_2)) else (polynomial_DivMod.j0 k l1 l2 true a0_0 a0_1 a0_2))
theorem polynomial_DivMod.mono_l : ∀ k, (∀ y0 y1 y2 y3 y4 y5, LeO (polynomial_DivMod.j0 k y0 y1 y2 y3 y4 y5) (polynomial_DivMod.j0 (k + 1) y0 y1 y2 y3 y4 y5))
 | 0 => fun _ _ _ _ _ _ r h => by simp [polynomial_DivMod.j0] at h
 | k + 1 => by
  have ih0 := polynomial_DivMod.mono_l k
  ·intro y0 y1 y2 y3 y4 y5
   unfold polynomial_DivMod.j0
   have m0_ := @polynomial_Valid.mono
   have m1_ := @polynomial_division.mono
   exact zMo
theorem polynomial_DivMod.mono : ∀ a0 a1 a2 a3 a4 k, LeO (polynomial_DivMod.f k a0 a1 a2 a3 a4) (polynomial_DivMod.f (k + 1) a0 a1 a2 a3 a4) := by
 intro a0 a1 a2 a3 a4 k
 have ih0 := polynomial_DivMod.mono_l k
 unfold polynomial_DivMod.f
 have m0_ := @polynomial_Valid.mono
 have m1_ := @polynomial_division.mono
 exact zMo
theorem polynomial_DivMod.calls (k : Nat) (a0_0 : Int) (a0_1 : Int) (a0_2 : Int) (A1 : Option Addr) (c1 : Nat) (l1 : List Int) (A2 : Option Addr) (c2 : Nat) (l2 : List Int) (r1 : List Int) (r2 : List Int) (r3 : Int) (w : World) (hr1 : Kd.C (Kd.int .i64) w A1 l1.length l1) (hc1 : l1.length ≤ c1) (hr2 : Kd.C (Kd.int .i64) w A2 l2.length l2) (hc2 : l2.length ≤ c2) (h : polynomial_DivMod.f k a0_0 a0_1 a0_2 l1 l2 = some (r1, r2, r3)) :
  Calls Try.prog 66 #[.agg #[.int .i64 a0_0, .int .i64 a0_1, .int .i64 a0_2], .slice A1 l1.length c1, .slice A2 l2.length c2] w fun e w' => ∃ v0_ v1_ : Value, e = .returned (.tuple #[v0_, v1_, .int .i64 r3]) ∧ Kd.R (Kd.int .i64) 3 w' w.heap.size (fun k_ => some k_ ≠ (v1_ : Value).ownBlock) v0_ r1 ∧ Kd.R (Kd.int .i64) 3 w' w.heap.size (fun k_ => some k_ ≠ (v0_ : Value).ownBlock) v1_ r2 ∧ Below w.heap.size w w' := by
 have hu23 := Try.underlying23
 have HR1 := Aside0.mk hr1
 have HC1 := Aside0.mk hc1
 clear hr1 hc1
 have HR2 := Aside0.mk hr2
 have HC2 := Aside0.mk hc2
 clear hr2 hc2
 have HB := Aside0.mk (Below.refl w.heap.size w)
 have H := h
 unfold polynomial_DivMod.f at H
 clear h
 have HC4 := Aside0.mk H
 clear H
 go_enter Try.func66, Try.ntmps66
 go_upto_region 1 with (first | ((with_reducible refine gate_dst (N := 3) rfl ?_); refine zBox 3 #[.int .i64 a0_0, .int .i64 a0_1, .int .i64 a0_2] 23 ?_; clear HB; intro gb1097 w5 BK1097 GE1097 HB))
 (try simp only [Act.put, List.setIfInBounds_toArray, List.set_cons_zero, List.set_cons_succ])
 go_cut [9] (fun v9 wc => ∃ (kq : Nat) (x9_3 : Bool), v9 = .bool x9_3 ∧ Aside0 (polynomial_DivMod.j0 kq l1 l2 x9_3 a0_0 a0_1 a0_2 = some (r1, r2, r3)) ∧ Aside0 (kq ≤ k) ∧ Aside0 (wc.heap[gb1097]? = some (.cells #[.int .i64 a0_0, .int .i64 a0_1, .int .i64 a0_2] 23 (0, 0))) ∧ Aside0 (Below w.heap.size w wc))
 case first =>
  have H := HC4.out
  clear HC4
  obtain ⟨t1098, A6, H⟩ := zD H
  by_cases c7 : t1098 = true
  ·subst c7
   rw [if_pos rfl] at H
   obtain ⟨t1099, A8, H⟩ := zD H
   have H' := zA H
   clear H
   (try clear z1097_0 z1097_1 z1097_2 f1097_0 f1097_1 f1097_2)
   obtain ⟨z1097_0, z1097_1, z1097_2, f1097_0, f1097_1, f1097_2⟩ := cz3 BK1097
   go_wp2_with (first | ((with_reducible refine gate_callee (f := 81) rfl ?_); refine gL (some 12) Try.func81 #[.agg #[.int .i64 a0_0, .int .i64 a0_1, .int .i64 a0_2], .slice A1 l1.length c1] ?_; (with_reducible refine zCall (polynomial_Valid.calls k a0_0 a0_1 a0_2 _ _ l1 true _ ?side1 ?side2 A6.out) ?_); (case side1 => exact zN HR1); (case side2 => exact HC1.out); intro w10 hb; replace BK1097 := bB BK1097 hb; replace HB := bS hb; (try clear hb); (try clear z1097_0 z1097_1 z1097_2 f1097_0 f1097_1 f1097_2); obtain ⟨z1097_0, z1097_1, z1097_2, f1097_0, f1097_1, f1097_2⟩ := cz3 BK1097) | (go_at_call 81; (with_reducible refine (polynomial_Valid.calls k a0_0 a0_1 a0_2 _ _ l2 t1099 _ ?side1 ?side2 A8.out).mono ?_); (case side1 => exact zN HR2); (case side2 => exact HC2.out); rintro e w12 ⟨rfl, hb⟩; replace BK1097 := bB BK1097 hb; replace HB := bS hb; (try clear hb)))
   go_meet
   case rel => exact ⟨_, (!t1099), zR, H', zL, ⟨zK BK1097⟩, ⟨zB⟩⟩
  ·replace c7 := Bool.eq_false_iff.mpr c7
   subst c7
   rw [if_neg (show ¬ (false = true) by decide)] at H
   have H' := zA H
   clear H
   (try clear z1097_0 z1097_1 z1097_2 f1097_0 f1097_1 f1097_2)
   obtain ⟨z1097_0, z1097_1, z1097_2, f1097_0, f1097_1, f1097_2⟩ := cz3 BK1097
   go_wp2_with (first | ((with_reducible refine gate_callee (f := 81) rfl ?_); refine gL (some 12) Try.func81 #[.agg #[.int .i64 a0_0, .int .i64 a0_1, .int .i64 a0_2], .slice A1 l1.length c1] ?_; (with_reducible refine zCall (polynomial_Valid.calls k a0_0 a0_1 a0_2 _ _ l1 false _ ?side1 ?side2 A6.out) ?_); (case side1 => exact zN HR1); (case side2 => exact HC1.out); intro w14 hb; replace BK1097 := bB BK1097 hb; replace HB := bS hb; (try clear hb)))
   go_meet
   case rel => exact ⟨_, (true), zR, H', zL, ⟨zK BK1097⟩, ⟨zB⟩⟩
 case rest =>
  clear HC4
  try clear c1
  try clear c2
  try clear p2
  try clear c6
  try clear c7
  try clear c8
  try clear z1097_0 z1097_1 z1097_2 f1097_0 f1097_1 f1097_2
  obtain ⟨kq, x9_3, rfl, HA, HJ3, BK1097, HB⟩ := hcut
  cases kq with
  | zero => exact absurd HA.out (by simp [polynomial_DivMod.j0])
  | succ kj3 =>
   have H := HA.out
   clear HA
   simp only [polynomial_DivMod.j0] at H
   by_cases c15 : x9_3 = true
   ·subst c15
    rw [if_pos rfl] at H
    simp only [Option.some.injEq, Prod.mk.injEq] at H
    obtain ⟨rfl, rfl, rfl⟩ := H
    go_wp2
    go_ret3
    exact ⟨_, _, zE, by first | exact Kd.R_nil _ _ _ _ _ | exact Kd.N_nil _ _ _ _ _ | exact Kd.V_nil _ _ _ _ _ | exact Kd.Q_nil _ _ _ _ _ | exact Kd.S_nil _ _ _ _ _, by first | exact Kd.R_nil _ _ _ _ _ | exact Kd.N_nil _ _ _ _ _ | exact Kd.V_nil _ _ _ _ _ | exact Kd.Q_nil _ _ _ _ _ | exact Kd.S_nil _ _ _ _ _, zB⟩
   ·replace c15 := Bool.eq_false_iff.mpr c15
    subst c15
    rw [if_neg (show ¬ (false = true) by decide)] at H
    by_cases c16 : (l2.length : Int) = 0
    ·rw [if_pos c16] at H
     have c16b0 := beq_iff_eq.mpr c16
     have c16b1 := bne_eq_false_iff_eq.mpr c16
     clear c16
     simp only [Option.some.injEq, Prod.mk.injEq] at H
     obtain ⟨rfl, rfl, rfl⟩ := H
     go_wp2
     go_ret3
     exact ⟨_, _, zE, by first | exact Kd.R_nil _ _ _ _ _ | exact Kd.N_nil _ _ _ _ _ | exact Kd.V_nil _ _ _ _ _ | exact Kd.Q_nil _ _ _ _ _ | exact Kd.S_nil _ _ _ _ _, by first | exact Kd.R_nil _ _ _ _ _ | exact Kd.N_nil _ _ _ _ _ | exact Kd.V_nil _ _ _ _ _ | exact Kd.Q_nil _ _ _ _ _ | exact Kd.S_nil _ _ _ _ _, zB⟩
    ·rw [if_neg c16] at H
     have c16b0 := beq_eq_false_iff_ne.mpr c16
     have c16b1 := bne_iff_ne.mpr c16
     have c16b2 : ¬ (l2 = []) := fun h_ => c16 (by rw [h_]; rfl)
     obtain ⟨⟨t1100, t1103⟩, A17, H⟩ := zD H
     dsimp only at H
     simp only [Option.some.injEq, Prod.mk.injEq] at H
     obtain ⟨rfl, rfl, rfl⟩ := H
     (try clear z1097_0 z1097_1 z1097_2 f1097_0 f1097_1 f1097_2)
     obtain ⟨z1097_0, z1097_1, z1097_2, f1097_0, f1097_1, f1097_2⟩ := cz3 BK1097
     go_wp2_with (first | ((with_reducible refine gate_callee (f := 121) rfl ?_); refine gL (some 28) Try.func121 #[.agg #[.int .i64 a0_0, .int .i64 a0_1, .int .i64 a0_2], .slice A1 l1.length c1, .slice A2 l2.length c2] ?_; (with_reducible refine (polynomial_division.calls kj3 a0_0 a0_1 a0_2 _ _ l1 _ _ l2 t1100 t1103 _ ?side1 ?side2 ?side3 ?side4 A17.out).mono ?_); (case side1 => exact zN HR1); (case side2 => exact HC1.out); (case side3 => exact zN HR2); (case side4 => exact HC2.out); rintro e w19 ⟨v1101, v1104, rfl, ho0, ho1, hb⟩; refine ⟨_, rfl, ?_⟩; have HO1102 := Aside0.mk (Kd.R_lower ho0 (below_size zB)); have HO1105 := Aside0.mk (Kd.R_lower ho1 (below_size zB)); replace BK1097 := bB BK1097 hb; replace HB := bS hb; (try clear hb); (try clear ho0); (try clear ho1)))
     go_ret3
     exact ⟨_, _, zE, by (with_reducible repeat (first | apply Kd.R_alloc | apply Kd.R_drewN | apply Kd.R_drew)); exact HO1102.out, by (with_reducible repeat (first | apply Kd.R_alloc | apply Kd.R_drewN | apply Kd.R_drew)); exact HO1105.out, zB⟩
end Go.Proofs.Ytlhaclammaaabaa.Pg
