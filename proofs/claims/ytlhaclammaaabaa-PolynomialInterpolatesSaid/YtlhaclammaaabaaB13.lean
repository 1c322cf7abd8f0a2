-- Written by a program of this session over the print of the kit.
import Derived.Test.YtlhaclammaaabaaY
import Derived.Test.YtlhaclammaaabaaB0
import Derived.Test.YtlhaclammaaabaaB1
namespace Go.Proofs.Ytlhaclammaaabaa.Pg
open Go.RowKit Go.Proofs.YtlhaclammaaabaaW.PrintWords Go.Proofs.YtlhaclammaaabaaW.PrintLast Go.Proofs.YtlhaclammaaabaaW.PrintMore
attribute [local go_sem] max2_int min2_int max_two min_two max_three min_three max_four min_four
set_option linter.unusedVariables false
set_option maxHeartbeats 8000000
set_option maxRecDepth 100000
set_option linter.unusedSimpArgs false
/-! ### barscanref04_Inverse: function 100 -/
def barscanref04_Inverse.f (k : Nat) (a0_0 : Int) (a0_1 : Int) (a0_2 : Int) (a1 : Int) : Option (Int) := (barscanref04_Power.f k a0_0 a0_1 a0_2 a1 (wrap64 (a0_1 - 2))).bind fun t290 => (some t290)
theorem barscanref04_Inverse.mono : ∀ a0 a1 a2 a3 k, LeO (barscanref04_Inverse.f k a0 a1 a2 a3) (barscanref04_Inverse.f (k + 1) a0 a1 a2 a3) := by
 intro a0 a1 a2 a3 k
 unfold barscanref04_Inverse.f
 have m0_ := @barscanref04_Power.mono
 exact zMo
theorem barscanref04_Inverse.calls (k : Nat) (a0_0 : Int) (a0_1 : Int) (a0_2 : Int) (a1 : Int) (r : Int) (w : World) (h : barscanref04_Inverse.f k a0_0 a0_1 a0_2 a1 = some r) :
  Calls Try.prog 100 #[.agg #[.int .i64 a0_0, .int .i64 a0_1, .int .i64 a0_2], .int .i64 a1] w fun e w' => e = .returned (.int .i64 r) ∧ Below w.heap.size w w' := by
 have hu23 := Try.underlying23
 have HB := Aside0.mk (Below.refl w.heap.size w)
 have H := h
 unfold barscanref04_Inverse.f at H
 clear h
 obtain ⟨t290, A3, H⟩ := zD H
 obtain rfl := Option.some.inj H
 go_enter Try.func100, Try.ntmps100
 go_wp2_with (first | ((with_reducible refine gate_dst (N := 2) rfl ?_); refine zBox 2 #[.int .i64 a0_0, .int .i64 a0_1, .int .i64 a0_2] 23 ?_; clear HB; intro gb289 w4 BK289 GE289 HB; (try clear z289_0 z289_1 z289_2 f289_0 f289_1 f289_2); obtain ⟨z289_0, z289_1, z289_2, f289_0, f289_1, f289_2⟩ := cz3 BK289) | ((with_reducible refine gate_callee (f := 129) rfl ?_); refine gL (some 10) Try.func129 #[.agg #[.int .i64 a0_0, .int .i64 a0_1, .int .i64 a0_2], .int .i64 a1, .int .i64 (wrap64 (a0_1 - 2))] ?_; (with_reducible refine zCall (barscanref04_Power.calls k a0_0 a0_1 a0_2 a1 (wrap64 (a0_1 - 2)) t290 _ A3.out) ?_); intro w6 hb; replace BK289 := bB BK289 hb; replace HB := bS hb; (try clear hb)))
 go_ret
 exact ⟨zE, zB⟩
/-! ### barscanref04_Div: function 41 -/
def barscanref04_Div.j0 : Nat → Int → Int → Bool → Int → Int → Int → Option (Int × Int)
 | 0, _, _, _, _, _, _ => none
 | k + 1, x1, x2, x22, x292000, x292001, x292002 => if x22 = true then (some (0, 1)) else (if x2 = 0 then (some (0, 12)) else ((barscanref04_Inverse.f k x292000 x292001 x292002 x2).bind fun t295 => ((barscanref04_Times.f k x292000 x292001 x292002 x1 t295).bind fun t296 => (some (t296, 0)))))
def barscanref04_Div.f (k : Nat) (a0_0 : Int) (a0_1 : Int) (a0_2 : Int) (a1 : Int) (a2 : Int) : Option (Int × Int) := (barscanref04_Valid.f k a0_0 a0_1 a0_2).bind fun t292 => (if t292 = true then ((barscanref04_Is.f a0_0 a0_1 a0_2 a1).bind fun t293 => (if t293 = true then ((barscanref04_Is.f a0_0 a0_1 a0_2 a2).bind fun t294 => (barscanref04_Div.j0 k a1 a2 (!t294) a0_0 a0_1 a0_2)) else (barscanref04_Div.j0 k a1 a2 true a0_0 a0_1 a0_2))) else (barscanref04_Div.j0 k a1 a2 true a0_0 a0_1 a0_2))
theorem barscanref04_Div.mono_l : ∀ k, (∀ y0 y1 y2 y3 y4 y5, LeO (barscanref04_Div.j0 k y0 y1 y2 y3 y4 y5) (barscanref04_Div.j0 (k + 1) y0 y1 y2 y3 y4 y5))
 | 0 => fun _ _ _ _ _ _ r h => by simp [barscanref04_Div.j0] at h
 | k + 1 => by
  have ih0 := barscanref04_Div.mono_l k
  ·intro y0 y1 y2 y3 y4 y5
   unfold barscanref04_Div.j0
   have m0_ := @barscanref04_Inverse.mono
   have m1_ := @barscanref04_Times.mono
   have m2_ := @barscanref04_Valid.mono
   exact zMo
theorem barscanref04_Div.mono : ∀ a0 a1 a2 a3 a4 k, LeO (barscanref04_Div.f k a0 a1 a2 a3 a4) (barscanref04_Div.f (k + 1) a0 a1 a2 a3 a4) := by
 intro a0 a1 a2 a3 a4 k
 have ih0 := barscanref04_Div.mono_l k
 unfold barscanref04_Div.f
 have m0_ := @barscanref04_Inverse.mono
 have m1_ := @barscanref04_Times.mono
 have m2_ := @barscanref04_Valid.mono
 exact zMo
def barscanref04_Div.T5 : Bool × List (List Nat × List Nat) := (true, [([], []), ([], []), ([], []), ([], []), ([2, 3], [2, 3]), ([0, 1, 4, 4], [0, 1, 4]), ([5, 5, 0, 1, 2, 3, 4, 5], [5]), ([6, 0, 1, 2, 3, 4, 5, 6], [])])
def barscanref04_Div.B5 : List Nat := [0, 0, 0, 0, 12, 31, 63, 127]
theorem barscanref04_Div.tab5 : rtab .any (opsOf Try.f41 5) = barscanref04_Div.T5 := by kernel_rfl
theorem barscanref04_Div.bits5 : waitsOk barscanref04_Div.T5.2 barscanref04_Div.B5 = true := by kernel_rfl
theorem barscanref04_Div.calls (k : Nat) (a0_0 : Int) (a0_1 : Int) (a0_2 : Int) (a1 : Int) (a2 : Int) (r1 : Int) (r2 : Int) (w : World) (h : barscanref04_Div.f k a0_0 a0_1 a0_2 a1 a2 = some (r1, r2)) :
  Calls Try.prog 41 #[.agg #[.int .i64 a0_0, .int .i64 a0_1, .int .i64 a0_2], .int .i64 a1, .int .i64 a2] w fun e w' => e = .returned (.tuple #[.int .i64 r1, .int .i64 r2]) ∧ Below w.heap.size w w' := by
 have hu23 := Try.underlying23
 have HB := Aside0.mk (Below.refl w.heap.size w)
 have H := h
 unfold barscanref04_Div.f at H
 clear h
 have HC4 := Aside0.mk H
 clear H
 go_enter Try.func41, Try.ntmps41
 go_upto_region 1 with (first | ((with_reducible refine gate_dst (N := 3) rfl ?_); refine zBox 3 #[.int .i64 a0_0, .int .i64 a0_1, .int .i64 a0_2] 23 ?_; clear HB; intro gb291 w5 BK291 GE291 HB))
 (try simp only [Act.put, List.setIfInBounds_toArray, List.set_cons_zero, List.set_cons_succ])
 go_cut [22] (fun v22 wc => ∃ (kq : Nat) (x22_3 : Bool), v22 = .bool x22_3 ∧ Aside0 (barscanref04_Div.j0 kq a1 a2 x22_3 a0_0 a0_1 a0_2 = some (r1, r2)) ∧ Aside0 (kq ≤ k) ∧ Aside0 (wc.heap[gb291]? = some (.cells #[.int .i64 a0_0, .int .i64 a0_1, .int .i64 a0_2] 23 (0, 0))) ∧ Aside0 (Below w.heap.size w wc))
 case first =>
  have H := HC4.out
  clear HC4
  obtain ⟨t292, A6, H⟩ := zD H
  by_cases c7 : t292 = true
  ·subst c7
   rw [if_pos rfl] at H
   obtain ⟨t293, A8, H⟩ := zD H
   by_cases c9 : t293 = true
   ·subst c9
    rw [if_pos rfl] at H
    obtain ⟨t294, A10, H⟩ := zD H
    have H' := zA H
    clear H
    (try clear z291_0 z291_1 z291_2 f291_0 f291_1 f291_2)
    obtain ⟨z291_0, z291_1, z291_2, f291_0, f291_1, f291_2⟩ := cz3 BK291
    go_wp2_with (first | ((with_reducible refine gate_callee (f := 26) rfl ?_); refine gL (some 9) Try.func26 #[.agg #[.int .i64 a0_0, .int .i64 a0_1, .int .i64 a0_2]] ?_; (with_reducible refine zCall (barscanref04_Valid.calls k a0_0 a0_1 a0_2 true _ A6.out) ?_); intro w12 hb; replace BK291 := bB BK291 hb; replace HB := bS hb; (try clear hb); (try clear z291_0 z291_1 z291_2 f291_0 f291_1 f291_2); obtain ⟨z291_0, z291_1, z291_2, f291_0, f291_1, f291_2⟩ := cz3 BK291) | (go_at_call 44; (with_reducible refine (barscanref04_Is.calls a0_0 a0_1 a0_2 a1 true _ A8.out).mono ?_); rintro e w14 ⟨rfl, hb⟩; replace BK291 := bB BK291 hb; replace HB := bS hb; (try clear hb); (try clear z291_0 z291_1 z291_2 f291_0 f291_1 f291_2); obtain ⟨z291_0, z291_1, z291_2, f291_0, f291_1, f291_2⟩ := cz3 BK291) | (go_at_call 44; (with_reducible refine (barscanref04_Is.calls a0_0 a0_1 a0_2 a2 t294 _ A10.out).mono ?_); rintro e w16 ⟨rfl, hb⟩; replace BK291 := bB BK291 hb; replace HB := bS hb; (try clear hb)))
    go_meet
    case rel => exact ⟨_, (!t294), zR, H', zL, ⟨zK BK291⟩, ⟨zB⟩⟩
   ·replace c9 := Bool.eq_false_iff.mpr c9
    subst c9
    rw [if_neg (show ¬ (false = true) by decide)] at H
    have H' := zA H
    clear H
    (try clear z291_0 z291_1 z291_2 f291_0 f291_1 f291_2)
    obtain ⟨z291_0, z291_1, z291_2, f291_0, f291_1, f291_2⟩ := cz3 BK291
    go_wp2_with (first | ((with_reducible refine gate_callee (f := 26) rfl ?_); refine gL (some 9) Try.func26 #[.agg #[.int .i64 a0_0, .int .i64 a0_1, .int .i64 a0_2]] ?_; (with_reducible refine zCall (barscanref04_Valid.calls k a0_0 a0_1 a0_2 true _ A6.out) ?_); intro w18 hb; replace BK291 := bB BK291 hb; replace HB := bS hb; (try clear hb); (try clear z291_0 z291_1 z291_2 f291_0 f291_1 f291_2); obtain ⟨z291_0, z291_1, z291_2, f291_0, f291_1, f291_2⟩ := cz3 BK291) | (go_at_call 44; (with_reducible refine (barscanref04_Is.calls a0_0 a0_1 a0_2 a1 false _ A8.out).mono ?_); rintro e w20 ⟨rfl, hb⟩; replace BK291 := bB BK291 hb; replace HB := bS hb; (try clear hb)))
    go_meet
    case rel => exact ⟨_, (true), zR, H', zL, ⟨zK BK291⟩, ⟨zB⟩⟩
  ·replace c7 := Bool.eq_false_iff.mpr c7
   subst c7
   rw [if_neg (show ¬ (false = true) by decide)] at H
   have H' := zA H
   clear H
   (try clear z291_0 z291_1 z291_2 f291_0 f291_1 f291_2)
   obtain ⟨z291_0, z291_1, z291_2, f291_0, f291_1, f291_2⟩ := cz3 BK291
   go_wp2_with (first | ((with_reducible refine gate_callee (f := 26) rfl ?_); refine gL (some 9) Try.func26 #[.agg #[.int .i64 a0_0, .int .i64 a0_1, .int .i64 a0_2]] ?_; (with_reducible refine zCall (barscanref04_Valid.calls k a0_0 a0_1 a0_2 false _ A6.out) ?_); intro w22 hb; replace BK291 := bB BK291 hb; replace HB := bS hb; (try clear hb)))
   go_meet
   case rel => exact ⟨_, (true), zR, H', zL, ⟨zK BK291⟩, ⟨zB⟩⟩
 case rest =>
  clear HC4
  try clear c2
  try clear p2
  try clear c4
  try clear c7
  try clear c9
  try clear z291_0 z291_1 z291_2 f291_0 f291_1 f291_2
  obtain ⟨kq, x22_3, rfl, HA, HJ3, BK291, HB⟩ := hcut
  cases kq with
  | zero => exact absurd HA.out (by simp [barscanref04_Div.j0])
  | succ kj3 =>
   have H := HA.out
   clear HA
   simp only [barscanref04_Div.j0] at H
   by_cases c23 : x22_3 = true
   ·subst c23
    rw [if_pos rfl] at H
    simp only [Option.some.injEq, Prod.mk.injEq] at H
    obtain ⟨rfl, rfl⟩ := H
    go_wp2
    go_ret2
    exact ⟨zE, zB⟩
   ·replace c23 := Bool.eq_false_iff.mpr c23
    subst c23
    rw [if_neg (show ¬ (false = true) by decide)] at H
    by_cases c24 : a2 = 0
    ·rw [if_pos c24] at H
     have c24b0 := beq_iff_eq.mpr c24
     have c24b1 := bne_eq_false_iff_eq.mpr c24
     clear c24
     simp only [Option.some.injEq, Prod.mk.injEq] at H
     obtain ⟨rfl, rfl⟩ := H
     go_wp2
     go_ret2
     exact ⟨zE, zB⟩
    ·rw [if_neg c24] at H
     have c24b0 := beq_eq_false_iff_ne.mpr c24
     have c24b1 := bne_iff_ne.mpr c24
     obtain ⟨t295, A25, H⟩ := zD H
     obtain ⟨t296, A26, H⟩ := zD H
     simp only [Option.some.injEq, Prod.mk.injEq] at H
     obtain ⟨rfl, rfl⟩ := H
     try go_wp2
     replace BK291 := Aside0.mk (blk_drew BK291.out)
     replace HB := Aside0.mk (below_drew1 HB.out)
     refine start_ (n := 8) (S := fun w' => w'.cell? ⟨gb291, 0, none⟩ = some (.int .i64 a0_0) ∧ w'.cell? ⟨gb291, 1, none⟩ = some (.int .i64 a0_1) ∧ w'.cell? ⟨gb291, 2, none⟩ = some (.int .i64 a0_2)) (ds := []) #[false, false, false, false, false, false, false, false] (by kernel_rfl) rfl rfl zS (fun hHeld => ?_); refine with_tabW barscanref04_Div.tab5 barscanref04_Div.bits5 (fun HT_ HW_ => ?_)
     generalize wc.drew = w27 at BK291 HB hHeld ⊢
     refine pU 1 (some 26) ?_
     refine pU 3 (some 28) ?_
     refine tU 0 (some 25) hHeld ?_
     refine tU 2 (some 27) hHeld ?_
     refine oU 4 (some 29) (fun K hK => ?_)
     refine goes_ Try.func100 (by kernel_rfl) rfl #[.agg #[.int .i64 a0_0, .int .i64 a0_1, .int .i64 a0_2], .int .i64 a2] (by rfl) rfl rfl zM ?_
     with_reducible refine (barscanref04_Inverse.calls kj3 a0_0 a0_1 a0_2 a2 t295 _ A25.out).mono ?_
     rintro e w28 ⟨rfl, hb⟩
     refine ⟨_, rfl, ?_⟩
     replace BK291 := bB BK291 hb
     replace HB := bS hb
     (try clear hb)
     (try clear hb2)
     (try clear hk)
     (try clear hi)
     refine hK.out _ _ zS (fun hHeld => ?_)
     clear hK K
     refine nU ?_
     refine oU 5 (some 30) (fun K hK => ?_)
     refine goes_ Try.func96 (by kernel_rfl) rfl #[.agg #[.int .i64 a0_0, .int .i64 a0_1, .int .i64 a0_2], .int .i64 a1, .int .i64 t295] (by rfl) rfl rfl zM ?_
     with_reducible refine (barscanref04_Times.calls kj3 a0_0 a0_1 a0_2 a1 t295 t296 _ A26.out).mono ?_
     rintro e w29 ⟨rfl, hb⟩
     refine ⟨_, rfl, ?_⟩
     replace BK291 := bB BK291 hb
     replace HB := bS hb
     (try clear hb)
     (try clear hb2)
     (try clear hk)
     (try clear hi)
     refine hK.out _ _ zS (fun hHeld => ?_)
     clear hK K
     refine nU ?_
     refine pU 6 (some 6) ?_
     refine pU 7 (some 7) ?_
     refine dU ?_
     try go_wp2
     go_ret2
     exact ⟨zE, zB⟩
end Go.Proofs.Ytlhaclammaaabaa.Pg
