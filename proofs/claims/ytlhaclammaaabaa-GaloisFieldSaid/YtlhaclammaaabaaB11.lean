-- Written by a program of this session over the print of the kit.
import Derived.Test.YtlhaclammaaabaaY
import Derived.Test.YtlhaclammaaabaaB0
import Derived.Test.YtlhaclammaaabaaB1
import Derived.Test.YtlhaclammaaabaaB12
namespace Go.Proofs.Ytlhaclammaaabaa.Pg
open Go.RowKit Go.Proofs.YtlhaclammaaabaaW.PrintWords Go.Proofs.YtlhaclammaaabaaW.PrintLast Go.Proofs.YtlhaclammaaabaaW.PrintMore
attribute [local go_sem] max2_int min2_int max_two min_two max_three min_three max_four min_four
set_option linter.unusedVariables false
set_option maxHeartbeats 8000000
set_option maxRecDepth 100000
set_option linter.unusedSimpArgs false
/-! ### barscanref04_Add: function 35 -/
def barscanref04_Add.f (k : Nat) (a0_0 : Int) (a0_1 : Int) (a0_2 : Int) (a1 : Int) (a2 : Int) : Option (Int × Int) := (barscanref04_Valid.f k a0_0 a0_1 a0_2).bind fun t265 => (if t265 = true then ((barscanref04_Is.f a0_0 a0_1 a0_2 a1).bind fun t266 => (if t266 = true then ((barscanref04_Is.f a0_0 a0_1 a0_2 a2).bind fun t267 => (if t267 = true then ((barscanref04_Plus.f a0_0 a0_1 a0_2 a1 a2).bind fun t268 => (some (t268, 0))) else (some (0, 1)))) else (some (0, 1)))) else (some (0, 1)))
theorem barscanref04_Add.mono : ∀ a0 a1 a2 a3 a4 k, LeO (barscanref04_Add.f k a0 a1 a2 a3 a4) (barscanref04_Add.f (k + 1) a0 a1 a2 a3 a4) := by
 intro a0 a1 a2 a3 a4 k
 unfold barscanref04_Add.f
 have m0_ := @barscanref04_Valid.mono
 exact zMo
theorem barscanref04_Add.calls (k : Nat) (a0_0 : Int) (a0_1 : Int) (a0_2 : Int) (a1 : Int) (a2 : Int) (r1 : Int) (r2 : Int) (w : World) (h : barscanref04_Add.f k a0_0 a0_1 a0_2 a1 a2 = some (r1, r2)) :
  Calls Try.prog 35 #[.agg #[.int .i64 a0_0, .int .i64 a0_1, .int .i64 a0_2], .int .i64 a1, .int .i64 a2] w fun e w' => e = .returned (.tuple #[.int .i64 r1, .int .i64 r2]) ∧ Below w.heap.size w w' := by
 have hu23 := Try.underlying23
 have HB := Aside0.mk (Below.refl w.heap.size w)
 have H := h
 unfold barscanref04_Add.f at H
 clear h
 obtain ⟨t265, A4, H⟩ := zD H
 by_cases c5 : t265 = true
 ·subst c5
  rw [if_pos rfl] at H
  obtain ⟨t266, A6, H⟩ := zD H
  by_cases c7 : t266 = true
  ·subst c7
   rw [if_pos rfl] at H
   obtain ⟨t267, A8, H⟩ := zD H
   by_cases c9 : t267 = true
   ·subst c9
    rw [if_pos rfl] at H
    obtain ⟨t268, A10, H⟩ := zD H
    simp only [Option.some.injEq, Prod.mk.injEq] at H
    obtain ⟨rfl, rfl⟩ := H
    go_enter Try.func35, Try.ntmps35
    go_wp2_with (first | ((with_reducible refine gate_dst (N := 3) rfl ?_); refine zBox 3 #[.int .i64 a0_0, .int .i64 a0_1, .int .i64 a0_2] 23 ?_; clear HB; intro gb264 w11 BK264 GE264 HB; (try clear z264_0 z264_1 z264_2 f264_0 f264_1 f264_2); obtain ⟨z264_0, z264_1, z264_2, f264_0, f264_1, f264_2⟩ := cz3 BK264) | ((with_reducible refine gate_callee (f := 26) rfl ?_); refine gL (some 9) Try.func26 #[.agg #[.int .i64 a0_0, .int .i64 a0_1, .int .i64 a0_2]] ?_; (with_reducible refine zCall (barscanref04_Valid.calls k a0_0 a0_1 a0_2 true _ A4.out) ?_); intro w13 hb; replace BK264 := bB BK264 hb; replace HB := bS hb; (try clear hb); (try clear z264_0 z264_1 z264_2 f264_0 f264_1 f264_2); obtain ⟨z264_0, z264_1, z264_2, f264_0, f264_1, f264_2⟩ := cz3 BK264) | (go_at_call 44; (with_reducible refine (barscanref04_Is.calls a0_0 a0_1 a0_2 a1 true _ A6.out).mono ?_); rintro e w15 ⟨rfl, hb⟩; replace BK264 := bB BK264 hb; replace HB := bS hb; (try clear hb); (try clear z264_0 z264_1 z264_2 f264_0 f264_1 f264_2); obtain ⟨z264_0, z264_1, z264_2, f264_0, f264_1, f264_2⟩ := cz3 BK264) | (go_at_call 44; (with_reducible refine (barscanref04_Is.calls a0_0 a0_1 a0_2 a2 true _ A8.out).mono ?_); rintro e w17 ⟨rfl, hb⟩; replace BK264 := bB BK264 hb; replace HB := bS hb; (try clear hb); (try clear z264_0 z264_1 z264_2 f264_0 f264_1 f264_2); obtain ⟨z264_0, z264_1, z264_2, f264_0, f264_1, f264_2⟩ := cz3 BK264) | ((with_reducible refine gate_callee (f := 97) rfl ?_); refine gL (some 26) Try.func97 #[.agg #[.int .i64 a0_0, .int .i64 a0_1, .int .i64 a0_2], .int .i64 a1, .int .i64 a2] ?_; (with_reducible refine zCall (barscanref04_Plus.calls a0_0 a0_1 a0_2 a1 a2 t268 _ A10.out) ?_); intro w19 hb; replace BK264 := bB BK264 hb; replace HB := bS hb; (try clear hb)))
    go_ret2
    exact ⟨zE, zB⟩
   ·replace c9 := Bool.eq_false_iff.mpr c9
    subst c9
    rw [if_neg (show ¬ (false = true) by decide)] at H
    simp only [Option.some.injEq, Prod.mk.injEq] at H
    obtain ⟨rfl, rfl⟩ := H
    go_enter Try.func35, Try.ntmps35
    go_wp2_with (first | ((with_reducible refine gate_dst (N := 3) rfl ?_); refine zBox 3 #[.int .i64 a0_0, .int .i64 a0_1, .int .i64 a0_2] 23 ?_; clear HB; intro gb264 w20 BK264 GE264 HB; (try clear z264_0 z264_1 z264_2 f264_0 f264_1 f264_2); obtain ⟨z264_0, z264_1, z264_2, f264_0, f264_1, f264_2⟩ := cz3 BK264) | ((with_reducible refine gate_callee (f := 26) rfl ?_); refine gL (some 9) Try.func26 #[.agg #[.int .i64 a0_0, .int .i64 a0_1, .int .i64 a0_2]] ?_; (with_reducible refine zCall (barscanref04_Valid.calls k a0_0 a0_1 a0_2 true _ A4.out) ?_); intro w22 hb; replace BK264 := bB BK264 hb; replace HB := bS hb; (try clear hb); (try clear z264_0 z264_1 z264_2 f264_0 f264_1 f264_2); obtain ⟨z264_0, z264_1, z264_2, f264_0, f264_1, f264_2⟩ := cz3 BK264) | (go_at_call 44; (with_reducible refine (barscanref04_Is.calls a0_0 a0_1 a0_2 a1 true _ A6.out).mono ?_); rintro e w24 ⟨rfl, hb⟩; replace BK264 := bB BK264 hb; replace HB := bS hb; (try clear hb); (try clear z264_0 z264_1 z264_2 f264_0 f264_1 f264_2); obtain ⟨z264_0, z264_1, z264_2, f264_0, f264_1, f264_2⟩ := cz3 BK264) | (go_at_call 44; (with_reducible refine (barscanref04_Is.calls a0_0 a0_1 a0_2 a2 false _ A8.out).mono ?_); rintro e w26 ⟨rfl, hb⟩; replace BK264 := bB BK264 hb; replace HB := bS hb; (try clear hb)))
    go_ret2
    exact ⟨zE, zB⟩
  ·replace c7 := Bool.eq_false_iff.mpr c7
   subst c7
   rw [if_neg (show ¬ (false = true) by decide)] at H
   simp only [Option.some.injEq, Prod.mk.injEq] at H
   obtain ⟨rfl, rfl⟩ := H
   go_enter Try.func35, Try.ntmps35
   go_wp2_with (first | ((with_reducible refine gate_dst (N := 3) rfl ?_); refine zBox 3 #[.int .i64 a0_0, .int .i64 a0_1, .int .i64 a0_2] 23 ?_; clear HB; intro gb264 w27 BK264 GE264 HB; (try clear z264_0 z264_1 z264_2 f264_0 f264_1 f264_2); obtain ⟨z264_0, z264_1, z264_2, f264_0, f264_1, f264_2⟩ := cz3 BK264) | ((with_reducible refine gate_callee (f := 26) rfl ?_); refine gL (some 9) Try.func26 #[.agg #[.int .i64 a0_0, .int .i64 a0_1, .int .i64 a0_2]] ?_; (with_reducible refine zCall (barscanref04_Valid.calls k a0_0 a0_1 a0_2 true _ A4.out) ?_); intro w29 hb; replace BK264 := bB BK264 hb; replace HB := bS hb; (try clear hb); (try clear z264_0 z264_1 z264_2 f264_0 f264_1 f264_2); obtain ⟨z264_0, z264_1, z264_2, f264_0, f264_1, f264_2⟩ := cz3 BK264) | (go_at_call 44; (with_reducible refine (barscanref04_Is.calls a0_0 a0_1 a0_2 a1 false _ A6.out).mono ?_); rintro e w31 ⟨rfl, hb⟩; replace BK264 := bB BK264 hb; replace HB := bS hb; (try clear hb)))
   go_ret2
   exact ⟨zE, zB⟩
 ·replace c5 := Bool.eq_false_iff.mpr c5
  subst c5
  rw [if_neg (show ¬ (false = true) by decide)] at H
  simp only [Option.some.injEq, Prod.mk.injEq] at H
  obtain ⟨rfl, rfl⟩ := H
  go_enter Try.func35, Try.ntmps35
  go_wp2_with (first | ((with_reducible refine gate_dst (N := 3) rfl ?_); refine zBox 3 #[.int .i64 a0_0, .int .i64 a0_1, .int .i64 a0_2] 23 ?_; clear HB; intro gb264 w32 BK264 GE264 HB; (try clear z264_0 z264_1 z264_2 f264_0 f264_1 f264_2); obtain ⟨z264_0, z264_1, z264_2, f264_0, f264_1, f264_2⟩ := cz3 BK264) | ((with_reducible refine gate_callee (f := 26) rfl ?_); refine gL (some 9) Try.func26 #[.agg #[.int .i64 a0_0, .int .i64 a0_1, .int .i64 a0_2]] ?_; (with_reducible refine zCall (barscanref04_Valid.calls k a0_0 a0_1 a0_2 false _ A4.out) ?_); intro w34 hb; replace BK264 := bB BK264 hb; replace HB := bS hb; (try clear hb)))
  go_ret2
  exact ⟨zE, zB⟩
/-! ### galois_Sub: function 36 -/
def galois_Sub.f (k : Nat) (a0_0 : Int) (a0_1 : Int) (a0_2 : Int) (a1 : Int) (a2 : Int) : Option (Int × Int) := (galois_member.f k a0_0 a0_1 a0_2 (([a1, a2] : List Int))).bind fun t273 => (if t273 = true then (if a0_0 = 2 then (some (Go.bits .xor .i64 a1 a2, 0)) else (if a0_1 = 0 then (none) else (some (Int.tmod (wrap64 ((wrap64 (a1 - a2)) + a0_1)) a0_1, 0)))) else (some (0, 1)))
theorem galois_Sub.mono : ∀ a0 a1 a2 a3 a4 k, LeO (galois_Sub.f k a0 a1 a2 a3 a4) (galois_Sub.f (k + 1) a0 a1 a2 a3 a4) := by
 intro a0 a1 a2 a3 a4 k
 unfold galois_Sub.f
 have m0_ := @galois_member.mono
 exact zMo
theorem galois_Sub.calls (k : Nat) (a0_0 : Int) (a0_1 : Int) (a0_2 : Int) (a1 : Int) (a2 : Int) (r1 : Int) (r2 : Int) (w : World) (h : galois_Sub.f k a0_0 a0_1 a0_2 a1 a2 = some (r1, r2)) :
  Calls Try.prog 36 #[.agg #[.int .i64 a0_0, .int .i64 a0_1, .int .i64 a0_2], .int .i64 a1, .int .i64 a2] w fun e w' => e = .returned (.tuple #[.int .i64 r1, .int .i64 r2]) ∧ Below w.heap.size w w' := by
 have hu23 := Try.underlying23
 have HB := Aside0.mk (Below.refl w.heap.size w)
 have H := h
 unfold galois_Sub.f at H
 clear h
 obtain ⟨y270, hy270⟩ : ∃ y_ : List Int, y_ = (([a1, a2] : List Int)) := ⟨_, rfl⟩
 replace H : ((galois_member.f k a0_0 a0_1 a0_2 y270).bind fun t273 => (if t273 = true then (if a0_0 = 2 then (some (Go.bits .xor .i64 a1 a2, 0)) else (if a0_1 = 0 then (none) else (some (Int.tmod (wrap64 ((wrap64 (a1 - a2)) + a0_1)) a0_1, 0)))) else (some (0, 1)))) = some (r1, r2) := by first | (rw [hy270]; with_reducible exact H) | (have H2_ := (Option.bind_some _ _).symm.trans H; rw [hy270]; with_reducible exact H2_) | (have H2_ := (Option.bind_some _ _).symm.trans H; with_reducible exact H2_) | with_reducible exact H | (rw [hy270]; exact H) | exact H
 have Ny270 := Aside0.mk hy270
 clear hy270
 obtain ⟨t273, A4, H⟩ := zD H
 by_cases c5 : t273 = true
 ·subst c5
  rw [if_pos rfl] at H
  by_cases c6 : a0_0 = 2
  ·rw [if_pos c6] at H
   have c6b0 := beq_iff_eq.mpr c6
   have c6b1 := bne_eq_false_iff_eq.mpr c6
   clear c6
   simp only [Option.some.injEq, Prod.mk.injEq] at H
   obtain ⟨rfl, rfl⟩ := H
   go_enter Try.func36, Try.ntmps36
   go_wp2_with (first | ((with_reducible refine gate_dst (N := 3) rfl ?_); refine zBox 3 #[.int .i64 a0_0, .int .i64 a0_1, .int .i64 a0_2] 23 ?_; clear HB; intro gb269 w7 BK269 GE269 HB; (try clear z269_0 z269_1 z269_2 f269_0 f269_1 f269_2); obtain ⟨z269_0, z269_1, z269_2, f269_0, f269_1, f269_2⟩ := cz3 BK269) | ((with_reducible refine gate_dst (N := 12) rfl ?_); refine Kd.R_lit (Kd.int .i64) _ 3 ?hg (N := 12) ?hd (xs := ([a1, a2] : List Int)) (inner := [.int .i64 a1, .int .i64 a2]) (ok := fun _ => True) (okp := fun _ => True) ?hr ?hp (fun _ hk => hk) trivial (Below.refl _ _) (Nat.le_refl _) (by simp) ?_; (case hd => rfl); (case hg => rfl); (case hr => first | (go_simp; done) | (go_simp; rfl)); (case hp => exact (Reps.one (show Kd.M (Kd.int .i64) _ _ _ a1 [.int .i64 a1] from rfl) (Reps.one (show Kd.M (Kd.int .i64) _ _ _ a2 [.int .i64 a2] from rfl) (Reps.none _ _)))); intro v271 w9 ho10 hb hg_ hnew_; clear hg_ hnew_; (first | rw [← Ny270.out] at ho10 | (simp only [Int.reduceToNat] at ho10; rw [← Ny270.out] at ho10)); have HO272 := Aside0.mk (Kd.R_lower ho10 (below_size zB)); replace BK269 := bB BK269 hb; replace HB := bS hb; clear hb ho10; obtain ⟨Ao11, co11, eo11⟩ := Kd.R_slice HO272.out; subst eo11) | ((with_reducible refine gate_callee (f := 90) rfl ?_); refine gL (some 13) Try.func90 #[.agg #[.int .i64 a0_0, .int .i64 a0_1, .int .i64 a0_2], .slice Ao11 y270.length co11] ?_; (with_reducible refine zCall (galois_member.calls k a0_0 a0_1 a0_2 _ _ y270 true _ ?side1 ?side2 A4.out) ?_); (case side1 => exact zN HO272); (case side2 => exact (Kd.R_reads' HO272.out).2.1); intro w12 hb; replace HO272 := Aside0.mk (Kd.R_below (zO HO272) hb); replace BK269 := bB BK269 hb; replace HB := bS hb; (try clear hb); (try clear z269_0 z269_1 z269_2 f269_0 f269_1 f269_2); obtain ⟨z269_0, z269_1, z269_2, f269_0, f269_1, f269_2⟩ := cz3 BK269))
   go_ret2
   exact ⟨zE, zB⟩
  ·rw [if_neg c6] at H
   have c6b0 := beq_eq_false_iff_ne.mpr c6
   have c6b1 := bne_iff_ne.mpr c6
   by_cases c14 : a0_1 = 0
   ·rw [if_pos c14] at H
    exact absurd H (by simp)
   ·rw [if_neg c14] at H
    have c14b0 := beq_eq_false_iff_ne.mpr c14
    have c14b1 := bne_iff_ne.mpr c14
    simp only [Option.some.injEq, Prod.mk.injEq] at H
    obtain ⟨rfl, rfl⟩ := H
    go_enter Try.func36, Try.ntmps36
    go_wp2_with (first | ((with_reducible refine gate_dst (N := 3) rfl ?_); refine zBox 3 #[.int .i64 a0_0, .int .i64 a0_1, .int .i64 a0_2] 23 ?_; clear HB; intro gb269 w15 BK269 GE269 HB; (try clear z269_0 z269_1 z269_2 f269_0 f269_1 f269_2); obtain ⟨z269_0, z269_1, z269_2, f269_0, f269_1, f269_2⟩ := cz3 BK269) | ((with_reducible refine gate_dst (N := 12) rfl ?_); refine Kd.R_lit (Kd.int .i64) _ 3 ?hg (N := 12) ?hd (xs := ([a1, a2] : List Int)) (inner := [.int .i64 a1, .int .i64 a2]) (ok := fun _ => True) (okp := fun _ => True) ?hr ?hp (fun _ hk => hk) trivial (Below.refl _ _) (Nat.le_refl _) (by simp) ?_; (case hd => rfl); (case hg => rfl); (case hr => first | (go_simp; done) | (go_simp; rfl)); (case hp => exact (Reps.one (show Kd.M (Kd.int .i64) _ _ _ a1 [.int .i64 a1] from rfl) (Reps.one (show Kd.M (Kd.int .i64) _ _ _ a2 [.int .i64 a2] from rfl) (Reps.none _ _)))); intro v271 w17 ho18 hb hg_ hnew_; clear hg_ hnew_; (first | rw [← Ny270.out] at ho18 | (simp only [Int.reduceToNat] at ho18; rw [← Ny270.out] at ho18)); have HO272 := Aside0.mk (Kd.R_lower ho18 (below_size zB)); replace BK269 := bB BK269 hb; replace HB := bS hb; clear hb ho18; obtain ⟨Ao19, co19, eo19⟩ := Kd.R_slice HO272.out; subst eo19) | ((with_reducible refine gate_callee (f := 90) rfl ?_); refine gL (some 13) Try.func90 #[.agg #[.int .i64 a0_0, .int .i64 a0_1, .int .i64 a0_2], .slice Ao19 y270.length co19] ?_; (with_reducible refine zCall (galois_member.calls k a0_0 a0_1 a0_2 _ _ y270 true _ ?side1 ?side2 A4.out) ?_); (case side1 => exact zN HO272); (case side2 => exact (Kd.R_reads' HO272.out).2.1); intro w20 hb; replace HO272 := Aside0.mk (Kd.R_below (zO HO272) hb); replace BK269 := bB BK269 hb; replace HB := bS hb; (try clear hb); (try clear z269_0 z269_1 z269_2 f269_0 f269_1 f269_2); obtain ⟨z269_0, z269_1, z269_2, f269_0, f269_1, f269_2⟩ := cz3 BK269))
    go_ret2
    exact ⟨zE, zB⟩
 ·replace c5 := Bool.eq_false_iff.mpr c5
  subst c5
  rw [if_neg (show ¬ (false = true) by decide)] at H
  simp only [Option.some.injEq, Prod.mk.injEq] at H
  obtain ⟨rfl, rfl⟩ := H
  go_enter Try.func36, Try.ntmps36
  go_wp2_with (first | ((with_reducible refine gate_dst (N := 3) rfl ?_); refine zBox 3 #[.int .i64 a0_0, .int .i64 a0_1, .int .i64 a0_2] 23 ?_; clear HB; intro gb269 w22 BK269 GE269 HB; (try clear z269_0 z269_1 z269_2 f269_0 f269_1 f269_2); obtain ⟨z269_0, z269_1, z269_2, f269_0, f269_1, f269_2⟩ := cz3 BK269) | ((with_reducible refine gate_dst (N := 12) rfl ?_); refine Kd.R_lit (Kd.int .i64) _ 3 ?hg (N := 12) ?hd (xs := ([a1, a2] : List Int)) (inner := [.int .i64 a1, .int .i64 a2]) (ok := fun _ => True) (okp := fun _ => True) ?hr ?hp (fun _ hk => hk) trivial (Below.refl _ _) (Nat.le_refl _) (by simp) ?_; (case hd => rfl); (case hg => rfl); (case hr => first | (go_simp; done) | (go_simp; rfl)); (case hp => exact (Reps.one (show Kd.M (Kd.int .i64) _ _ _ a1 [.int .i64 a1] from rfl) (Reps.one (show Kd.M (Kd.int .i64) _ _ _ a2 [.int .i64 a2] from rfl) (Reps.none _ _)))); intro v271 w24 ho25 hb hg_ hnew_; clear hg_ hnew_; (first | rw [← Ny270.out] at ho25 | (simp only [Int.reduceToNat] at ho25; rw [← Ny270.out] at ho25)); have HO272 := Aside0.mk (Kd.R_lower ho25 (below_size zB)); replace BK269 := bB BK269 hb; replace HB := bS hb; clear hb ho25; obtain ⟨Ao26, co26, eo26⟩ := Kd.R_slice HO272.out; subst eo26) | ((with_reducible refine gate_callee (f := 90) rfl ?_); refine gL (some 13) Try.func90 #[.agg #[.int .i64 a0_0, .int .i64 a0_1, .int .i64 a0_2], .slice Ao26 y270.length co26] ?_; (with_reducible refine zCall (galois_member.calls k a0_0 a0_1 a0_2 _ _ y270 false _ ?side1 ?side2 A4.out) ?_); (case side1 => exact zN HO272); (case side2 => exact (Kd.R_reads' HO272.out).2.1); intro w27 hb; replace HO272 := Aside0.mk (Kd.R_below (zO HO272) hb); replace BK269 := bB BK269 hb; replace HB := bS hb; (try clear hb)))
  go_ret2
  exact ⟨zE, zB⟩
/-! ### barscanref04_Sub: function 37 -/
def barscanref04_Sub.f (k : Nat) (a0_0 : Int) (a0_1 : Int) (a0_2 : Int) (a1 : Int) (a2 : Int) : Option (Int × Int) := (barscanref04_Valid.f k a0_0 a0_1 a0_2).bind fun t276 => (if t276 = true then ((barscanref04_Is.f a0_0 a0_1 a0_2 a1).bind fun t277 => (if t277 = true then ((barscanref04_Is.f a0_0 a0_1 a0_2 a2).bind fun t278 => (if t278 = true then ((barscanref04_Minus.f a0_0 a0_1 a0_2 a1 a2).bind fun t279 => (some (t279, 0))) else (some (0, 1)))) else (some (0, 1)))) else (some (0, 1)))
theorem barscanref04_Sub.mono : ∀ a0 a1 a2 a3 a4 k, LeO (barscanref04_Sub.f k a0 a1 a2 a3 a4) (barscanref04_Sub.f (k + 1) a0 a1 a2 a3 a4) := by
 intro a0 a1 a2 a3 a4 k
 unfold barscanref04_Sub.f
 have m0_ := @barscanref04_Valid.mono
 exact zMo
theorem barscanref04_Sub.calls (k : Nat) (a0_0 : Int) (a0_1 : Int) (a0_2 : Int) (a1 : Int) (a2 : Int) (r1 : Int) (r2 : Int) (w : World) (h : barscanref04_Sub.f k a0_0 a0_1 a0_2 a1 a2 = some (r1, r2)) :
  Calls Try.prog 37 #[.agg #[.int .i64 a0_0, .int .i64 a0_1, .int .i64 a0_2], .int .i64 a1, .int .i64 a2] w fun e w' => e = .returned (.tuple #[.int .i64 r1, .int .i64 r2]) ∧ Below w.heap.size w w' := by
 have hu23 := Try.underlying23
 have HB := Aside0.mk (Below.refl w.heap.size w)
 have H := h
 unfold barscanref04_Sub.f at H
 clear h
 obtain ⟨t276, A4, H⟩ := zD H
 by_cases c5 : t276 = true
 ·subst c5
  rw [if_pos rfl] at H
  obtain ⟨t277, A6, H⟩ := zD H
  by_cases c7 : t277 = true
  ·subst c7
   rw [if_pos rfl] at H
   obtain ⟨t278, A8, H⟩ := zD H
   by_cases c9 : t278 = true
   ·subst c9
    rw [if_pos rfl] at H
    obtain ⟨t279, A10, H⟩ := zD H
    simp only [Option.some.injEq, Prod.mk.injEq] at H
    obtain ⟨rfl, rfl⟩ := H
    go_enter Try.func37, Try.ntmps37
    go_wp2_with (first | ((with_reducible refine gate_dst (N := 3) rfl ?_); refine zBox 3 #[.int .i64 a0_0, .int .i64 a0_1, .int .i64 a0_2] 23 ?_; clear HB; intro gb275 w11 BK275 GE275 HB; (try clear z275_0 z275_1 z275_2 f275_0 f275_1 f275_2); obtain ⟨z275_0, z275_1, z275_2, f275_0, f275_1, f275_2⟩ := cz3 BK275) | ((with_reducible refine gate_callee (f := 26) rfl ?_); refine gL (some 9) Try.func26 #[.agg #[.int .i64 a0_0, .int .i64 a0_1, .int .i64 a0_2]] ?_; (with_reducible refine zCall (barscanref04_Valid.calls k a0_0 a0_1 a0_2 true _ A4.out) ?_); intro w13 hb; replace BK275 := bB BK275 hb; replace HB := bS hb; (try clear hb); (try clear z275_0 z275_1 z275_2 f275_0 f275_1 f275_2); obtain ⟨z275_0, z275_1, z275_2, f275_0, f275_1, f275_2⟩ := cz3 BK275) | (go_at_call 44; (with_reducible refine (barscanref04_Is.calls a0_0 a0_1 a0_2 a1 true _ A6.out).mono ?_); rintro e w15 ⟨rfl, hb⟩; replace BK275 := bB BK275 hb; replace HB := bS hb; (try clear hb); (try clear z275_0 z275_1 z275_2 f275_0 f275_1 f275_2); obtain ⟨z275_0, z275_1, z275_2, f275_0, f275_1, f275_2⟩ := cz3 BK275) | (go_at_call 44; (with_reducible refine (barscanref04_Is.calls a0_0 a0_1 a0_2 a2 true _ A8.out).mono ?_); rintro e w17 ⟨rfl, hb⟩; replace BK275 := bB BK275 hb; replace HB := bS hb; (try clear hb); (try clear z275_0 z275_1 z275_2 f275_0 f275_1 f275_2); obtain ⟨z275_0, z275_1, z275_2, f275_0, f275_1, f275_2⟩ := cz3 BK275) | ((with_reducible refine gate_callee (f := 98) rfl ?_); refine gL (some 26) Try.func98 #[.agg #[.int .i64 a0_0, .int .i64 a0_1, .int .i64 a0_2], .int .i64 a1, .int .i64 a2] ?_; (with_reducible refine zCall (barscanref04_Minus.calls a0_0 a0_1 a0_2 a1 a2 t279 _ A10.out) ?_); intro w19 hb; replace BK275 := bB BK275 hb; replace HB := bS hb; (try clear hb)))
    go_ret2
    exact ⟨zE, zB⟩
   ·replace c9 := Bool.eq_false_iff.mpr c9
    subst c9
    rw [if_neg (show ¬ (false = true) by decide)] at H
    simp only [Option.some.injEq, Prod.mk.injEq] at H
    obtain ⟨rfl, rfl⟩ := H
    go_enter Try.func37, Try.ntmps37
    go_wp2_with (first | ((with_reducible refine gate_dst (N := 3) rfl ?_); refine zBox 3 #[.int .i64 a0_0, .int .i64 a0_1, .int .i64 a0_2] 23 ?_; clear HB; intro gb275 w20 BK275 GE275 HB; (try clear z275_0 z275_1 z275_2 f275_0 f275_1 f275_2); obtain ⟨z275_0, z275_1, z275_2, f275_0, f275_1, f275_2⟩ := cz3 BK275) | ((with_reducible refine gate_callee (f := 26) rfl ?_); refine gL (some 9) Try.func26 #[.agg #[.int .i64 a0_0, .int .i64 a0_1, .int .i64 a0_2]] ?_; (with_reducible refine zCall (barscanref04_Valid.calls k a0_0 a0_1 a0_2 true _ A4.out) ?_); intro w22 hb; replace BK275 := bB BK275 hb; replace HB := bS hb; (try clear hb); (try clear z275_0 z275_1 z275_2 f275_0 f275_1 f275_2); obtain ⟨z275_0, z275_1, z275_2, f275_0, f275_1, f275_2⟩ := cz3 BK275) | (go_at_call 44; (with_reducible refine (barscanref04_Is.calls a0_0 a0_1 a0_2 a1 true _ A6.out).mono ?_); rintro e w24 ⟨rfl, hb⟩; replace BK275 := bB BK275 hb; replace HB := bS hb; (try clear hb); (try clear z275_0 z275_1 z275_2 f275_0 f275_1 f275_2); obtain ⟨z275_0, z275_1, z275_2, f275_0, f275_1, f275_2⟩ := cz3 BK275) | (go_at_call 44; (with_reducible refine (barscanref04_Is.calls a0_0 a0_1 a0_2 a2 false _ A8.out).mono ?_); rintro e w26 ⟨rfl, hb⟩; replace BK275 := bB BK275 hb; replace HB := bS hb; (try clear hb)))
    go_ret2
    exact ⟨zE, zB⟩
  ·replace c7 := Bool.eq_false_iff.mpr c7
   subst c7
   rw [if_neg (show ¬ (false = true) by decide)] at H
   simp only [Option.some.injEq, Prod.mk.injEq] at H
   obtain ⟨rfl, rfl⟩ := H
   go_enter Try.func37, Try.ntmps37
   go_wp2_with (first | ((with_reducible refine gate_dst (N := 3) rfl ?_); refine zBox 3 #[.int .i64 a0_0, .int .i64 a0_1, .int .i64 a0_2] 23 ?_; clear HB; intro gb275 w27 BK275 GE275 HB; (try clear z275_0 z275_1 z275_2 f275_0 f275_1 f275_2); obtain ⟨z275_0, z275_1, z275_2, f275_0, f275_1, f275_2⟩ := cz3 BK275) | ((with_reducible refine gate_callee (f := 26) rfl ?_); refine gL (some 9) Try.func26 #[.agg #[.int .i64 a0_0, .int .i64 a0_1, .int .i64 a0_2]] ?_; (with_reducible refine zCall (barscanref04_Valid.calls k a0_0 a0_1 a0_2 true _ A4.out) ?_); intro w29 hb; replace BK275 := bB BK275 hb; replace HB := bS hb; (try clear hb); (try clear z275_0 z275_1 z275_2 f275_0 f275_1 f275_2); obtain ⟨z275_0, z275_1, z275_2, f275_0, f275_1, f275_2⟩ := cz3 BK275) | (go_at_call 44; (with_reducible refine (barscanref04_Is.calls a0_0 a0_1 a0_2 a1 false _ A6.out).mono ?_); rintro e w31 ⟨rfl, hb⟩; replace BK275 := bB BK275 hb; replace HB := bS hb; (try clear hb)))
   go_ret2
   exact ⟨zE, zB⟩
 ·replace c5 := Bool.eq_false_iff.mpr c5
  subst c5
  rw [if_neg (show ¬ (false = true) by decide)] at H
  simp only [Option.some.injEq, Prod.mk.injEq] at H
  obtain ⟨rfl, rfl⟩ := H
  go_enter Try.func37, Try.ntmps37
  go_wp2_with (first | ((with_reducible refine gate_dst (N := 3) rfl ?_); refine zBox 3 #[.int .i64 a0_0, .int .i64 a0_1, .int .i64 a0_2] 23 ?_; clear HB; intro gb275 w32 BK275 GE275 HB; (try clear z275_0 z275_1 z275_2 f275_0 f275_1 f275_2); obtain ⟨z275_0, z275_1, z275_2, f275_0, f275_1, f275_2⟩ := cz3 BK275) | ((with_reducible refine gate_callee (f := 26) rfl ?_); refine gL (some 9) Try.func26 #[.agg #[.int .i64 a0_0, .int .i64 a0_1, .int .i64 a0_2]] ?_; (with_reducible refine zCall (barscanref04_Valid.calls k a0_0 a0_1 a0_2 false _ A4.out) ?_); intro w34 hb; replace BK275 := bB BK275 hb; replace HB := bS hb; (try clear hb)))
  go_ret2
  exact ⟨zE, zB⟩
/-! ### barscanref04_Mul: function 39 -/
def barscanref04_Mul.f (k : Nat) (a0_0 : Int) (a0_1 : Int) (a0_2 : Int) (a1 : Int) (a2 : Int) : Option (Int × Int) := (barscanref04_Valid.f k a0_0 a0_1 a0_2).bind fun t281 => (if t281 = true then ((barscanref04_Is.f a0_0 a0_1 a0_2 a1).bind fun t282 => (if t282 = true then ((barscanref04_Is.f a0_0 a0_1 a0_2 a2).bind fun t283 => (if t283 = true then ((barscanref04_Times.f k a0_0 a0_1 a0_2 a1 a2).bind fun t284 => (some (t284, 0))) else (some (0, 1)))) else (some (0, 1)))) else (some (0, 1)))
theorem barscanref04_Mul.mono : ∀ a0 a1 a2 a3 a4 k, LeO (barscanref04_Mul.f k a0 a1 a2 a3 a4) (barscanref04_Mul.f (k + 1) a0 a1 a2 a3 a4) := by
 intro a0 a1 a2 a3 a4 k
 unfold barscanref04_Mul.f
 have m0_ := @barscanref04_Times.mono
 have m1_ := @barscanref04_Valid.mono
 exact zMo
theorem barscanref04_Mul.calls (k : Nat) (a0_0 : Int) (a0_1 : Int) (a0_2 : Int) (a1 : Int) (a2 : Int) (r1 : Int) (r2 : Int) (w : World) (h : barscanref04_Mul.f k a0_0 a0_1 a0_2 a1 a2 = some (r1, r2)) :
  Calls Try.prog 39 #[.agg #[.int .i64 a0_0, .int .i64 a0_1, .int .i64 a0_2], .int .i64 a1, .int .i64 a2] w fun e w' => e = .returned (.tuple #[.int .i64 r1, .int .i64 r2]) ∧ Below w.heap.size w w' := by
 have hu23 := Try.underlying23
 have HB := Aside0.mk (Below.refl w.heap.size w)
 have H := h
 unfold barscanref04_Mul.f at H
 clear h
 obtain ⟨t281, A4, H⟩ := zD H
 by_cases c5 : t281 = true
 ·subst c5
  rw [if_pos rfl] at H
  obtain ⟨t282, A6, H⟩ := zD H
  by_cases c7 : t282 = true
  ·subst c7
   rw [if_pos rfl] at H
   obtain ⟨t283, A8, H⟩ := zD H
   by_cases c9 : t283 = true
   ·subst c9
    rw [if_pos rfl] at H
    obtain ⟨t284, A10, H⟩ := zD H
    simp only [Option.some.injEq, Prod.mk.injEq] at H
    obtain ⟨rfl, rfl⟩ := H
    go_enter Try.func39, Try.ntmps39
    go_wp2_with (first | ((with_reducible refine gate_dst (N := 3) rfl ?_); refine zBox 3 #[.int .i64 a0_0, .int .i64 a0_1, .int .i64 a0_2] 23 ?_; clear HB; intro gb280 w11 BK280 GE280 HB; (try clear z280_0 z280_1 z280_2 f280_0 f280_1 f280_2); obtain ⟨z280_0, z280_1, z280_2, f280_0, f280_1, f280_2⟩ := cz3 BK280) | ((with_reducible refine gate_callee (f := 26) rfl ?_); refine gL (some 9) Try.func26 #[.agg #[.int .i64 a0_0, .int .i64 a0_1, .int .i64 a0_2]] ?_; (with_reducible refine zCall (barscanref04_Valid.calls k a0_0 a0_1 a0_2 true _ A4.out) ?_); intro w13 hb; replace BK280 := bB BK280 hb; replace HB := bS hb; (try clear hb); (try clear z280_0 z280_1 z280_2 f280_0 f280_1 f280_2); obtain ⟨z280_0, z280_1, z280_2, f280_0, f280_1, f280_2⟩ := cz3 BK280) | (go_at_call 44; (with_reducible refine (barscanref04_Is.calls a0_0 a0_1 a0_2 a1 true _ A6.out).mono ?_); rintro e w15 ⟨rfl, hb⟩; replace BK280 := bB BK280 hb; replace HB := bS hb; (try clear hb); (try clear z280_0 z280_1 z280_2 f280_0 f280_1 f280_2); obtain ⟨z280_0, z280_1, z280_2, f280_0, f280_1, f280_2⟩ := cz3 BK280) | (go_at_call 44; (with_reducible refine (barscanref04_Is.calls a0_0 a0_1 a0_2 a2 true _ A8.out).mono ?_); rintro e w17 ⟨rfl, hb⟩; replace BK280 := bB BK280 hb; replace HB := bS hb; (try clear hb); (try clear z280_0 z280_1 z280_2 f280_0 f280_1 f280_2); obtain ⟨z280_0, z280_1, z280_2, f280_0, f280_1, f280_2⟩ := cz3 BK280) | ((with_reducible refine gate_callee (f := 96) rfl ?_); refine gL (some 26) Try.func96 #[.agg #[.int .i64 a0_0, .int .i64 a0_1, .int .i64 a0_2], .int .i64 a1, .int .i64 a2] ?_; (with_reducible refine zCall (barscanref04_Times.calls k a0_0 a0_1 a0_2 a1 a2 t284 _ A10.out) ?_); intro w19 hb; replace BK280 := bB BK280 hb; replace HB := bS hb; (try clear hb)))
    go_ret2
    exact ⟨zE, zB⟩
   ·replace c9 := Bool.eq_false_iff.mpr c9
    subst c9
    rw [if_neg (show ¬ (false = true) by decide)] at H
    simp only [Option.some.injEq, Prod.mk.injEq] at H
    obtain ⟨rfl, rfl⟩ := H
    go_enter Try.func39, Try.ntmps39
    go_wp2_with (first | ((with_reducible refine gate_dst (N := 3) rfl ?_); refine zBox 3 #[.int .i64 a0_0, .int .i64 a0_1, .int .i64 a0_2] 23 ?_; clear HB; intro gb280 w20 BK280 GE280 HB; (try clear z280_0 z280_1 z280_2 f280_0 f280_1 f280_2); obtain ⟨z280_0, z280_1, z280_2, f280_0, f280_1, f280_2⟩ := cz3 BK280) | ((with_reducible refine gate_callee (f := 26) rfl ?_); refine gL (some 9) Try.func26 #[.agg #[.int .i64 a0_0, .int .i64 a0_1, .int .i64 a0_2]] ?_; (with_reducible refine zCall (barscanref04_Valid.calls k a0_0 a0_1 a0_2 true _ A4.out) ?_); intro w22 hb; replace BK280 := bB BK280 hb; replace HB := bS hb; (try clear hb); (try clear z280_0 z280_1 z280_2 f280_0 f280_1 f280_2); obtain ⟨z280_0, z280_1, z280_2, f280_0, f280_1, f280_2⟩ := cz3 BK280) | (go_at_call 44; (with_reducible refine (barscanref04_Is.calls a0_0 a0_1 a0_2 a1 true _ A6.out).mono ?_); rintro e w24 ⟨rfl, hb⟩; replace BK280 := bB BK280 hb; replace HB := bS hb; (try clear hb); (try clear z280_0 z280_1 z280_2 f280_0 f280_1 f280_2); obtain ⟨z280_0, z280_1, z280_2, f280_0, f280_1, f280_2⟩ := cz3 BK280) | (go_at_call 44; (with_reducible refine (barscanref04_Is.calls a0_0 a0_1 a0_2 a2 false _ A8.out).mono ?_); rintro e w26 ⟨rfl, hb⟩; replace BK280 := bB BK280 hb; replace HB := bS hb; (try clear hb)))
    go_ret2
    exact ⟨zE, zB⟩
  ·replace c7 := Bool.eq_false_iff.mpr c7
   subst c7
   rw [if_neg (show ¬ (false = true) by decide)] at H
   simp only [Option.some.injEq, Prod.mk.injEq] at H
   obtain ⟨rfl, rfl⟩ := H
   go_enter Try.func39, Try.ntmps39
   go_wp2_with (first | ((with_reducible refine gate_dst (N := 3) rfl ?_); refine zBox 3 #[.int .i64 a0_0, .int .i64 a0_1, .int .i64 a0_2] 23 ?_; clear HB; intro gb280 w27 BK280 GE280 HB; (try clear z280_0 z280_1 z280_2 f280_0 f280_1 f280_2); obtain ⟨z280_0, z280_1, z280_2, f280_0, f280_1, f280_2⟩ := cz3 BK280) | ((with_reducible refine gate_callee (f := 26) rfl ?_); refine gL (some 9) Try.func26 #[.agg #[.int .i64 a0_0, .int .i64 a0_1, .int .i64 a0_2]] ?_; (with_reducible refine zCall (barscanref04_Valid.calls k a0_0 a0_1 a0_2 true _ A4.out) ?_); intro w29 hb; replace BK280 := bB BK280 hb; replace HB := bS hb; (try clear hb); (try clear z280_0 z280_1 z280_2 f280_0 f280_1 f280_2); obtain ⟨z280_0, z280_1, z280_2, f280_0, f280_1, f280_2⟩ := cz3 BK280) | (go_at_call 44; (with_reducible refine (barscanref04_Is.calls a0_0 a0_1 a0_2 a1 false _ A6.out).mono ?_); rintro e w31 ⟨rfl, hb⟩; replace BK280 := bB BK280 hb; replace HB := bS hb; (try clear hb)))
   go_ret2
   exact ⟨zE, zB⟩
 ·replace c5 := Bool.eq_false_iff.mpr c5
  subst c5
  rw [if_neg (show ¬ (false = true) by decide)] at H
  simp only [Option.some.injEq, Prod.mk.injEq] at H
  obtain ⟨rfl, rfl⟩ := H
  go_enter Try.func39, Try.ntmps39
  go_wp2_with (first | ((with_reducible refine gate_dst (N := 3) rfl ?_); refine zBox 3 #[.int .i64 a0_0, .int .i64 a0_1, .int .i64 a0_2] 23 ?_; clear HB; intro gb280 w32 BK280 GE280 HB; (try clear z280_0 z280_1 z280_2 f280_0 f280_1 f280_2); obtain ⟨z280_0, z280_1, z280_2, f280_0, f280_1, f280_2⟩ := cz3 BK280) | ((with_reducible refine gate_callee (f := 26) rfl ?_); refine gL (some 9) Try.func26 #[.agg #[.int .i64 a0_0, .int .i64 a0_1, .int .i64 a0_2]] ?_; (with_reducible refine zCall (barscanref04_Valid.calls k a0_0 a0_1 a0_2 false _ A4.out) ?_); intro w34 hb; replace BK280 := bB BK280 hb; replace HB := bS hb; (try clear hb)))
  go_ret2
  exact ⟨zE, zB⟩
end Go.Proofs.Ytlhaclammaaabaa.Pg
