-- Written by a program of this session over the print of the kit.
import Derived.Test.YtlhaclammaaabaaY
import Derived.Test.YtlhaclammaaabaaB0
namespace Go.Proofs.Ytlhaclammaaabaa.Pg
open Go.RowKit Go.Proofs.YtlhaclammaaabaaW.PrintWords Go.Proofs.YtlhaclammaaabaaW.PrintLast Go.Proofs.YtlhaclammaaabaaW.PrintMore
attribute [local go_sem] max2_int min2_int max_two min_two max_three min_three max_four min_four
set_option linter.unusedVariables false
set_option maxHeartbeats 8000000
set_option maxRecDepth 100000
set_option linter.unusedSimpArgs false
/-! ### galois_Add: function 34 -/
def galois_Add.f (k : Nat) (a0_0 : Int) (a0_1 : Int) (a0_2 : Int) (a1 : Int) (a2 : Int) : Option (Int × Int) := (galois_member.f k a0_0 a0_1 a0_2 (([a1, a2] : List Int))).bind fun t159 => (if t159 = true then (if a0_0 = 2 then (some (Go.bits .xor .i64 a1 a2, 0)) else (if a0_1 = 0 then (none) else (some (Int.tmod (wrap64 (a1 + a2)) a0_1, 0)))) else (some (0, 1)))
theorem galois_Add.mono : ∀ a0 a1 a2 a3 a4 k, LeO (galois_Add.f k a0 a1 a2 a3 a4) (galois_Add.f (k + 1) a0 a1 a2 a3 a4) := by
 intro a0 a1 a2 a3 a4 k
 unfold galois_Add.f
 have m0_ := @galois_member.mono
 exact zMo
theorem galois_Add.calls (k : Nat) (a0_0 : Int) (a0_1 : Int) (a0_2 : Int) (a1 : Int) (a2 : Int) (r1 : Int) (r2 : Int) (w : World) (h : galois_Add.f k a0_0 a0_1 a0_2 a1 a2 = some (r1, r2)) :
  Calls Try.prog 34 #[.agg #[.int .i64 a0_0, .int .i64 a0_1, .int .i64 a0_2], .int .i64 a1, .int .i64 a2] w fun e w' => e = .returned (.tuple #[.int .i64 r1, .int .i64 r2]) ∧ Below w.heap.size w w' := by
 have hu23 := Try.underlying23
 have HB := Aside0.mk (Below.refl w.heap.size w)
 have H := h
 unfold galois_Add.f at H
 clear h
 obtain ⟨y156, hy156⟩ : ∃ y_ : List Int, y_ = (([a1, a2] : List Int)) := ⟨_, rfl⟩
 replace H : ((galois_member.f k a0_0 a0_1 a0_2 y156).bind fun t159 => (if t159 = true then (if a0_0 = 2 then (some (Go.bits .xor .i64 a1 a2, 0)) else (if a0_1 = 0 then (none) else (some (Int.tmod (wrap64 (a1 + a2)) a0_1, 0)))) else (some (0, 1)))) = some (r1, r2) := by first | (rw [hy156]; with_reducible exact H) | (have H2_ := (Option.bind_some _ _).symm.trans H; rw [hy156]; with_reducible exact H2_) | (have H2_ := (Option.bind_some _ _).symm.trans H; with_reducible exact H2_) | with_reducible exact H | (rw [hy156]; exact H) | exact H
 have Ny156 := Aside0.mk hy156
 clear hy156
 obtain ⟨t159, A4, H⟩ := zD H
 by_cases c5 : t159 = true
 ·subst c5
  rw [if_pos rfl] at H
  by_cases c6 : a0_0 = 2
  ·rw [if_pos c6] at H
   have c6b0 := beq_iff_eq.mpr c6
   have c6b1 := bne_eq_false_iff_eq.mpr c6
   clear c6
   simp only [Option.some.injEq, Prod.mk.injEq] at H
   obtain ⟨rfl, rfl⟩ := H
   go_enter Try.func34, Try.ntmps34
   go_wp2_with (first | ((with_reducible refine gate_dst (N := 3) rfl ?_); refine zBox 3 #[.int .i64 a0_0, .int .i64 a0_1, .int .i64 a0_2] 23 ?_; clear HB; intro gb155 w7 BK155 GE155 HB; (try clear z155_0 z155_1 z155_2 f155_0 f155_1 f155_2); obtain ⟨z155_0, z155_1, z155_2, f155_0, f155_1, f155_2⟩ := cz3 BK155) | ((with_reducible refine gate_dst (N := 12) rfl ?_); refine Kd.R_lit (Kd.int .i64) _ 3 ?hg (N := 12) ?hd (xs := ([a1, a2] : List Int)) (inner := [.int .i64 a1, .int .i64 a2]) (ok := fun _ => True) (okp := fun _ => True) ?hr ?hp (fun _ hk => hk) trivial (Below.refl _ _) (Nat.le_refl _) (by simp) ?_; (case hd => rfl); (case hg => rfl); (case hr => first | (go_simp; done) | (go_simp; rfl)); (case hp => exact (Reps.one (show Kd.M (Kd.int .i64) _ _ _ a1 [.int .i64 a1] from rfl) (Reps.one (show Kd.M (Kd.int .i64) _ _ _ a2 [.int .i64 a2] from rfl) (Reps.none _ _)))); intro v157 w9 ho10 hb hg_ hnew_; clear hg_ hnew_; (first | rw [← Ny156.out] at ho10 | (simp only [Int.reduceToNat] at ho10; rw [← Ny156.out] at ho10)); have HO158 := Aside0.mk (Kd.R_lower ho10 (below_size zB)); replace BK155 := bB BK155 hb; replace HB := bS hb; clear hb ho10; obtain ⟨Ao11, co11, eo11⟩ := Kd.R_slice HO158.out; subst eo11) | ((with_reducible refine gate_callee (f := 90) rfl ?_); refine gL (some 13) Try.func90 #[.agg #[.int .i64 a0_0, .int .i64 a0_1, .int .i64 a0_2], .slice Ao11 y156.length co11] ?_; (with_reducible refine zCall (galois_member.calls k a0_0 a0_1 a0_2 _ _ y156 true _ ?side1 ?side2 A4.out) ?_); (case side1 => exact zN HO158); (case side2 => exact (Kd.R_reads' HO158.out).2.1); intro w12 hb; replace HO158 := Aside0.mk (Kd.R_below (zO HO158) hb); replace BK155 := bB BK155 hb; replace HB := bS hb; (try clear hb); (try clear z155_0 z155_1 z155_2 f155_0 f155_1 f155_2); obtain ⟨z155_0, z155_1, z155_2, f155_0, f155_1, f155_2⟩ := cz3 BK155))
   go_ret2
   exact ⟨zE, zB⟩
  ·rw [if_neg c6] at H
   have c6b0 := beq_eq_false_iff_ne.mpr c6
   have c6b1 := bne_iff_ne.mpr c6
   by_cases c14 : a0_1 = 0
   ·rw [if_pos c14] at H
    exact absurd H (by simp)
   ·rw [if_neg c14] at H
    have c14b0 := beq_eq_false_iff_ne.mpr c14
    have c14b1 := bne_iff_ne.mpr c14
    simp only [Option.some.injEq, Prod.mk.injEq] at H
    obtain ⟨rfl, rfl⟩ := H
    go_enter Try.func34, Try.ntmps34
    go_wp2_with (first | ((with_reducible refine gate_dst (N := 3) rfl ?_); refine zBox 3 #[.int .i64 a0_0, .int .i64 a0_1, .int .i64 a0_2] 23 ?_; clear HB; intro gb155 w15 BK155 GE155 HB; (try clear z155_0 z155_1 z155_2 f155_0 f155_1 f155_2); obtain ⟨z155_0, z155_1, z155_2, f155_0, f155_1, f155_2⟩ := cz3 BK155) | ((with_reducible refine gate_dst (N := 12) rfl ?_); refine Kd.R_lit (Kd.int .i64) _ 3 ?hg (N := 12) ?hd (xs := ([a1, a2] : List Int)) (inner := [.int .i64 a1, .int .i64 a2]) (ok := fun _ => True) (okp := fun _ => True) ?hr ?hp (fun _ hk => hk) trivial (Below.refl _ _) (Nat.le_refl _) (by simp) ?_; (case hd => rfl); (case hg => rfl); (case hr => first | (go_simp; done) | (go_simp; rfl)); (case hp => exact (Reps.one (show Kd.M (Kd.int .i64) _ _ _ a1 [.int .i64 a1] from rfl) (Reps.one (show Kd.M (Kd.int .i64) _ _ _ a2 [.int .i64 a2] from rfl) (Reps.none _ _)))); intro v157 w17 ho18 hb hg_ hnew_; clear hg_ hnew_; (first | rw [← Ny156.out] at ho18 | (simp only [Int.reduceToNat] at ho18; rw [← Ny156.out] at ho18)); have HO158 := Aside0.mk (Kd.R_lower ho18 (below_size zB)); replace BK155 := bB BK155 hb; replace HB := bS hb; clear hb ho18; obtain ⟨Ao19, co19, eo19⟩ := Kd.R_slice HO158.out; subst eo19) | ((with_reducible refine gate_callee (f := 90) rfl ?_); refine gL (some 13) Try.func90 #[.agg #[.int .i64 a0_0, .int .i64 a0_1, .int .i64 a0_2], .slice Ao19 y156.length co19] ?_; (with_reducible refine zCall (galois_member.calls k a0_0 a0_1 a0_2 _ _ y156 true _ ?side1 ?side2 A4.out) ?_); (case side1 => exact zN HO158); (case side2 => exact (Kd.R_reads' HO158.out).2.1); intro w20 hb; replace HO158 := Aside0.mk (Kd.R_below (zO HO158) hb); replace BK155 := bB BK155 hb; replace HB := bS hb; (try clear hb); (try clear z155_0 z155_1 z155_2 f155_0 f155_1 f155_2); obtain ⟨z155_0, z155_1, z155_2, f155_0, f155_1, f155_2⟩ := cz3 BK155))
    go_ret2
    exact ⟨zE, zB⟩
 ·replace c5 := Bool.eq_false_iff.mpr c5
  subst c5
  rw [if_neg (show ¬ (false = true) by decide)] at H
  simp only [Option.some.injEq, Prod.mk.injEq] at H
  obtain ⟨rfl, rfl⟩ := H
  go_enter Try.func34, Try.ntmps34
  go_wp2_with (first | ((with_reducible refine gate_dst (N := 3) rfl ?_); refine zBox 3 #[.int .i64 a0_0, .int .i64 a0_1, .int .i64 a0_2] 23 ?_; clear HB; intro gb155 w22 BK155 GE155 HB; (try clear z155_0 z155_1 z155_2 f155_0 f155_1 f155_2); obtain ⟨z155_0, z155_1, z155_2, f155_0, f155_1, f155_2⟩ := cz3 BK155) | ((with_reducible refine gate_dst (N := 12) rfl ?_); refine Kd.R_lit (Kd.int .i64) _ 3 ?hg (N := 12) ?hd (xs := ([a1, a2] : List Int)) (inner := [.int .i64 a1, .int .i64 a2]) (ok := fun _ => True) (okp := fun _ => True) ?hr ?hp (fun _ hk => hk) trivial (Below.refl _ _) (Nat.le_refl _) (by simp) ?_; (case hd => rfl); (case hg => rfl); (case hr => first | (go_simp; done) | (go_simp; rfl)); (case hp => exact (Reps.one (show Kd.M (Kd.int .i64) _ _ _ a1 [.int .i64 a1] from rfl) (Reps.one (show Kd.M (Kd.int .i64) _ _ _ a2 [.int .i64 a2] from rfl) (Reps.none _ _)))); intro v157 w24 ho25 hb hg_ hnew_; clear hg_ hnew_; (first | rw [← Ny156.out] at ho25 | (simp only [Int.reduceToNat] at ho25; rw [← Ny156.out] at ho25)); have HO158 := Aside0.mk (Kd.R_lower ho25 (below_size zB)); replace BK155 := bB BK155 hb; replace HB := bS hb; clear hb ho25; obtain ⟨Ao26, co26, eo26⟩ := Kd.R_slice HO158.out; subst eo26) | ((with_reducible refine gate_callee (f := 90) rfl ?_); refine gL (some 13) Try.func90 #[.agg #[.int .i64 a0_0, .int .i64 a0_1, .int .i64 a0_2], .slice Ao26 y156.length co26] ?_; (with_reducible refine zCall (galois_member.calls k a0_0 a0_1 a0_2 _ _ y156 false _ ?side1 ?side2 A4.out) ?_); (case side1 => exact zN HO158); (case side2 => exact (Kd.R_reads' HO158.out).2.1); intro w27 hb; replace HO158 := Aside0.mk (Kd.R_below (zO HO158) hb); replace BK155 := bB BK155 hb; replace HB := bS hb; (try clear hb)))
  go_ret2
  exact ⟨zE, zB⟩
/-! ### galois_Mul: function 38 -/
def galois_Mul.f (k : Nat) (a0_0 : Int) (a0_1 : Int) (a0_2 : Int) (a1 : Int) (a2 : Int) : Option (Int × Int) := (galois_member.f k a0_0 a0_1 a0_2 (([a1, a2] : List Int))).bind fun t164 => (if t164 = true then ((galois_times.f k a0_0 a0_1 a0_2 a1 a2).bind fun t165 => (some (t165, 0))) else (some (0, 1)))
theorem galois_Mul.mono : ∀ a0 a1 a2 a3 a4 k, LeO (galois_Mul.f k a0 a1 a2 a3 a4) (galois_Mul.f (k + 1) a0 a1 a2 a3 a4) := by
 intro a0 a1 a2 a3 a4 k
 unfold galois_Mul.f
 have m0_ := @galois_member.mono
 have m1_ := @galois_times.mono
 exact zMo
theorem galois_Mul.calls (k : Nat) (a0_0 : Int) (a0_1 : Int) (a0_2 : Int) (a1 : Int) (a2 : Int) (r1 : Int) (r2 : Int) (w : World) (h : galois_Mul.f k a0_0 a0_1 a0_2 a1 a2 = some (r1, r2)) :
  Calls Try.prog 38 #[.agg #[.int .i64 a0_0, .int .i64 a0_1, .int .i64 a0_2], .int .i64 a1, .int .i64 a2] w fun e w' => e = .returned (.tuple #[.int .i64 r1, .int .i64 r2]) ∧ Below w.heap.size w w' := by
 have hu23 := Try.underlying23
 have HB := Aside0.mk (Below.refl w.heap.size w)
 have H := h
 unfold galois_Mul.f at H
 clear h
 obtain ⟨y161, hy161⟩ : ∃ y_ : List Int, y_ = (([a1, a2] : List Int)) := ⟨_, rfl⟩
 replace H : ((galois_member.f k a0_0 a0_1 a0_2 y161).bind fun t164 => (if t164 = true then ((galois_times.f k a0_0 a0_1 a0_2 a1 a2).bind fun t165 => (some (t165, 0))) else (some (0, 1)))) = some (r1, r2) := by first | (rw [hy161]; with_reducible exact H) | (have H2_ := (Option.bind_some _ _).symm.trans H; rw [hy161]; with_reducible exact H2_) | (have H2_ := (Option.bind_some _ _).symm.trans H; with_reducible exact H2_) | with_reducible exact H | (rw [hy161]; exact H) | exact H
 have Ny161 := Aside0.mk hy161
 clear hy161
 obtain ⟨t164, A4, H⟩ := zD H
 by_cases c5 : t164 = true
 ·subst c5
  rw [if_pos rfl] at H
  obtain ⟨t165, A6, H⟩ := zD H
  simp only [Option.some.injEq, Prod.mk.injEq] at H
  obtain ⟨rfl, rfl⟩ := H
  go_enter Try.func38, Try.ntmps38
  go_wp2_with (first | ((with_reducible refine gate_dst (N := 3) rfl ?_); refine zBox 3 #[.int .i64 a0_0, .int .i64 a0_1, .int .i64 a0_2] 23 ?_; clear HB; intro gb160 w7 BK160 GE160 HB; (try clear z160_0 z160_1 z160_2 f160_0 f160_1 f160_2); obtain ⟨z160_0, z160_1, z160_2, f160_0, f160_1, f160_2⟩ := cz3 BK160) | ((with_reducible refine gate_dst (N := 11) rfl ?_); refine Kd.R_lit (Kd.int .i64) _ 3 ?hg (N := 11) ?hd (xs := ([a1, a2] : List Int)) (inner := [.int .i64 a1, .int .i64 a2]) (ok := fun _ => True) (okp := fun _ => True) ?hr ?hp (fun _ hk => hk) trivial (Below.refl _ _) (Nat.le_refl _) (by simp) ?_; (case hd => rfl); (case hg => rfl); (case hr => first | (go_simp; done) | (go_simp; rfl)); (case hp => exact (Reps.one (show Kd.M (Kd.int .i64) _ _ _ a1 [.int .i64 a1] from rfl) (Reps.one (show Kd.M (Kd.int .i64) _ _ _ a2 [.int .i64 a2] from rfl) (Reps.none _ _)))); intro v162 w9 ho10 hb hg_ hnew_; clear hg_ hnew_; (first | rw [← Ny161.out] at ho10 | (simp only [Int.reduceToNat] at ho10; rw [← Ny161.out] at ho10)); have HO163 := Aside0.mk (Kd.R_lower ho10 (below_size zB)); replace BK160 := bB BK160 hb; replace HB := bS hb; clear hb ho10; obtain ⟨Ao11, co11, eo11⟩ := Kd.R_slice HO163.out; subst eo11) | ((with_reducible refine gate_callee (f := 90) rfl ?_); refine gL (some 12) Try.func90 #[.agg #[.int .i64 a0_0, .int .i64 a0_1, .int .i64 a0_2], .slice Ao11 y161.length co11] ?_; (with_reducible refine zCall (galois_member.calls k a0_0 a0_1 a0_2 _ _ y161 true _ ?side1 ?side2 A4.out) ?_); (case side1 => exact zN HO163); (case side2 => exact (Kd.R_reads' HO163.out).2.1); intro w12 hb; replace HO163 := Aside0.mk (Kd.R_below (zO HO163) hb); replace BK160 := bB BK160 hb; replace HB := bS hb; (try clear hb); (try clear z160_0 z160_1 z160_2 f160_0 f160_1 f160_2); obtain ⟨z160_0, z160_1, z160_2, f160_0, f160_1, f160_2⟩ := cz3 BK160) | ((with_reducible refine gate_callee (f := 95) rfl ?_); refine gL (some 17) Try.func95 #[.agg #[.int .i64 a0_0, .int .i64 a0_1, .int .i64 a0_2], .int .i64 a1, .int .i64 a2] ?_; (with_reducible refine zCall (galois_times.calls k a0_0 a0_1 a0_2 a1 a2 t165 _ A6.out) ?_); intro w14 hb; replace HO163 := Aside0.mk (Kd.R_below (zO HO163) hb); replace BK160 := bB BK160 hb; replace HB := bS hb; (try clear hb)))
  go_ret2
  exact ⟨zE, zB⟩
 ·replace c5 := Bool.eq_false_iff.mpr c5
  subst c5
  rw [if_neg (show ¬ (false = true) by decide)] at H
  simp only [Option.some.injEq, Prod.mk.injEq] at H
  obtain ⟨rfl, rfl⟩ := H
  go_enter Try.func38, Try.ntmps38
  go_wp2_with (first | ((with_reducible refine gate_dst (N := 3) rfl ?_); refine zBox 3 #[.int .i64 a0_0, .int .i64 a0_1, .int .i64 a0_2] 23 ?_; clear HB; intro gb160 w15 BK160 GE160 HB; (try clear z160_0 z160_1 z160_2 f160_0 f160_1 f160_2); obtain ⟨z160_0, z160_1, z160_2, f160_0, f160_1, f160_2⟩ := cz3 BK160) | ((with_reducible refine gate_dst (N := 11) rfl ?_); refine Kd.R_lit (Kd.int .i64) _ 3 ?hg (N := 11) ?hd (xs := ([a1, a2] : List Int)) (inner := [.int .i64 a1, .int .i64 a2]) (ok := fun _ => True) (okp := fun _ => True) ?hr ?hp (fun _ hk => hk) trivial (Below.refl _ _) (Nat.le_refl _) (by simp) ?_; (case hd => rfl); (case hg => rfl); (case hr => first | (go_simp; done) | (go_simp; rfl)); (case hp => exact (Reps.one (show Kd.M (Kd.int .i64) _ _ _ a1 [.int .i64 a1] from rfl) (Reps.one (show Kd.M (Kd.int .i64) _ _ _ a2 [.int .i64 a2] from rfl) (Reps.none _ _)))); intro v162 w17 ho18 hb hg_ hnew_; clear hg_ hnew_; (first | rw [← Ny161.out] at ho18 | (simp only [Int.reduceToNat] at ho18; rw [← Ny161.out] at ho18)); have HO163 := Aside0.mk (Kd.R_lower ho18 (below_size zB)); replace BK160 := bB BK160 hb; replace HB := bS hb; clear hb ho18; obtain ⟨Ao19, co19, eo19⟩ := Kd.R_slice HO163.out; subst eo19) | ((with_reducible refine gate_callee (f := 90) rfl ?_); refine gL (some 12) Try.func90 #[.agg #[.int .i64 a0_0, .int .i64 a0_1, .int .i64 a0_2], .slice Ao19 y161.length co19] ?_; (with_reducible refine zCall (galois_member.calls k a0_0 a0_1 a0_2 _ _ y161 false _ ?side1 ?side2 A4.out) ?_); (case side1 => exact zN HO163); (case side2 => exact (Kd.R_reads' HO163.out).2.1); intro w20 hb; replace HO163 := Aside0.mk (Kd.R_below (zO HO163) hb); replace BK160 := bB BK160 hb; replace HB := bS hb; (try clear hb)))
  go_ret2
  exact ⟨zE, zB⟩
end Go.Proofs.Ytlhaclammaaabaa.Pg
