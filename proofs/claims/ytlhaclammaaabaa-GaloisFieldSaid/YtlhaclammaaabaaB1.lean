-- Written by a program of this session over the print of the kit.
import Derived.Test.YtlhaclammaaabaaY
import Derived.Test.YtlhaclammaaabaaB0
namespace Go.Proofs.Ytlhaclammaaabaa.Pg
open Go.RowKit Go.Proofs.YtlhaclammaaabaaW.PrintWords Go.Proofs.YtlhaclammaaabaaW.PrintLast Go.Proofs.YtlhaclammaaabaaW.PrintMore
attribute [local go_sem] max2_int min2_int max_two min_two max_three min_three max_four min_four
set_option linter.unusedVariables false
set_option maxHeartbeats 8000000
set_option maxRecDepth 100000
set_option linter.unusedSimpArgs false
/-! ### galois_Div: function 40 -/
def galois_Div.f (k : Nat) (a0_0 : Int) (a0_1 : Int) (a0_2 : Int) (a1 : Int) (a2 : Int) : Option (Int × Int) := (galois_member.f k a0_0 a0_1 a0_2 (([a1, a2] : List Int))).bind fun t176 => (if t176 = true then (if a2 = 0 then (some (0, 12)) else ((galois_inverse.f k a0_0 a0_1 a0_2 a2).bind fun t177 => ((galois_times.f k a0_0 a0_1 a0_2 a1 t177).bind fun t178 => (some (t178, 0))))) else (some (0, 1)))
theorem galois_Div.mono : ∀ a0 a1 a2 a3 a4 k, LeO (galois_Div.f k a0 a1 a2 a3 a4) (galois_Div.f (k + 1) a0 a1 a2 a3 a4) := by
 intro a0 a1 a2 a3 a4 k
 unfold galois_Div.f
 have m0_ := @galois_inverse.mono
 have m1_ := @galois_member.mono
 have m2_ := @galois_times.mono
 exact zMo
def galois_Div.T5 : Bool × List (List Nat × List Nat) := (true, [([], []), ([], []), ([], []), ([], []), ([2, 3], [2, 3]), ([0, 1, 4, 4], [0, 1, 4]), ([5, 5, 0, 1, 2, 3, 4, 5], [5]), ([6, 0, 1, 2, 3, 4, 5, 6], [])])
def galois_Div.B5 : List Nat := [0, 0, 0, 0, 12, 31, 63, 127]
theorem galois_Div.tab5 : rtab .any (opsOf Try.f40 5) = galois_Div.T5 := by kernel_rfl
theorem galois_Div.bits5 : waitsOk galois_Div.T5.2 galois_Div.B5 = true := by kernel_rfl
theorem galois_Div.calls (k : Nat) (a0_0 : Int) (a0_1 : Int) (a0_2 : Int) (a1 : Int) (a2 : Int) (r1 : Int) (r2 : Int) (w : World) (h : galois_Div.f k a0_0 a0_1 a0_2 a1 a2 = some (r1, r2)) :
  Calls Try.prog 40 #[.agg #[.int .i64 a0_0, .int .i64 a0_1, .int .i64 a0_2], .int .i64 a1, .int .i64 a2] w fun e w' => e = .returned (.tuple #[.int .i64 r1, .int .i64 r2]) ∧ Below w.heap.size w w' := by
 have hu23 := Try.underlying23
 have HB := Aside0.mk (Below.refl w.heap.size w)
 have H := h
 unfold galois_Div.f at H
 clear h
 obtain ⟨y173, hy173⟩ : ∃ y_ : List Int, y_ = (([a1, a2] : List Int)) := ⟨_, rfl⟩
 replace H : ((galois_member.f k a0_0 a0_1 a0_2 y173).bind fun t176 => (if t176 = true then (if a2 = 0 then (some (0, 12)) else ((galois_inverse.f k a0_0 a0_1 a0_2 a2).bind fun t177 => ((galois_times.f k a0_0 a0_1 a0_2 a1 t177).bind fun t178 => (some (t178, 0))))) else (some (0, 1)))) = some (r1, r2) := by first | (rw [hy173]; with_reducible exact H) | (have H2_ := (Option.bind_some _ _).symm.trans H; rw [hy173]; with_reducible exact H2_) | (have H2_ := (Option.bind_some _ _).symm.trans H; with_reducible exact H2_) | with_reducible exact H | (rw [hy173]; exact H) | exact H
 have Ny173 := Aside0.mk hy173
 clear hy173
 obtain ⟨t176, A4, H⟩ := zD H
 by_cases c5 : t176 = true
 ·subst c5
  rw [if_pos rfl] at H
  by_cases c6 : a2 = 0
  ·rw [if_pos c6] at H
   have c6b0 := beq_iff_eq.mpr c6
   have c6b1 := bne_eq_false_iff_eq.mpr c6
   clear c6
   simp only [Option.some.injEq, Prod.mk.injEq] at H
   obtain ⟨rfl, rfl⟩ := H
   go_enter Try.func40, Try.ntmps40
   go_wp2_with (first | ((with_reducible refine gate_dst (N := 3) rfl ?_); refine zBox 3 #[.int .i64 a0_0, .int .i64 a0_1, .int .i64 a0_2] 23 ?_; clear HB; intro gb172 w7 BK172 GE172 HB; (try clear z172_0 z172_1 z172_2 f172_0 f172_1 f172_2); obtain ⟨z172_0, z172_1, z172_2, f172_0, f172_1, f172_2⟩ := cz3 BK172) | ((with_reducible refine gate_dst (N := 12) rfl ?_); refine Kd.R_lit (Kd.int .i64) _ 3 ?hg (N := 12) ?hd (xs := ([a1, a2] : List Int)) (inner := [.int .i64 a1, .int .i64 a2]) (ok := fun _ => True) (okp := fun _ => True) ?hr ?hp (fun _ hk => hk) trivial (Below.refl _ _) (Nat.le_refl _) (by simp) ?_; (case hd => rfl); (case hg => rfl); (case hr => first | (go_simp; done) | (go_simp; rfl)); (case hp => exact (Reps.one (show Kd.M (Kd.int .i64) _ _ _ a1 [.int .i64 a1] from rfl) (Reps.one (show Kd.M (Kd.int .i64) _ _ _ a2 [.int .i64 a2] from rfl) (Reps.none _ _)))); intro v174 w9 ho10 hb hg_ hnew_; clear hg_ hnew_; (first | rw [← Ny173.out] at ho10 | (simp only [Int.reduceToNat] at ho10; rw [← Ny173.out] at ho10)); have HO175 := Aside0.mk (Kd.R_lower ho10 (below_size zB)); replace BK172 := bB BK172 hb; replace HB := bS hb; clear hb ho10; obtain ⟨Ao11, co11, eo11⟩ := Kd.R_slice HO175.out; subst eo11) | ((with_reducible refine gate_callee (f := 90) rfl ?_); refine gL (some 13) Try.func90 #[.agg #[.int .i64 a0_0, .int .i64 a0_1, .int .i64 a0_2], .slice Ao11 y173.length co11] ?_; (with_reducible refine zCall (galois_member.calls k a0_0 a0_1 a0_2 _ _ y173 true _ ?side1 ?side2 A4.out) ?_); (case side1 => exact zN HO175); (case side2 => exact (Kd.R_reads' HO175.out).2.1); intro w12 hb; replace HO175 := Aside0.mk (Kd.R_below (zO HO175) hb); replace BK172 := bB BK172 hb; replace HB := bS hb; (try clear hb)))
   go_ret2
   exact ⟨zE, zB⟩
  ·rw [if_neg c6] at H
   have c6b0 := beq_eq_false_iff_ne.mpr c6
   have c6b1 := bne_iff_ne.mpr c6
   obtain ⟨t177, A13, H⟩ := zD H
   obtain ⟨t178, A14, H⟩ := zD H
   simp only [Option.some.injEq, Prod.mk.injEq] at H
   obtain ⟨rfl, rfl⟩ := H
   go_enter Try.func40, Try.ntmps40
   try go_wp2_with (first | ((with_reducible refine gate_dst (N := 3) rfl ?_); refine zBox 3 #[.int .i64 a0_0, .int .i64 a0_1, .int .i64 a0_2] 23 ?_; clear HB; intro gb172 w15 BK172 GE172 HB; (try clear z172_0 z172_1 z172_2 f172_0 f172_1 f172_2); obtain ⟨z172_0, z172_1, z172_2, f172_0, f172_1, f172_2⟩ := cz3 BK172) | ((with_reducible refine gate_dst (N := 12) rfl ?_); refine Kd.R_lit (Kd.int .i64) _ 3 ?hg (N := 12) ?hd (xs := ([a1, a2] : List Int)) (inner := [.int .i64 a1, .int .i64 a2]) (ok := fun _ => True) (okp := fun _ => True) ?hr ?hp (fun _ hk => hk) trivial (Below.refl _ _) (Nat.le_refl _) (by simp) ?_; (case hd => rfl); (case hg => rfl); (case hr => first | (go_simp; done) | (go_simp; rfl)); (case hp => exact (Reps.one (show Kd.M (Kd.int .i64) _ _ _ a1 [.int .i64 a1] from rfl) (Reps.one (show Kd.M (Kd.int .i64) _ _ _ a2 [.int .i64 a2] from rfl) (Reps.none _ _)))); intro v174 w17 ho18 hb hg_ hnew_; clear hg_ hnew_; (first | rw [← Ny173.out] at ho18 | (simp only [Int.reduceToNat] at ho18; rw [← Ny173.out] at ho18)); have HO175 := Aside0.mk (Kd.R_lower ho18 (below_size zB)); replace BK172 := bB BK172 hb; replace HB := bS hb; clear hb ho18; obtain ⟨Ao19, co19, eo19⟩ := Kd.R_slice HO175.out; subst eo19) | ((with_reducible refine gate_callee (f := 90) rfl ?_); refine gL (some 13) Try.func90 #[.agg #[.int .i64 a0_0, .int .i64 a0_1, .int .i64 a0_2], .slice Ao19 y173.length co19] ?_; (with_reducible refine zCall (galois_member.calls k a0_0 a0_1 a0_2 _ _ y173 true _ ?side1 ?side2 A4.out) ?_); (case side1 => exact zN HO175); (case side2 => exact (Kd.R_reads' HO175.out).2.1); intro w20 hb; replace HO175 := Aside0.mk (Kd.R_below (zO HO175) hb); replace BK172 := bB BK172 hb; replace HB := bS hb; (try clear hb)))
   replace HO175 := Aside0.mk (Kd.R_drew HO175.out)
   replace BK172 := Aside0.mk (blk_drew BK172.out)
   replace HB := Aside0.mk (below_drew1 HB.out)
   refine start_ (n := 8) (S := fun w' => w'.cell? ⟨gb172, 0, none⟩ = some (.int .i64 a0_0) ∧ w'.cell? ⟨gb172, 1, none⟩ = some (.int .i64 a0_1) ∧ w'.cell? ⟨gb172, 2, none⟩ = some (.int .i64 a0_2)) (ds := []) #[false, false, false, false, false, false, false, false] (by kernel_rfl) rfl rfl zS (fun hHeld => ?_); refine with_tabW galois_Div.tab5 galois_Div.bits5 (fun HT_ HW_ => ?_)
   generalize w20.drew = w21 at HO175 BK172 HB hHeld ⊢
   refine pU 1 (some 19) ?_
   refine pU 3 (some 21) ?_
   refine tU 0 (some 18) hHeld ?_
   refine tU 2 (some 20) hHeld ?_
   refine oU 4 (some 22) (fun K hK => ?_)
   refine goes_ Try.func99 (by kernel_rfl) rfl #[.agg #[.int .i64 a0_0, .int .i64 a0_1, .int .i64 a0_2], .int .i64 a2] (by rfl) rfl rfl zM ?_
   with_reducible refine (galois_inverse.calls k a0_0 a0_1 a0_2 a2 t177 _ A13.out).mono ?_
   rintro e w22 ⟨rfl, hb⟩
   refine ⟨_, rfl, ?_⟩
   replace HO175 := Aside0.mk (Kd.R_below (zO HO175) hb)
   replace BK172 := bB BK172 hb
   replace HB := bS hb
   (try clear hb)
   (try clear hb2)
   (try clear hk)
   (try clear hi)
   refine hK.out _ _ zS (fun hHeld => ?_)
   clear hK K
   refine nU ?_
   refine oU 5 (some 23) (fun K hK => ?_)
   refine goes_ Try.func95 (by kernel_rfl) rfl #[.agg #[.int .i64 a0_0, .int .i64 a0_1, .int .i64 a0_2], .int .i64 a1, .int .i64 t177] (by rfl) rfl rfl zM ?_
   with_reducible refine (galois_times.calls k a0_0 a0_1 a0_2 a1 t177 t178 _ A14.out).mono ?_
   rintro e w23 ⟨rfl, hb⟩
   refine ⟨_, rfl, ?_⟩
   replace HO175 := Aside0.mk (Kd.R_below (zO HO175) hb)
   replace BK172 := bB BK172 hb
   replace HB := bS hb
   (try clear hb)
   (try clear hb2)
   (try clear hk)
   (try clear hi)
   refine hK.out _ _ zS (fun hHeld => ?_)
   clear hK K
   refine nU ?_
   refine pU 6 (some 6) ?_
   refine pU 7 (some 7) ?_
   refine dU ?_
   try go_wp2
   go_ret2
   exact ⟨zE, zB⟩
 ·replace c5 := Bool.eq_false_iff.mpr c5
  subst c5
  rw [if_neg (show ¬ (false = true) by decide)] at H
  simp only [Option.some.injEq, Prod.mk.injEq] at H
  obtain ⟨rfl, rfl⟩ := H
  go_enter Try.func40, Try.ntmps40
  go_wp2_with (first | ((with_reducible refine gate_dst (N := 3) rfl ?_); refine zBox 3 #[.int .i64 a0_0, .int .i64 a0_1, .int .i64 a0_2] 23 ?_; clear HB; intro gb172 w24 BK172 GE172 HB; (try clear z172_0 z172_1 z172_2 f172_0 f172_1 f172_2); obtain ⟨z172_0, z172_1, z172_2, f172_0, f172_1, f172_2⟩ := cz3 BK172) | ((with_reducible refine gate_dst (N := 12) rfl ?_); refine Kd.R_lit (Kd.int .i64) _ 3 ?hg (N := 12) ?hd (xs := ([a1, a2] : List Int)) (inner := [.int .i64 a1, .int .i64 a2]) (ok := fun _ => True) (okp := fun _ => True) ?hr ?hp (fun _ hk => hk) trivial (Below.refl _ _) (Nat.le_refl _) (by simp) ?_; (case hd => rfl); (case hg => rfl); (case hr => first | (go_simp; done) | (go_simp; rfl)); (case hp => exact (Reps.one (show Kd.M (Kd.int .i64) _ _ _ a1 [.int .i64 a1] from rfl) (Reps.one (show Kd.M (Kd.int .i64) _ _ _ a2 [.int .i64 a2] from rfl) (Reps.none _ _)))); intro v174 w26 ho27 hb hg_ hnew_; clear hg_ hnew_; (first | rw [← Ny173.out] at ho27 | (simp only [Int.reduceToNat] at ho27; rw [← Ny173.out] at ho27)); have HO175 := Aside0.mk (Kd.R_lower ho27 (below_size zB)); replace BK172 := bB BK172 hb; replace HB := bS hb; clear hb ho27; obtain ⟨Ao28, co28, eo28⟩ := Kd.R_slice HO175.out; subst eo28) | ((with_reducible refine gate_callee (f := 90) rfl ?_); refine gL (some 13) Try.func90 #[.agg #[.int .i64 a0_0, .int .i64 a0_1, .int .i64 a0_2], .slice Ao28 y173.length co28] ?_; (with_reducible refine zCall (galois_member.calls k a0_0 a0_1 a0_2 _ _ y173 false _ ?side1 ?side2 A4.out) ?_); (case side1 => exact zN HO175); (case side2 => exact (Kd.R_reads' HO175.out).2.1); intro w29 hb; replace HO175 := Aside0.mk (Kd.R_below (zO HO175) hb); replace BK172 := bB BK172 hb; replace HB := bS hb; (try clear hb)))
  go_ret2
  exact ⟨zE, zB⟩
/-! ### barscanref04_Is: function 44 -/
def barscanref04_Is.f (a0_0 : Int) (a0_1 : Int) (a0_2 : Int) (a1 : Int) : Option (Bool) := if a1 ≥ 0 then (some (decide (a1 < a0_1))) else (some false)
theorem barscanref04_Is.calls (a0_0 : Int) (a0_1 : Int) (a0_2 : Int) (a1 : Int) (r : Bool) (w : World) (h : barscanref04_Is.f a0_0 a0_1 a0_2 a1 = some r) :
  Calls Try.prog 44 #[.agg #[.int .i64 a0_0, .int .i64 a0_1, .int .i64 a0_2], .int .i64 a1] w fun e w' => e = .returned (.bool r) ∧ Below w.heap.size w w' := by
 have hu23 := Try.underlying23
 have HB := Aside0.mk (Below.refl w.heap.size w)
 have H := h
 unfold barscanref04_Is.f at H
 clear h
 by_cases c3 : a1 ≥ 0
 ·rw [if_pos c3] at H
  have c3b0 : decide (0 ≤ a1) = true := decide_eq_true c3
  clear c3
  obtain rfl := Option.some.inj H
  go_enter Try.func44, Try.ntmps44
  go_wp2_with (first | ((with_reducible refine gate_dst (N := 2) rfl ?_); refine zBox 2 #[.int .i64 a0_0, .int .i64 a0_1, .int .i64 a0_2] 23 ?_; clear HB; intro gb230 w4 BK230 GE230 HB; (try clear z230_0 z230_1 z230_2 f230_0 f230_1 f230_2); obtain ⟨z230_0, z230_1, z230_2, f230_0, f230_1, f230_2⟩ := cz3 BK230))
  go_ret
  exact ⟨zE, zB⟩
 ·rw [if_neg c3] at H
  have c3b0 : decide (0 ≤ a1) = false := decide_eq_false c3
  clear c3
  obtain rfl := Option.some.inj H
  go_enter Try.func44, Try.ntmps44
  go_wp2_with (first | ((with_reducible refine gate_dst (N := 2) rfl ?_); refine zBox 2 #[.int .i64 a0_0, .int .i64 a0_1, .int .i64 a0_2] 23 ?_; clear HB; intro gb230 w6 BK230 GE230 HB))
  go_ret
  exact ⟨zE, zB⟩
/-! ### barscanref04_Times: function 96 -/
def barscanref04_Times.l0 : Nat → Int → Int → Int → Int → Int → Int → Int → Option (Int)
 | 0, _, _, _, _, _, _, _ => none
 | k + 1, x1, x2, x7, x8, x232000, x232001, x232002 => if 0 ≤ (IntKind.u64.wrap (x8)) then (if (shr .i64 x2 (IntKind.u64.wrap (x8))) > 0 then (if (Go.bits .and .i64 (shr .i64 x2 (IntKind.u64.wrap (x8))) 1) = 1 then (barscanref04_Times.l0 k x1 x2 (Go.bits .xor .i64 x7 (shl .i64 x1 (IntKind.u64.wrap (x8)))) (wrap64 (x8 + 1)) x232000 x232001 x232002) else (barscanref04_Times.l0 k x1 x2 x7 (wrap64 (x8 + 1)) x232000 x232001 x232002)) else ((barscanref04_rest.f k x7 x232002).bind fun t232 => (some t232))) else (none)
def barscanref04_Times.f (k : Nat) (a0_0 : Int) (a0_1 : Int) (a0_2 : Int) (a1 : Int) (a2 : Int) : Option (Int) := if a0_0 = 2 then (barscanref04_Times.l0 k a1 a2 0 0 a0_0 a0_1 a0_2) else (if a0_1 = 0 then (none) else (some (Int.tmod (wrap64 (a1 * a2)) a0_1)))
theorem barscanref04_Times.mono_l : ∀ k, (∀ y0 y1 y2 y3 y4 y5 y6, LeO (barscanref04_Times.l0 k y0 y1 y2 y3 y4 y5 y6) (barscanref04_Times.l0 (k + 1) y0 y1 y2 y3 y4 y5 y6))
 | 0 => fun _ _ _ _ _ _ _ r h => by simp [barscanref04_Times.l0] at h
 | k + 1 => by
  have ih0 := barscanref04_Times.mono_l k
  ·intro y0 y1 y2 y3 y4 y5 y6
   unfold barscanref04_Times.l0
   have m0_ := @barscanref04_rest.mono
   exact zMo
theorem barscanref04_Times.mono : ∀ a0 a1 a2 a3 a4 k, LeO (barscanref04_Times.f k a0 a1 a2 a3 a4) (barscanref04_Times.f (k + 1) a0 a1 a2 a3 a4) := by
 intro a0 a1 a2 a3 a4 k
 have ih0 := barscanref04_Times.mono_l k
 unfold barscanref04_Times.f
 have m0_ := @barscanref04_rest.mono
 exact zMo
theorem barscanref04_Times.calls (k : Nat) (a0_0 : Int) (a0_1 : Int) (a0_2 : Int) (a1 : Int) (a2 : Int) (r : Int) (w : World) (h : barscanref04_Times.f k a0_0 a0_1 a0_2 a1 a2 = some r) :
  Calls Try.prog 96 #[.agg #[.int .i64 a0_0, .int .i64 a0_1, .int .i64 a0_2], .int .i64 a1, .int .i64 a2] w fun e w' => e = .returned (.int .i64 r) ∧ Below w.heap.size w w' := by
 have hu23 := Try.underlying23
 have HB := Aside0.mk (Below.refl w.heap.size w)
 have H := h
 unfold barscanref04_Times.f at H
 clear h
 by_cases c4 : a0_0 = 2
 ·rw [if_pos c4] at H
  have c4b0 := beq_iff_eq.mpr c4
  have c4b1 := bne_eq_false_iff_eq.mpr c4
  clear c4
  have H' := zA H
  clear H
  go_enter Try.func96, Try.ntmps96
  go_wp2_with (first | ((with_reducible refine gate_dst (N := 3) rfl ?_); refine zBox 3 #[.int .i64 a0_0, .int .i64 a0_1, .int .i64 a0_2] 23 ?_; clear HB; intro gb231 w5 BK231 GE231 HB; (try clear z231_0 z231_1 z231_2 f231_0 f231_1 f231_2); obtain ⟨z231_0, z231_1, z231_2, f231_0, f231_1, f231_2⟩ := cz3 BK231))
  go_loopg [7, 8] k (fun kq v7 v8 w' => ∃ (x7_1 : Int) (x8_1 : Int), v7 = .int .i64 x7_1 ∧ v8 = .int .i64 x8_1 ∧ Aside0 (barscanref04_Times.l0 kq a1 a2 x7_1 x8_1 a0_0 a0_1 a0_2 = some r) ∧ Aside0 (kq ≤ k) ∧ Aside0 (w'.heap[gb231]? = some (.cells #[.int .i64 a0_0, .int .i64 a0_1, .int .i64 a0_2] 23 (0, 0))) ∧ Aside0 (Below w.heap.size w w'))
  case atStart => exact ⟨(0), (0), zR, zR, H', ⟨Nat.le_refl _⟩, ⟨zK BK231⟩, ⟨zB⟩⟩
  case round =>
   clear H'
   try clear p2
   try clear c4
   try clear c4b0
   try clear c4b1
   try clear p6
   try clear z231_0 z231_1 z231_2 f231_0 f231_1 f231_2
   obtain ⟨x7_1, x8_1, rfl, rfl, HA, HK1, BK231, HB⟩ := hrel
   cases gk with
   | zero => exact absurd HA.out (by simp [barscanref04_Times.l0])
   | succ k1 =>
    have H := HA.out
    clear HA
    simp only [barscanref04_Times.l0] at H
    obtain ⟨ji7, hji7⟩ : ∃ j_ : Int, (IntKind.u64.wrap (x8_1)) = j_ := ⟨_, rfl⟩
    first | rw [hji7] at H | simp only [hji7] at H
    by_cases c8 : 0 ≤ (ji7)
    ·rw [if_pos c8] at H
     have c8b0 := eq_true c8
     have c8b1 : decide (0 ≤ (ji7)) = true := decide_eq_true c8
     clear c8
     obtain ⟨ji9, hji9⟩ : ∃ j_ : Int, (shr .i64 a2 (ji7)) = j_ := ⟨_, rfl⟩
     first | rw [hji9] at H | simp only [hji9] at H
     have hji9_ : (a2 / 2 ^ min (ji7).toNat 64) = ji9 := hji9
     have hji9z : (ji7) ≤ 64 → (a2 / 2 ^ (ji7).toNat) = ji9 := shr_small hji9
     by_cases c10 : (ji9) > 0
     ·rw [if_pos c10] at H
      have c10b0 : decide (0 < (ji9)) = true := decide_eq_true c10
      clear c10
      have c11b0 := eq_true (of_decide_eq_true (by first | (with_reducible assumption) | assumption) : 0 ≤ (ji7))
      by_cases c12 : (Go.bits .and .i64 (ji9) 1) = 1
      ·rw [if_pos c12] at H
       have c12b0 := beq_iff_eq.mpr c12
       have c12b1 := bne_eq_false_iff_eq.mpr c12
       clear c12
       have c13b0 := eq_true (of_decide_eq_true (by first | (with_reducible assumption) | assumption) : 0 ≤ (ji7))
       obtain ⟨ji14, hji14⟩ : ∃ j_ : Int, (shl .i64 a1 (ji7)) = j_ := ⟨_, rfl⟩
       first | rw [hji14] at H | simp only [hji14] at H
       have hji14_ : (IntKind.i64.wrap (a1 * 2 ^ min (ji7).toNat 64)) = ji14 := hji14
       have hji14z : (ji7) ≤ 64 → (IntKind.i64.wrap (a1 * 2 ^ (ji7).toNat)) = ji14 := shl_small hji14
       have hji14y : (wrap64 (a1 * 2 ^ min (ji7).toNat 64)) = ji14 := (i64_w _).symm.trans hji14_
       have hji14x : (ji7) ≤ 64 → (wrap64 (a1 * 2 ^ (ji7).toNat)) = ji14 := fun h_ => (i64_w _).symm.trans (hji14z h_)
       have H' := zA H
       clear H
       go_wp2
       go_roundg k1
       case measure => have := HK1.out; omega
       case rel => exact ⟨(Go.bits .xor .i64 x7_1 (ji14)), (wrap64 (x8_1 + 1)), (by first | rfl | (simp; done) | (simp only [← hji14] <;> (first | rfl | simp)) | (simp [*]; done)), zR, H', zH, ⟨zK BK231⟩, ⟨zB⟩⟩
      ·rw [if_neg c12] at H
       have c12b0 := beq_eq_false_iff_ne.mpr c12
       have c12b1 := bne_iff_ne.mpr c12
       have H' := zA H
       clear H
       go_wp2
       go_roundg k1
       case measure => have := HK1.out; omega
       case rel => exact ⟨(x7_1), (wrap64 (x8_1 + 1)), zR, zR, H', zH, ⟨zK BK231⟩, ⟨zB⟩⟩
     ·rw [if_neg c10] at H
      have c10b0 : decide (0 < (ji9)) = false := decide_eq_false c10
      clear c10
      obtain ⟨t232, A15, H⟩ := zD H
      obtain rfl := Option.some.inj H
      (try clear z231_0 z231_1 z231_2 f231_0 f231_1 f231_2)
      obtain ⟨z231_0, z231_1, z231_2, f231_0, f231_1, f231_2⟩ := cz3 BK231
      go_wp2_with (first | ((with_reducible refine gate_callee (f := 128) rfl ?_); refine gL (some 40) Try.func128 #[.int .i64 x7_1, .int .i64 a0_2] ?_; (with_reducible refine (barscanref04_rest.calls k1 x7_1 a0_2 t232 _ A15.out).mono ?_); rintro e w' ⟨rfl, ⟨nd, rfl⟩⟩; refine ⟨_, rfl, ?_⟩))
      go_ret
      exact ⟨by first | rfl | (simp [errW_none, errW_some] <;> rfl) | (simp only [← hji7, ← hji9]; first | rfl | (simp [errW_none, errW_some] <;> rfl)) | (simp [*, errW_none, errW_some] <;> rfl), zB⟩
    ·rw [if_neg c8] at H
     exact absurd H (by simp)
 ·rw [if_neg c4] at H
  have c4b0 := beq_eq_false_iff_ne.mpr c4
  have c4b1 := bne_iff_ne.mpr c4
  by_cases c17 : a0_1 = 0
  ·rw [if_pos c17] at H
   exact absurd H (by simp)
  ·rw [if_neg c17] at H
   have c17b0 := beq_eq_false_iff_ne.mpr c17
   have c17b1 := bne_iff_ne.mpr c17
   obtain rfl := Option.some.inj H
   go_enter Try.func96, Try.ntmps96
   go_wp2_with (first | ((with_reducible refine gate_dst (N := 3) rfl ?_); refine zBox 3 #[.int .i64 a0_0, .int .i64 a0_1, .int .i64 a0_2] 23 ?_; clear HB; intro gb231 w18 BK231 GE231 HB; (try clear z231_0 z231_1 z231_2 f231_0 f231_1 f231_2); obtain ⟨z231_0, z231_1, z231_2, f231_0, f231_1, f231_2⟩ := cz3 BK231))
   go_ret
   exact ⟨zE, zB⟩
/-! ### barscanref04_order: function 92 -/
def barscanref04_order.l0 : Nat → Int → Int → Int → Int → Int → Int → Option (Int)
 | 0, _, _, _, _, _, _ => none
 | k + 1, x1, x5, x6, x234000, x234001, x234002 => if x6 = 1 then (some x5) else (if x5 < x234001 then ((barscanref04_Times.f k x234000 x234001 x234002 x6 x1).bind fun t234 => (barscanref04_order.l0 k x1 (wrap64 (x5 + 1)) t234 x234000 x234001 x234002)) else (some x5))
def barscanref04_order.f (k : Nat) (a0_0 : Int) (a0_1 : Int) (a0_2 : Int) (a1 : Int) : Option (Int) := barscanref04_order.l0 k a1 1 a1 a0_0 a0_1 a0_2
theorem barscanref04_order.mono_l : ∀ k, (∀ y0 y1 y2 y3 y4 y5, LeO (barscanref04_order.l0 k y0 y1 y2 y3 y4 y5) (barscanref04_order.l0 (k + 1) y0 y1 y2 y3 y4 y5))
 | 0 => fun _ _ _ _ _ _ r h => by simp [barscanref04_order.l0] at h
 | k + 1 => by
  have ih0 := barscanref04_order.mono_l k
  ·intro y0 y1 y2 y3 y4 y5
   unfold barscanref04_order.l0
   have m0_ := @barscanref04_Times.mono
   exact zMo
theorem barscanref04_order.mono : ∀ a0 a1 a2 a3 k, LeO (barscanref04_order.f k a0 a1 a2 a3) (barscanref04_order.f (k + 1) a0 a1 a2 a3) := by
 intro a0 a1 a2 a3 k
 have ih0 := barscanref04_order.mono_l k
 unfold barscanref04_order.f
 have m0_ := @barscanref04_Times.mono
 exact zMo
theorem barscanref04_order.calls (k : Nat) (a0_0 : Int) (a0_1 : Int) (a0_2 : Int) (a1 : Int) (r : Int) (w : World) (h : barscanref04_order.f k a0_0 a0_1 a0_2 a1 = some r) :
  Calls Try.prog 92 #[.agg #[.int .i64 a0_0, .int .i64 a0_1, .int .i64 a0_2], .int .i64 a1] w fun e w' => e = .returned (.int .i64 r) ∧ Below w.heap.size w w' := by
 have hu23 := Try.underlying23
 have HB := Aside0.mk (Below.refl w.heap.size w)
 have H := h
 unfold barscanref04_order.f at H
 clear h
 have H' := zA H
 clear H
 go_enter Try.func92, Try.ntmps92
 go_wp2_with (first | ((with_reducible refine gate_dst (N := 2) rfl ?_); refine zBox 2 #[.int .i64 a0_0, .int .i64 a0_1, .int .i64 a0_2] 23 ?_; clear HB; intro gb233 w3 BK233 GE233 HB))
 go_loopg [5, 6] k (fun kq v5 v6 w' => ∃ (x5_1 : Int) (x6_1 : Int), v5 = .int .i64 x5_1 ∧ v6 = .int .i64 x6_1 ∧ Aside0 (barscanref04_order.l0 kq a1 x5_1 x6_1 a0_0 a0_1 a0_2 = some r) ∧ Aside0 (kq ≤ k) ∧ Aside0 (w'.heap[gb233]? = some (.cells #[.int .i64 a0_0, .int .i64 a0_1, .int .i64 a0_2] 23 (0, 0))) ∧ Aside0 (Below w.heap.size w w'))
 case atStart => exact ⟨(1), (a1), zR, zR, H', ⟨Nat.le_refl _⟩, ⟨zK BK233⟩, ⟨zB⟩⟩
 case round =>
  clear H'
  try clear p2
  obtain ⟨x5_1, x6_1, rfl, rfl, HA, HK1, BK233, HB⟩ := hrel
  cases gk with
  | zero => exact absurd HA.out (by simp [barscanref04_order.l0])
  | succ k1 =>
   have H := HA.out
   clear HA
   simp only [barscanref04_order.l0] at H
   by_cases c4 : x6_1 = 1
   ·rw [if_pos c4] at H
    have c4b0 := beq_iff_eq.mpr c4
    have c4b1 := bne_eq_false_iff_eq.mpr c4
    clear c4
    obtain rfl := Option.some.inj H
    go_wp2
    go_ret
    exact ⟨zE, zB⟩
   ·rw [if_neg c4] at H
    have c4b0 := beq_eq_false_iff_ne.mpr c4
    have c4b1 := bne_iff_ne.mpr c4
    by_cases c5 : x5_1 < a0_1
    ·rw [if_pos c5] at H
     have c5b0 : decide (x5_1 < a0_1) = true := decide_eq_true c5
     clear c5
     obtain ⟨t234, A6, H⟩ := zD H
     have H' := zA H
     clear H
     (try clear z233_0 z233_1 z233_2 f233_0 f233_1 f233_2)
     obtain ⟨z233_0, z233_1, z233_2, f233_0, f233_1, f233_2⟩ := cz3 BK233
     go_wp2_with (first | ((with_reducible refine gate_callee (f := 96) rfl ?_); refine gL (some 19) Try.func96 #[.agg #[.int .i64 a0_0, .int .i64 a0_1, .int .i64 a0_2], .int .i64 x6_1, .int .i64 a1] ?_; (with_reducible refine zCall (barscanref04_Times.calls k1 a0_0 a0_1 a0_2 x6_1 a1 t234 _ A6.out) ?_); intro w8 hb; replace BK233 := bB BK233 hb; replace HB := bS hb; (try clear hb)))
     go_roundg k1
     case measure => have := HK1.out; omega
     case rel => exact ⟨(wrap64 (x5_1 + 1)), (t234), zR, zR, H', zH, ⟨zK BK233⟩, ⟨zB⟩⟩
    ·rw [if_neg c5] at H
     have c5b0 : decide (x5_1 < a0_1) = false := decide_eq_false c5
     clear c5
     obtain rfl := Option.some.inj H
     (try clear z233_0 z233_1 z233_2 f233_0 f233_1 f233_2)
     obtain ⟨z233_0, z233_1, z233_2, f233_0, f233_1, f233_2⟩ := cz3 BK233
     go_wp2
     go_ret
     exact ⟨zE, zB⟩
/-! ### barscanref04_Primitive: function 94 -/
def barscanref04_Primitive.l0 : Nat → Int → Int → Int → Int → Option (Int)
 | 0, _, _, _, _ => none
 | k + 1, x3, x240000, x240001, x240002 => if x3 < x240001 then ((barscanref04_order.f k x240000 x240001 x240002 x3).bind fun t240 => (if t240 = (wrap64 (x240001 - 1)) then (some x3) else (barscanref04_Primitive.l0 k (wrap64 (x3 + 1)) x240000 x240001 x240002))) else (some 0)
def barscanref04_Primitive.f (k : Nat) (a0_0 : Int) (a0_1 : Int) (a0_2 : Int) : Option (Int) := barscanref04_Primitive.l0 k 1 a0_0 a0_1 a0_2
theorem barscanref04_Primitive.mono_l : ∀ k, (∀ y0 y1 y2 y3, LeO (barscanref04_Primitive.l0 k y0 y1 y2 y3) (barscanref04_Primitive.l0 (k + 1) y0 y1 y2 y3))
 | 0 => fun _ _ _ _ r h => by simp [barscanref04_Primitive.l0] at h
 | k + 1 => by
  have ih0 := barscanref04_Primitive.mono_l k
  ·intro y0 y1 y2 y3
   unfold barscanref04_Primitive.l0
   have m0_ := @barscanref04_order.mono
   exact zMo
theorem barscanref04_Primitive.mono : ∀ a0 a1 a2 k, LeO (barscanref04_Primitive.f k a0 a1 a2) (barscanref04_Primitive.f (k + 1) a0 a1 a2) := by
 intro a0 a1 a2 k
 have ih0 := barscanref04_Primitive.mono_l k
 unfold barscanref04_Primitive.f
 have m0_ := @barscanref04_order.mono
 exact zMo
theorem barscanref04_Primitive.calls (k : Nat) (a0_0 : Int) (a0_1 : Int) (a0_2 : Int) (r : Int) (w : World) (h : barscanref04_Primitive.f k a0_0 a0_1 a0_2 = some r) :
  Calls Try.prog 94 #[.agg #[.int .i64 a0_0, .int .i64 a0_1, .int .i64 a0_2]] w fun e w' => e = .returned (.int .i64 r) ∧ Below w.heap.size w w' := by
 have hu23 := Try.underlying23
 have HB := Aside0.mk (Below.refl w.heap.size w)
 have H := h
 unfold barscanref04_Primitive.f at H
 clear h
 have H' := zA H
 clear H
 go_enter Try.func94, Try.ntmps94
 go_wp2_with (first | ((with_reducible refine gate_dst (N := 1) rfl ?_); refine zBox 1 #[.int .i64 a0_0, .int .i64 a0_1, .int .i64 a0_2] 23 ?_; clear HB; intro gb239 w2 BK239 GE239 HB))
 go_loopg [3] k (fun kq v3 w' => ∃ (x3_1 : Int), v3 = .int .i64 x3_1 ∧ Aside0 (barscanref04_Primitive.l0 kq x3_1 a0_0 a0_1 a0_2 = some r) ∧ Aside0 (kq ≤ k) ∧ Aside0 (w'.heap[gb239]? = some (.cells #[.int .i64 a0_0, .int .i64 a0_1, .int .i64 a0_2] 23 (0, 0))) ∧ Aside0 (Below w.heap.size w w'))
 case atStart => exact ⟨(1), zR, H', ⟨Nat.le_refl _⟩, ⟨zK BK239⟩, ⟨zB⟩⟩
 case round =>
  clear H'
  try clear p2
  obtain ⟨x3_1, rfl, HA, HK1, BK239, HB⟩ := hrel
  cases gk with
  | zero => exact absurd HA.out (by simp [barscanref04_Primitive.l0])
  | succ k1 =>
   have H := HA.out
   clear HA
   simp only [barscanref04_Primitive.l0] at H
   by_cases c3 : x3_1 < a0_1
   ·rw [if_pos c3] at H
    have c3b0 : decide (x3_1 < a0_1) = true := decide_eq_true c3
    clear c3
    obtain ⟨t240, A4, H⟩ := zD H
    by_cases c5 : t240 = (wrap64 (a0_1 - 1))
    ·rw [if_pos c5] at H
     have c5b0 := beq_iff_eq.mpr c5
     have c5b1 := bne_eq_false_iff_eq.mpr c5
     clear c5
     obtain rfl := Option.some.inj H
     (try clear z239_0 z239_1 z239_2 f239_0 f239_1 f239_2)
     obtain ⟨z239_0, z239_1, z239_2, f239_0, f239_1, f239_2⟩ := cz3 BK239
     try go_wp2
     replace BK239 := Aside0.mk (blk_drew BK239.out)
     replace HB := Aside0.mk (below_drew1 HB.out)
     refine start_ (n := 7) (S := fun w' => w'.cell? ⟨gb239, 0, none⟩ = some (.int .i64 a0_0) ∧ w'.cell? ⟨gb239, 1, none⟩ = some (.int .i64 a0_1) ∧ w'.cell? ⟨gb239, 2, none⟩ = some (.int .i64 a0_2)) (ds := []) #[false, false, false, false, false, false, false] (by kernel_rfl) rfl rfl zS (fun hHeld => ?_)
     generalize wr.drew = w7 at BK239 HB hHeld ⊢
     refine pU 1 (some 11) ?_
     refine pU 3 (some 13) ?_
     refine tU 0 (some 10) hHeld ?_
     refine tU 4 (some 14) hHeld ?_
     refine pU 5 (some 15) ?_
     refine oU 2 (some 12) (fun K hK => ?_)
     refine goes_ Try.func92 (by kernel_rfl) rfl #[.agg #[.int .i64 a0_0, .int .i64 a0_1, .int .i64 a0_2], .int .i64 x3_1] (by rfl) rfl rfl zM ?_
     with_reducible refine (barscanref04_order.calls k1 a0_0 a0_1 a0_2 x3_1 t240 _ A4.out).mono ?_
     rintro e w8 ⟨rfl, hb⟩
     refine ⟨_, rfl, ?_⟩
     replace BK239 := bB BK239 hb
     replace HB := bS hb
     (try clear hb)
     (try clear hb2)
     (try clear hk)
     (try clear hi)
     refine hK.out _ _ zS (fun hHeld => ?_)
     clear hK K
     refine nU ?_
     refine pU 6 (some 16) ?_
     refine dU ?_
     try go_wp2
     go_ret
     exact ⟨zE, zB⟩
    ·rw [if_neg c5] at H
     have c5b0 := beq_eq_false_iff_ne.mpr c5
     have c5b1 := bne_iff_ne.mpr c5
     have H' := zA H
     clear H
     (try clear z239_0 z239_1 z239_2 f239_0 f239_1 f239_2)
     obtain ⟨z239_0, z239_1, z239_2, f239_0, f239_1, f239_2⟩ := cz3 BK239
     try go_wp2
     replace BK239 := Aside0.mk (blk_drew BK239.out)
     replace HB := Aside0.mk (below_drew1 HB.out)
     refine start_ (n := 7) (S := fun w' => w'.cell? ⟨gb239, 0, none⟩ = some (.int .i64 a0_0) ∧ w'.cell? ⟨gb239, 1, none⟩ = some (.int .i64 a0_1) ∧ w'.cell? ⟨gb239, 2, none⟩ = some (.int .i64 a0_2)) (ds := []) #[false, false, false, false, false, false, false] (by kernel_rfl) rfl rfl zS (fun hHeld => ?_)
     generalize wr.drew = w10 at BK239 HB hHeld ⊢
     refine pU 1 (some 11) ?_
     refine pU 3 (some 13) ?_
     refine tU 0 (some 10) hHeld ?_
     refine tU 4 (some 14) hHeld ?_
     refine pU 5 (some 15) ?_
     refine oU 2 (some 12) (fun K hK => ?_)
     refine goes_ Try.func92 (by kernel_rfl) rfl #[.agg #[.int .i64 a0_0, .int .i64 a0_1, .int .i64 a0_2], .int .i64 x3_1] (by rfl) rfl rfl zM ?_
     with_reducible refine (barscanref04_order.calls k1 a0_0 a0_1 a0_2 x3_1 t240 _ A4.out).mono ?_
     rintro e w11 ⟨rfl, hb⟩
     refine ⟨_, rfl, ?_⟩
     replace BK239 := bB BK239 hb
     replace HB := bS hb
     (try clear hb)
     (try clear hb2)
     (try clear hk)
     (try clear hi)
     refine hK.out _ _ zS (fun hHeld => ?_)
     clear hK K
     refine nU ?_
     refine pU 6 (some 16) ?_
     refine dU ?_
     try go_wp2
     go_roundg k1
     case measure => have := HK1.out; omega
     case rel => exact ⟨(wrap64 (x3_1 + 1)), zR, H', zH, ⟨zK BK239⟩, ⟨zB⟩⟩
   ·rw [if_neg c3] at H
    have c3b0 : decide (x3_1 < a0_1) = false := decide_eq_false c3
    clear c3
    obtain rfl := Option.some.inj H
    (try clear z239_0 z239_1 z239_2 f239_0 f239_1 f239_2)
    obtain ⟨z239_0, z239_1, z239_2, f239_0, f239_1, f239_2⟩ := cz3 BK239
    go_wp2
    go_ret
    exact ⟨zE, zB⟩
/-! ### barscanref04_Plus: function 97 -/
def barscanref04_Plus.f (a0_0 : Int) (a0_1 : Int) (a0_2 : Int) (a1 : Int) (a2 : Int) : Option (Int) := if a0_0 = 2 then (some (Go.bits .xor .i64 a1 a2)) else (if a0_1 = 0 then (none) else (some (Int.tmod (wrap64 (a1 + a2)) a0_1)))
theorem barscanref04_Plus.calls (a0_0 : Int) (a0_1 : Int) (a0_2 : Int) (a1 : Int) (a2 : Int) (r : Int) (w : World) (h : barscanref04_Plus.f a0_0 a0_1 a0_2 a1 a2 = some r) :
  Calls Try.prog 97 #[.agg #[.int .i64 a0_0, .int .i64 a0_1, .int .i64 a0_2], .int .i64 a1, .int .i64 a2] w fun e w' => e = .returned (.int .i64 r) ∧ Below w.heap.size w w' := by
 have hu23 := Try.underlying23
 have HB := Aside0.mk (Below.refl w.heap.size w)
 have H := h
 unfold barscanref04_Plus.f at H
 clear h
 by_cases c4 : a0_0 = 2
 ·rw [if_pos c4] at H
  have c4b0 := beq_iff_eq.mpr c4
  have c4b1 := bne_eq_false_iff_eq.mpr c4
  clear c4
  obtain rfl := Option.some.inj H
  go_enter Try.func97, Try.ntmps97
  go_wp2_with (first | ((with_reducible refine gate_dst (N := 3) rfl ?_); refine zBox 3 #[.int .i64 a0_0, .int .i64 a0_1, .int .i64 a0_2] 23 ?_; clear HB; intro gb263 w5 BK263 GE263 HB; (try clear z263_0 z263_1 z263_2 f263_0 f263_1 f263_2); obtain ⟨z263_0, z263_1, z263_2, f263_0, f263_1, f263_2⟩ := cz3 BK263))
  go_ret
  exact ⟨zE, zB⟩
 ·rw [if_neg c4] at H
  have c4b0 := beq_eq_false_iff_ne.mpr c4
  have c4b1 := bne_iff_ne.mpr c4
  by_cases c7 : a0_1 = 0
  ·rw [if_pos c7] at H
   exact absurd H (by simp)
  ·rw [if_neg c7] at H
   have c7b0 := beq_eq_false_iff_ne.mpr c7
   have c7b1 := bne_iff_ne.mpr c7
   obtain rfl := Option.some.inj H
   go_enter Try.func97, Try.ntmps97
   go_wp2_with (first | ((with_reducible refine gate_dst (N := 3) rfl ?_); refine zBox 3 #[.int .i64 a0_0, .int .i64 a0_1, .int .i64 a0_2] 23 ?_; clear HB; intro gb263 w8 BK263 GE263 HB; (try clear z263_0 z263_1 z263_2 f263_0 f263_1 f263_2); obtain ⟨z263_0, z263_1, z263_2, f263_0, f263_1, f263_2⟩ := cz3 BK263))
   go_ret
   exact ⟨zE, zB⟩
/-! ### barscanref04_Power: function 129 -/
def barscanref04_Power.l0 : Nat → Int → Int → Int → Int → Int → Int → Option (Int)
 | 0, _, _, _, _, _, _ => none
 | k + 1, x1, x2, x7, x286000, x286001, x286002 => if x2 > 0 then (if (Int.tmod x2 2) = 1 then ((barscanref04_Times.f k x286000 x286001 x286002 x7 x1).bind fun t286 => ((barscanref04_Times.f k x286000 x286001 x286002 x1 x1).bind fun t287 => (barscanref04_Power.l0 k t287 (wrap64 (Int.tdiv x2 2)) t286 x286000 x286001 x286002))) else ((barscanref04_Times.f k x286000 x286001 x286002 x1 x1).bind fun t288 => (barscanref04_Power.l0 k t288 (wrap64 (Int.tdiv x2 2)) x7 x286000 x286001 x286002))) else (some x7)
def barscanref04_Power.f (k : Nat) (a0_0 : Int) (a0_1 : Int) (a0_2 : Int) (a1 : Int) (a2 : Int) : Option (Int) := barscanref04_Power.l0 k a1 a2 1 a0_0 a0_1 a0_2
theorem barscanref04_Power.mono_l : ∀ k, (∀ y0 y1 y2 y3 y4 y5, LeO (barscanref04_Power.l0 k y0 y1 y2 y3 y4 y5) (barscanref04_Power.l0 (k + 1) y0 y1 y2 y3 y4 y5))
 | 0 => fun _ _ _ _ _ _ r h => by simp [barscanref04_Power.l0] at h
 | k + 1 => by
  have ih0 := barscanref04_Power.mono_l k
  ·intro y0 y1 y2 y3 y4 y5
   unfold barscanref04_Power.l0
   have m0_ := @barscanref04_Times.mono
   exact zMo
theorem barscanref04_Power.mono : ∀ a0 a1 a2 a3 a4 k, LeO (barscanref04_Power.f k a0 a1 a2 a3 a4) (barscanref04_Power.f (k + 1) a0 a1 a2 a3 a4) := by
 intro a0 a1 a2 a3 a4 k
 have ih0 := barscanref04_Power.mono_l k
 unfold barscanref04_Power.f
 have m0_ := @barscanref04_Times.mono
 exact zMo
theorem barscanref04_Power.calls (k : Nat) (a0_0 : Int) (a0_1 : Int) (a0_2 : Int) (a1 : Int) (a2 : Int) (r : Int) (w : World) (h : barscanref04_Power.f k a0_0 a0_1 a0_2 a1 a2 = some r) :
  Calls Try.prog 129 #[.agg #[.int .i64 a0_0, .int .i64 a0_1, .int .i64 a0_2], .int .i64 a1, .int .i64 a2] w fun e w' => e = .returned (.int .i64 r) ∧ Below w.heap.size w w' := by
 have hu23 := Try.underlying23
 have HB := Aside0.mk (Below.refl w.heap.size w)
 have H := h
 unfold barscanref04_Power.f at H
 clear h
 have H' := zA H
 clear H
 go_enter Try.func129, Try.ntmps129
 go_wp2_with (first | ((with_reducible refine gate_dst (N := 3) rfl ?_); refine zBox 3 #[.int .i64 a0_0, .int .i64 a0_1, .int .i64 a0_2] 23 ?_; clear HB; intro gb285 w4 BK285 GE285 HB))
 go_loopg [1, 2, 7] k (fun kq v1 v2 v7 w' => ∃ (x1_1 : Int) (x2_1 : Int) (x7_1 : Int), v1 = .int .i64 x1_1 ∧ v2 = .int .i64 x2_1 ∧ v7 = .int .i64 x7_1 ∧ Aside0 (barscanref04_Power.l0 kq x1_1 x2_1 x7_1 a0_0 a0_1 a0_2 = some r) ∧ Aside0 (kq ≤ k) ∧ Aside0 (w'.heap[gb285]? = some (.cells #[.int .i64 a0_0, .int .i64 a0_1, .int .i64 a0_2] 23 (0, 0))) ∧ Aside0 (Below w.heap.size w w'))
 case atStart => exact ⟨(a1), (a2), (1), zR, zR, zR, H', ⟨Nat.le_refl _⟩, ⟨zK BK285⟩, ⟨zB⟩⟩
 case round =>
  clear H'
  try clear c1
  try clear p2
  obtain ⟨x1_1, x2_1, x7_1, rfl, rfl, rfl, HA, HK1, BK285, HB⟩ := hrel
  cases gk with
  | zero => exact absurd HA.out (by simp [barscanref04_Power.l0])
  | succ k1 =>
   have H := HA.out
   clear HA
   simp only [barscanref04_Power.l0] at H
   by_cases c5 : x2_1 > 0
   ·rw [if_pos c5] at H
    have c5b0 : decide (0 < x2_1) = true := decide_eq_true c5
    clear c5
    by_cases c6 : (Int.tmod x2_1 2) = 1
    ·rw [if_pos c6] at H
     have c6b0 := beq_iff_eq.mpr c6
     have c6b1 := bne_eq_false_iff_eq.mpr c6
     clear c6
     obtain ⟨t286, A7, H⟩ := zD H
     obtain ⟨t287, A8, H⟩ := zD H
     have H' := zA H
     clear H
     (try clear z285_0 z285_1 z285_2 f285_0 f285_1 f285_2)
     obtain ⟨z285_0, z285_1, z285_2, f285_0, f285_1, f285_2⟩ := cz3 BK285
     go_wp2_with (first | ((with_reducible refine gate_callee (f := 96) rfl ?_); refine gL (some 16) Try.func96 #[.agg #[.int .i64 a0_0, .int .i64 a0_1, .int .i64 a0_2], .int .i64 x7_1, .int .i64 x1_1] ?_; (with_reducible refine zCall (barscanref04_Times.calls k1 a0_0 a0_1 a0_2 x7_1 x1_1 t286 _ A7.out) ?_); intro w10 hb; replace BK285 := bB BK285 hb; replace HB := bS hb; (try clear hb); (try clear z285_0 z285_1 z285_2 f285_0 f285_1 f285_2); obtain ⟨z285_0, z285_1, z285_2, f285_0, f285_1, f285_2⟩ := cz3 BK285) | ((with_reducible refine gate_callee (f := 96) rfl ?_); refine gL (some 20) Try.func96 #[.agg #[.int .i64 a0_0, .int .i64 a0_1, .int .i64 a0_2], .int .i64 x1_1, .int .i64 x1_1] ?_; (with_reducible refine zCall (barscanref04_Times.calls k1 a0_0 a0_1 a0_2 x1_1 x1_1 t287 _ A8.out) ?_); intro w12 hb; replace BK285 := bB BK285 hb; replace HB := bS hb; (try clear hb)))
     go_roundg k1
     case measure => have := HK1.out; omega
     case rel => exact ⟨(t287), (wrap64 (Int.tdiv x2_1 2)), (t286), zR, zR, zR, H', zH, ⟨zK BK285⟩, ⟨zB⟩⟩
    ·rw [if_neg c6] at H
     have c6b0 := beq_eq_false_iff_ne.mpr c6
     have c6b1 := bne_iff_ne.mpr c6
     obtain ⟨t288, A13, H⟩ := zD H
     have H' := zA H
     clear H
     (try clear z285_0 z285_1 z285_2 f285_0 f285_1 f285_2)
     obtain ⟨z285_0, z285_1, z285_2, f285_0, f285_1, f285_2⟩ := cz3 BK285
     go_wp2_with (first | ((with_reducible refine gate_callee (f := 96) rfl ?_); refine gL (some 20) Try.func96 #[.agg #[.int .i64 a0_0, .int .i64 a0_1, .int .i64 a0_2], .int .i64 x1_1, .int .i64 x1_1] ?_; (with_reducible refine zCall (barscanref04_Times.calls k1 a0_0 a0_1 a0_2 x1_1 x1_1 t288 _ A13.out) ?_); intro w15 hb; replace BK285 := bB BK285 hb; replace HB := bS hb; (try clear hb)))
     go_roundg k1
     case measure => have := HK1.out; omega
     case rel => exact ⟨(t288), (wrap64 (Int.tdiv x2_1 2)), (x7_1), zR, zR, zR, H', zH, ⟨zK BK285⟩, ⟨zB⟩⟩
   ·rw [if_neg c5] at H
    have c5b0 : decide (0 < x2_1) = false := decide_eq_false c5
    clear c5
    obtain rfl := Option.some.inj H
    go_wp2
    go_ret
    exact ⟨zE, zB⟩
/-! ### galois_Inv: function 42 -/
def galois_Inv.f (k : Nat) (a0_0 : Int) (a0_1 : Int) (a0_2 : Int) (a1 : Int) : Option (Int × Int) := (galois_Div.f k a0_0 a0_1 a0_2 1 a1).bind fun bt298 => (some (bt298.1, bt298.2))
theorem galois_Inv.mono : ∀ a0 a1 a2 a3 k, LeO (galois_Inv.f k a0 a1 a2 a3) (galois_Inv.f (k + 1) a0 a1 a2 a3) := by
 intro a0 a1 a2 a3 k
 unfold galois_Inv.f
 have m0_ := @galois_Div.mono
 exact zMo
theorem galois_Inv.calls (k : Nat) (a0_0 : Int) (a0_1 : Int) (a0_2 : Int) (a1 : Int) (r1 : Int) (r2 : Int) (w : World) (h : galois_Inv.f k a0_0 a0_1 a0_2 a1 = some (r1, r2)) :
  Calls Try.prog 42 #[.agg #[.int .i64 a0_0, .int .i64 a0_1, .int .i64 a0_2], .int .i64 a1] w fun e w' => e = .returned (.tuple #[.int .i64 r1, .int .i64 r2]) ∧ Below w.heap.size w w' := by
 have hu23 := Try.underlying23
 have HB := Aside0.mk (Below.refl w.heap.size w)
 have H := h
 unfold galois_Inv.f at H
 clear h
 obtain ⟨⟨t298, t299⟩, A3, H⟩ := zD H
 dsimp only at H
 simp only [Option.some.injEq, Prod.mk.injEq] at H
 obtain ⟨rfl, rfl⟩ := H
 go_enter Try.func42, Try.ntmps42
 go_wp2_with (first | ((with_reducible refine gate_dst (N := 2) rfl ?_); refine zBox 2 #[.int .i64 a0_0, .int .i64 a0_1, .int .i64 a0_2] 23 ?_; clear HB; intro gb297 w4 BK297 GE297 HB; (try clear z297_0 z297_1 z297_2 f297_0 f297_1 f297_2); obtain ⟨z297_0, z297_1, z297_2, f297_0, f297_1, f297_2⟩ := cz3 BK297) | ((with_reducible refine gate_callee (f := 40) rfl ?_); refine gL (some 8) Try.func40 #[.agg #[.int .i64 a0_0, .int .i64 a0_1, .int .i64 a0_2], .int .i64 1, .int .i64 a1] ?_; (with_reducible refine zCall (galois_Div.calls k a0_0 a0_1 a0_2 1 a1 t298 t299 _ A3.out) ?_); intro w6 hb; replace BK297 := bB BK297 hb; replace HB := bS hb; (try clear hb)))
 go_ret2
 exact ⟨zE, zB⟩
/-! ### polynomial_member: function 107 -/
def polynomial_member.f (a0_0 : Int) (a0_1 : Int) (a0_2 : Int) (a1 : Int) : Option (Bool) := if a1 ≥ 0 then (some (decide (a1 < a0_1))) else (some false)
theorem polynomial_member.calls (a0_0 : Int) (a0_1 : Int) (a0_2 : Int) (a1 : Int) (r : Bool) (w : World) (h : polynomial_member.f a0_0 a0_1 a0_2 a1 = some r) :
  Calls Try.prog 107 #[.agg #[.int .i64 a0_0, .int .i64 a0_1, .int .i64 a0_2], .int .i64 a1] w fun e w' => e = .returned (.bool r) ∧ Below w.heap.size w w' := by
 have hu23 := Try.underlying23
 have HB := Aside0.mk (Below.refl w.heap.size w)
 have H := h
 unfold polynomial_member.f at H
 clear h
 by_cases c3 : a1 ≥ 0
 ·rw [if_pos c3] at H
  have c3b0 : decide (0 ≤ a1) = true := decide_eq_true c3
  clear c3
  obtain rfl := Option.some.inj H
  go_enter Try.func107, Try.ntmps107
  go_wp2_with (first | ((with_reducible refine gate_dst (N := 2) rfl ?_); refine zBox 2 #[.int .i64 a0_0, .int .i64 a0_1, .int .i64 a0_2] 23 ?_; clear HB; intro gb863 w4 BK863 GE863 HB; (try clear z863_0 z863_1 z863_2 f863_0 f863_1 f863_2); obtain ⟨z863_0, z863_1, z863_2, f863_0, f863_1, f863_2⟩ := cz3 BK863))
  go_ret
  exact ⟨zE, zB⟩
 ·rw [if_neg c3] at H
  have c3b0 : decide (0 ≤ a1) = false := decide_eq_false c3
  clear c3
  obtain rfl := Option.some.inj H
  go_enter Try.func107, Try.ntmps107
  go_wp2_with (first | ((with_reducible refine gate_dst (N := 2) rfl ?_); refine zBox 2 #[.int .i64 a0_0, .int .i64 a0_1, .int .i64 a0_2] 23 ?_; clear HB; intro gb863 w6 BK863 GE863 HB))
  go_ret
  exact ⟨zE, zB⟩
/-! ### polynomial_mul: function 114 -/
def polynomial_mul.l0 : Nat → Int → Int → Int → Int → Int → Int → Option (Int)
 | 0, _, _, _, _, _, _ => none
 | k + 1, x1, x2, x7, x872000, x872001, x872002 => if x2 > 0 then (if (Go.bits .and .i64 x2 1) = 1 then (if (wrap64 (x1 * 2)) ≥ x872001 then (polynomial_mul.l0 k (Go.bits .xor .i64 (wrap64 (x1 * 2)) x872002) (x2 / 2) (Go.bits .xor .i64 x7 x1) x872000 x872001 x872002) else (polynomial_mul.l0 k (wrap64 (x1 * 2)) (x2 / 2) (Go.bits .xor .i64 x7 x1) x872000 x872001 x872002)) else (if (wrap64 (x1 * 2)) ≥ x872001 then (polynomial_mul.l0 k (Go.bits .xor .i64 (wrap64 (x1 * 2)) x872002) (x2 / 2) x7 x872000 x872001 x872002) else (polynomial_mul.l0 k (wrap64 (x1 * 2)) (x2 / 2) x7 x872000 x872001 x872002))) else (some x7)
def polynomial_mul.f (k : Nat) (a0_0 : Int) (a0_1 : Int) (a0_2 : Int) (a1 : Int) (a2 : Int) : Option (Int) := if a0_0 = 2 then (polynomial_mul.l0 k a1 a2 0 a0_0 a0_1 a0_2) else (if a0_1 = 0 then (none) else (some (Int.tmod (wrap64 (a1 * a2)) a0_1)))
theorem polynomial_mul.mono_l : ∀ k, (∀ y0 y1 y2 y3 y4 y5, LeO (polynomial_mul.l0 k y0 y1 y2 y3 y4 y5) (polynomial_mul.l0 (k + 1) y0 y1 y2 y3 y4 y5))
 | 0 => fun _ _ _ _ _ _ r h => by simp [polynomial_mul.l0] at h
 | k + 1 => by
  have ih0 := polynomial_mul.mono_l k
  ·intro y0 y1 y2 y3 y4 y5
   unfold polynomial_mul.l0
   exact zMo
theorem polynomial_mul.mono : ∀ a0 a1 a2 a3 a4 k, LeO (polynomial_mul.f k a0 a1 a2 a3 a4) (polynomial_mul.f (k + 1) a0 a1 a2 a3 a4) := by
 intro a0 a1 a2 a3 a4 k
 have ih0 := polynomial_mul.mono_l k
 unfold polynomial_mul.f
 exact zMo
theorem polynomial_mul.calls (k : Nat) (a0_0 : Int) (a0_1 : Int) (a0_2 : Int) (a1 : Int) (a2 : Int) (r : Int) (w : World) (h : polynomial_mul.f k a0_0 a0_1 a0_2 a1 a2 = some r) :
  Calls Try.prog 114 #[.agg #[.int .i64 a0_0, .int .i64 a0_1, .int .i64 a0_2], .int .i64 a1, .int .i64 a2] w fun e w' => e = .returned (.int .i64 r) ∧ Below w.heap.size w w' := by
 have hu23 := Try.underlying23
 have HB := Aside0.mk (Below.refl w.heap.size w)
 have H := h
 unfold polynomial_mul.f at H
 clear h
 by_cases c4 : a0_0 = 2
 ·rw [if_pos c4] at H
  have c4b0 := beq_iff_eq.mpr c4
  have c4b1 := bne_eq_false_iff_eq.mpr c4
  clear c4
  have H' := zA H
  clear H
  go_enter Try.func114, Try.ntmps114
  go_wp2_with (first | ((with_reducible refine gate_dst (N := 3) rfl ?_); refine zBox 3 #[.int .i64 a0_0, .int .i64 a0_1, .int .i64 a0_2] 23 ?_; clear HB; intro gb871 w5 BK871 GE871 HB; (try clear z871_0 z871_1 z871_2 f871_0 f871_1 f871_2); obtain ⟨z871_0, z871_1, z871_2, f871_0, f871_1, f871_2⟩ := cz3 BK871))
  go_loopg [1, 2, 7] k (fun kq v1 v2 v7 w' => ∃ (x1_1 : Int) (x2_1 : Int) (x7_1 : Int), v1 = .int .i64 x1_1 ∧ v2 = .int .i64 x2_1 ∧ v7 = .int .i64 x7_1 ∧ Aside0 (polynomial_mul.l0 kq x1_1 x2_1 x7_1 a0_0 a0_1 a0_2 = some r) ∧ Aside0 (kq ≤ k) ∧ Aside0 (w'.heap[gb871]? = some (.cells #[.int .i64 a0_0, .int .i64 a0_1, .int .i64 a0_2] 23 (0, 0))) ∧ Aside0 (Below w.heap.size w w'))
  case atStart => exact ⟨(a1), (a2), (0), zR, zR, zR, H', ⟨Nat.le_refl _⟩, ⟨zK BK871⟩, ⟨zB⟩⟩
  case round =>
   clear H'
   try clear c1
   try clear p2
   try clear c4
   try clear c4b0
   try clear c4b1
   try clear p6
   try clear z871_0 z871_1 z871_2 f871_0 f871_1 f871_2
   obtain ⟨x1_1, x2_1, x7_1, rfl, rfl, rfl, HA, HK1, BK871, HB⟩ := hrel
   cases gk with
   | zero => exact absurd HA.out (by simp [polynomial_mul.l0])
   | succ k1 =>
    have H := HA.out
    clear HA
    simp only [polynomial_mul.l0] at H
    by_cases c7 : x2_1 > 0
    ·rw [if_pos c7] at H
     have c7b0 : decide (0 < x2_1) = true := decide_eq_true c7
     clear c7
     by_cases c8 : (Go.bits .and .i64 x2_1 1) = 1
     ·rw [if_pos c8] at H
      have c8b0 := beq_iff_eq.mpr c8
      have c8b1 := bne_eq_false_iff_eq.mpr c8
      clear c8
      by_cases c9 : (wrap64 (x1_1 * 2)) ≥ a0_1
      ·rw [if_pos c9] at H
       have c9b0 : decide (a0_1 ≤ (wrap64 (x1_1 * 2))) = true := decide_eq_true c9
       clear c9
       have H' := zA H
       clear H
       (try clear z871_0 z871_1 z871_2 f871_0 f871_1 f871_2)
       obtain ⟨z871_0, z871_1, z871_2, f871_0, f871_1, f871_2⟩ := cz3 BK871
       go_wp2
       go_roundg k1
       case measure => have := HK1.out; omega
       case rel => exact ⟨(Go.bits .xor .i64 (wrap64 (x1_1 * 2)) a0_2), (x2_1 / 2), (Go.bits .xor .i64 x7_1 x1_1), zR, zR, zR, H', zH, ⟨zK BK871⟩, ⟨zB⟩⟩
      ·rw [if_neg c9] at H
       have c9b0 : decide (a0_1 ≤ (wrap64 (x1_1 * 2))) = false := decide_eq_false c9
       clear c9
       have H' := zA H
       clear H
       (try clear z871_0 z871_1 z871_2 f871_0 f871_1 f871_2)
       obtain ⟨z871_0, z871_1, z871_2, f871_0, f871_1, f871_2⟩ := cz3 BK871
       go_wp2
       go_roundg k1
       case measure => have := HK1.out; omega
       case rel => exact ⟨(wrap64 (x1_1 * 2)), (x2_1 / 2), (Go.bits .xor .i64 x7_1 x1_1), zR, zR, zR, H', zH, ⟨zK BK871⟩, ⟨zB⟩⟩
     ·rw [if_neg c8] at H
      have c8b0 := beq_eq_false_iff_ne.mpr c8
      have c8b1 := bne_iff_ne.mpr c8
      by_cases c12 : (wrap64 (x1_1 * 2)) ≥ a0_1
      ·rw [if_pos c12] at H
       have c12b0 : decide (a0_1 ≤ (wrap64 (x1_1 * 2))) = true := decide_eq_true c12
       clear c12
       have H' := zA H
       clear H
       (try clear z871_0 z871_1 z871_2 f871_0 f871_1 f871_2)
       obtain ⟨z871_0, z871_1, z871_2, f871_0, f871_1, f871_2⟩ := cz3 BK871
       go_wp2
       go_roundg k1
       case measure => have := HK1.out; omega
       case rel => exact ⟨(Go.bits .xor .i64 (wrap64 (x1_1 * 2)) a0_2), (x2_1 / 2), (x7_1), zR, zR, zR, H', zH, ⟨zK BK871⟩, ⟨zB⟩⟩
      ·rw [if_neg c12] at H
       have c12b0 : decide (a0_1 ≤ (wrap64 (x1_1 * 2))) = false := decide_eq_false c12
       clear c12
       have H' := zA H
       clear H
       (try clear z871_0 z871_1 z871_2 f871_0 f871_1 f871_2)
       obtain ⟨z871_0, z871_1, z871_2, f871_0, f871_1, f871_2⟩ := cz3 BK871
       go_wp2
       go_roundg k1
       case measure => have := HK1.out; omega
       case rel => exact ⟨(wrap64 (x1_1 * 2)), (x2_1 / 2), (x7_1), zR, zR, zR, H', zH, ⟨zK BK871⟩, ⟨zB⟩⟩
    ·rw [if_neg c7] at H
     have c7b0 : decide (0 < x2_1) = false := decide_eq_false c7
     clear c7
     obtain rfl := Option.some.inj H
     go_wp2
     go_ret
     exact ⟨zE, zB⟩
 ·rw [if_neg c4] at H
  have c4b0 := beq_eq_false_iff_ne.mpr c4
  have c4b1 := bne_iff_ne.mpr c4
  by_cases c15 : a0_1 = 0
  ·rw [if_pos c15] at H
   exact absurd H (by simp)
  ·rw [if_neg c15] at H
   have c15b0 := beq_eq_false_iff_ne.mpr c15
   have c15b1 := bne_iff_ne.mpr c15
   obtain rfl := Option.some.inj H
   go_enter Try.func114, Try.ntmps114
   go_wp2_with (first | ((with_reducible refine gate_dst (N := 3) rfl ?_); refine zBox 3 #[.int .i64 a0_0, .int .i64 a0_1, .int .i64 a0_2] 23 ?_; clear HB; intro gb871 w16 BK871 GE871 HB; (try clear z871_0 z871_1 z871_2 f871_0 f871_1 f871_2); obtain ⟨z871_0, z871_1, z871_2, f871_0, f871_1, f871_2⟩ := cz3 BK871))
   go_ret
   exact ⟨zE, zB⟩

-- NOT PRINTED: function 130 (slices_Backward_int_int)
/-! ### polynomial_add: function 131 -/
def polynomial_add.f (a0_0 : Int) (a0_1 : Int) (a0_2 : Int) (a1 : Int) (a2 : Int) : Option (Int) := if a0_0 = 2 then (some (Go.bits .xor .i64 a1 a2)) else (if a0_1 = 0 then (none) else (some (Int.tmod (wrap64 (a1 + a2)) a0_1)))
theorem polynomial_add.calls (a0_0 : Int) (a0_1 : Int) (a0_2 : Int) (a1 : Int) (a2 : Int) (r : Int) (w : World) (h : polynomial_add.f a0_0 a0_1 a0_2 a1 a2 = some r) :
  Calls Try.prog 131 #[.agg #[.int .i64 a0_0, .int .i64 a0_1, .int .i64 a0_2], .int .i64 a1, .int .i64 a2] w fun e w' => e = .returned (.int .i64 r) ∧ Below w.heap.size w w' := by
 have hu23 := Try.underlying23
 have HB := Aside0.mk (Below.refl w.heap.size w)
 have H := h
 unfold polynomial_add.f at H
 clear h
 by_cases c4 : a0_0 = 2
 ·rw [if_pos c4] at H
  have c4b0 := beq_iff_eq.mpr c4
  have c4b1 := bne_eq_false_iff_eq.mpr c4
  clear c4
  obtain rfl := Option.some.inj H
  go_enter Try.func131, Try.ntmps131
  go_wp2_with (first | ((with_reducible refine gate_dst (N := 3) rfl ?_); refine zBox 3 #[.int .i64 a0_0, .int .i64 a0_1, .int .i64 a0_2] 23 ?_; clear HB; intro gb872 w5 BK872 GE872 HB; (try clear z872_0 z872_1 z872_2 f872_0 f872_1 f872_2); obtain ⟨z872_0, z872_1, z872_2, f872_0, f872_1, f872_2⟩ := cz3 BK872))
  go_ret
  exact ⟨zE, zB⟩
 ·rw [if_neg c4] at H
  have c4b0 := beq_eq_false_iff_ne.mpr c4
  have c4b1 := bne_iff_ne.mpr c4
  by_cases c7 : a0_1 = 0
  ·rw [if_pos c7] at H
   exact absurd H (by simp)
  ·rw [if_neg c7] at H
   have c7b0 := beq_eq_false_iff_ne.mpr c7
   have c7b1 := bne_iff_ne.mpr c7
   obtain rfl := Option.some.inj H
   go_enter Try.func131, Try.ntmps131
   go_wp2_with (first | ((with_reducible refine gate_dst (N := 3) rfl ?_); refine zBox 3 #[.int .i64 a0_0, .int .i64 a0_1, .int .i64 a0_2] 23 ?_; clear HB; intro gb872 w8 BK872 GE872 HB; (try clear z872_0 z872_1 z872_2 f872_0 f872_1 f872_2); obtain ⟨z872_0, z872_1, z872_2, f872_0, f872_1, f872_2⟩ := cz3 BK872))
   go_ret
   exact ⟨zE, zB⟩
/-! ### barscanref05_Same: function 106 -/
def barscanref05_Same.l0 : Nat → List Int → List Int → Int → Option (Bool)
 | 0, _, _, _ => none
 | k + 1, x0, x1, x5 => if x5 < (x0.length : Int) then (if 0 ≤ x5 then (if x5 < (x1.length : Int) then (if (rd x0 x5) = (rd x1 x5) then (barscanref05_Same.l0 k x0 x1 (wrap64 (x5 + 1))) else (some false)) else (none)) else (none)) else (some true)
def barscanref05_Same.f (k : Nat) (l0 : List Int) (l1 : List Int) : Option (Bool) := if (l0.length : Int) = (l1.length : Int) then (barscanref05_Same.l0 k l0 l1 0) else (some false)
theorem barscanref05_Same.mono_l : ∀ k, (∀ y0 y1 y2, LeO (barscanref05_Same.l0 k y0 y1 y2) (barscanref05_Same.l0 (k + 1) y0 y1 y2))
 | 0 => fun _ _ _ r h => by simp [barscanref05_Same.l0] at h
 | k + 1 => by
  have ih0 := barscanref05_Same.mono_l k
  ·intro y0 y1 y2
   unfold barscanref05_Same.l0
   exact zMo
theorem barscanref05_Same.mono : ∀ a0 a1 k, LeO (barscanref05_Same.f k a0 a1) (barscanref05_Same.f (k + 1) a0 a1) := by
 intro a0 a1 k
 have ih0 := barscanref05_Same.mono_l k
 unfold barscanref05_Same.f
 exact zMo
theorem barscanref05_Same.calls (k : Nat) (A0 : Option Addr) (c0 : Nat) (l0 : List Int) (A1 : Option Addr) (c1 : Nat) (l1 : List Int) (r : Bool) (w : World) (hr0 : Kd.C (Kd.int .i64) w A0 l0.length l0) (hc0 : l0.length ≤ c0) (hr1 : Kd.C (Kd.int .i64) w A1 l1.length l1) (hc1 : l1.length ≤ c1) (h : barscanref05_Same.f k l0 l1 = some r) :
  Calls Try.prog 106 #[.slice A0 l0.length c0, .slice A1 l1.length c1] w fun e w' => e = .returned (.bool r) ∧ Drawn0 w w' := by
 have HR0 := Aside0.mk hr0
 have HC0 := Aside0.mk hc0
 clear hr0 hc0
 have HR1 := Aside0.mk hr1
 have HC1 := Aside0.mk hc1
 clear hr1 hc1
 have H := h
 unfold barscanref05_Same.f at H
 clear h
 by_cases c3 : (l0.length : Int) = (l1.length : Int)
 ·rw [if_pos c3] at H
  have c3b0 := beq_iff_eq.mpr c3
  have c3b1 := bne_eq_false_iff_eq.mpr c3
  have c3b2 : (l0.length == l1.length) = true := by first | simpa using c3 | (simp at c3 ⊢; omega)
  clear c3
  have H' := zA H
  clear H
  go_enter Try.func106, Try.ntmps106
  go_wp2
  repeat (go_quiet (fail); try go_wp2)
  go_loopg [5] k (fun kq v5 w' => ∃ (x5_1 : Int), v5 = .int .i64 x5_1 ∧ Aside0 (barscanref05_Same.l0 kq l0 l1 x5_1 = some r) ∧ Aside0 (kq ≤ k) ∧ Drawn0 w w')
  case atStart => exact ⟨(0), zR, H', ⟨Nat.le_refl _⟩, by repeat (first | exact Drawn0.refl _ | apply Drawn0.step)⟩
  case round =>
   clear H'
   try clear c1
   try clear p2
   try clear c3
   try clear c3b0
   try clear c3b1
   try clear c3b2
   obtain ⟨x5_1, rfl, HA, HK1, ⟨m1, rfl⟩⟩ := hrel
   cases gk with
   | zero => exact absurd HA.out (by simp [barscanref05_Same.l0])
   | succ k1 =>
    have H := HA.out
    clear HA
    simp only [barscanref05_Same.l0] at H
    by_cases c4 : x5_1 < (l0.length : Int)
    ·rw [if_pos c4] at H
     have c4b0 : decide (x5_1 < (l0.length : Int)) = true := decide_eq_true c4
     clear c4
     by_cases c5 : 0 ≤ x5_1
     ·rw [if_pos c5] at H
      have c5b0 : decide (0 ≤ x5_1) = true := decide_eq_true c5
      clear c5
      by_cases c6 : x5_1 < (l1.length : Int)
      ·rw [if_pos c6] at H
       have c6b0 : decide (x5_1 < (l1.length : Int)) = true := decide_eq_true c6
       clear c6
       by_cases c7 : (rd l0 x5_1) = (rd l1 x5_1)
       ·rw [if_pos c7] at H
        have c7b0 := beq_iff_eq.mpr c7
        have c7b1 := bne_eq_false_iff_eq.mpr c7
        clear c7
        have H' := zA H
        clear H
        have p879 : 0 ≤ (x5_1 : Int) := of_decide_eq_true (by first | (with_reducible assumption) | assumption)
        have q879 : x5_1 < (l0.length : Int) := of_decide_eq_true (by first | (with_reducible assumption) | assumption)
        obtain ⟨ad879, e879, hx879_0⟩ := Kd.at_int HR0.out x5_1 p879 q879
        cases e879
        replace p879 := eq_true p879
        replace q879 := eq_true q879
        have p880 : 0 ≤ (x5_1 : Int) := of_decide_eq_true (by first | (with_reducible assumption) | assumption)
        have q880 : x5_1 < (l1.length : Int) := of_decide_eq_true (by first | (with_reducible assumption) | assumption)
        obtain ⟨ad880, e880, hx880_0⟩ := Kd.at_int HR1.out x5_1 p880 q880
        cases e880
        replace p880 := eq_true p880
        replace q880 := eq_true q880
        go_wp2
        repeat (go_quiet (fail); try go_wp2)
        go_roundg k1
        case measure => have := HK1.out; omega
        case rel => exact ⟨(wrap64 (x5_1 + 1)), zR, H', zH, by repeat (first | exact Drawn0.refl _ | apply Drawn0.step)⟩
       ·rw [if_neg c7] at H
        have c7b0 := beq_eq_false_iff_ne.mpr c7
        have c7b1 := bne_iff_ne.mpr c7
        obtain rfl := Option.some.inj H
        have p879 : 0 ≤ (x5_1 : Int) := of_decide_eq_true (by first | (with_reducible assumption) | assumption)
        have q879 : x5_1 < (l0.length : Int) := of_decide_eq_true (by first | (with_reducible assumption) | assumption)
        obtain ⟨ad879, e879, hx879_0⟩ := Kd.at_int HR0.out x5_1 p879 q879
        cases e879
        replace p879 := eq_true p879
        replace q879 := eq_true q879
        have p880 : 0 ≤ (x5_1 : Int) := of_decide_eq_true (by first | (with_reducible assumption) | assumption)
        have q880 : x5_1 < (l1.length : Int) := of_decide_eq_true (by first | (with_reducible assumption) | assumption)
        obtain ⟨ad880, e880, hx880_0⟩ := Kd.at_int HR1.out x5_1 p880 q880
        cases e880
        replace p880 := eq_true p880
        replace q880 := eq_true q880
        go_wp2
        repeat (go_quiet (fail); try go_wp2)
        go_ret
        exact ⟨by first | rfl | (simp; done) | (simp [*]; done), by repeat (first | exact Drawn0.refl _ | apply Drawn0.step)⟩
      ·rw [if_neg c6] at H
       exact absurd H (by simp)
     ·rw [if_neg c5] at H
      exact absurd H (by simp)
    ·rw [if_neg c4] at H
     have c4b0 : decide (x5_1 < (l0.length : Int)) = false := decide_eq_false c4
     clear c4
     obtain rfl := Option.some.inj H
     go_wp2
     repeat (go_quiet (fail); try go_wp2)
     go_ret
     exact ⟨by first | rfl | (simp; done) | (simp [*]; done), by repeat (first | exact Drawn0.refl _ | apply Drawn0.step)⟩
 ·rw [if_neg c3] at H
  have c3b0 := beq_eq_false_iff_ne.mpr c3
  have c3b1 := bne_iff_ne.mpr c3
  have c3b2 : (l0.length == l1.length) = false := by first | simpa using c3 | (simp at c3 ⊢; omega)
  obtain rfl := Option.some.inj H
  go_enter Try.func106, Try.ntmps106
  go_wp2
  repeat (go_quiet (fail); try go_wp2)
  go_ret
  exact ⟨by first | rfl | (simp; done) | (simp [*]; done), by repeat (first | exact Drawn0.refl _ | apply Drawn0.step)⟩
/-! ### barscanlaw05_same: function 55 -/
def barscanlaw05_same.f (k : Nat) (l0 : List Int) (l1 : List Int) : Option (Bool) := (barscanref05_Same.f k l0 l1).bind fun t881 => (some t881)
theorem barscanlaw05_same.mono : ∀ a0 a1 k, LeO (barscanlaw05_same.f k a0 a1) (barscanlaw05_same.f (k + 1) a0 a1) := by
 intro a0 a1 k
 unfold barscanlaw05_same.f
 have m0_ := @barscanref05_Same.mono
 exact zMo
theorem barscanlaw05_same.calls (k : Nat) (A0 : Option Addr) (c0 : Nat) (l0 : List Int) (A1 : Option Addr) (c1 : Nat) (l1 : List Int) (r : Bool) (w : World) (hr0 : Kd.C (Kd.int .i64) w A0 l0.length l0) (hc0 : l0.length ≤ c0) (hr1 : Kd.C (Kd.int .i64) w A1 l1.length l1) (hc1 : l1.length ≤ c1) (h : barscanlaw05_same.f k l0 l1 = some r) :
  Calls Try.prog 55 #[.slice A0 l0.length c0, .slice A1 l1.length c1] w fun e w' => e = .returned (.bool r) ∧ Drawn0 w w' := by
 have HR0 := Aside0.mk hr0
 have HC0 := Aside0.mk hc0
 clear hr0 hc0
 have HR1 := Aside0.mk hr1
 have HC1 := Aside0.mk hc1
 clear hr1 hc1
 have H := h
 unfold barscanlaw05_same.f at H
 clear h
 obtain ⟨t881, A3, H⟩ := zD H
 obtain rfl := Option.some.inj H
 go_enter Try.func55, Try.ntmps55
 go_wp2_with (first | ((with_reducible refine gate_callee (f := 106) rfl ?_); refine gL (some 7) Try.func106 #[.slice A0 l0.length c0, .slice A1 l1.length c1] ?_; (with_reducible refine (barscanref05_Same.calls k _ _ l0 _ _ l1 t881 _ ?side1 ?side2 ?side3 ?side4 A3.out).mono ?_); (case side1 => repeat (first | exact HR0.out | (with_reducible refine Kd.C_alloc ?_ _) | (with_reducible refine Kd.C_drewN ?_ _) | (with_reducible refine Kd.C_drew ?_))); (case side2 => exact HC0.out); (case side3 => repeat (first | exact HR1.out | (with_reducible refine Kd.C_alloc ?_ _) | (with_reducible refine Kd.C_drewN ?_ _) | (with_reducible refine Kd.C_drew ?_))); (case side4 => exact HC1.out); rintro e w' ⟨rfl, ⟨nd, rfl⟩⟩; refine ⟨_, rfl, ?_⟩))
 go_ret
 exact ⟨by first | rfl | (simp; done) | (simp [*]; done), by repeat (first | exact Drawn0.refl _ | apply Drawn0.step)⟩
/-! ### slices_Index_int_int: function 134 -/
def slices_Index_int_int.l0 : Nat → List Int → Int → Int → Int → Option (Int)
 | 0, _, _, _, _ => none
 | k + 1, x0, x1, x7, x8 => if x8 < x7 then (if 0 ≤ x8 then (if x8 < (x0.length : Int) then (if x1 = (rd x0 x8) then (some x8) else (slices_Index_int_int.l0 k x0 x1 x7 (wrap64 (x8 + 1)))) else (none)) else (none)) else (some (-1))
def slices_Index_int_int.f (k : Nat) (l0 : List Int) (a1 : Int) : Option (Int) := slices_Index_int_int.l0 k l0 a1 (l0.length : Int) 0
theorem slices_Index_int_int.mono_l : ∀ k, (∀ y0 y1 y2 y3, LeO (slices_Index_int_int.l0 k y0 y1 y2 y3) (slices_Index_int_int.l0 (k + 1) y0 y1 y2 y3))
 | 0 => fun _ _ _ _ r h => by simp [slices_Index_int_int.l0] at h
 | k + 1 => by
  have ih0 := slices_Index_int_int.mono_l k
  ·intro y0 y1 y2 y3
   unfold slices_Index_int_int.l0
   exact zMo
theorem slices_Index_int_int.mono : ∀ a0 a1 k, LeO (slices_Index_int_int.f k a0 a1) (slices_Index_int_int.f (k + 1) a0 a1) := by
 intro a0 a1 k
 have ih0 := slices_Index_int_int.mono_l k
 unfold slices_Index_int_int.f
 exact zMo
theorem slices_Index_int_int.calls (k : Nat) (A0 : Option Addr) (c0 : Nat) (l0 : List Int) (a1 : Int) (r : Int) (w : World) (hr0 : Kd.C (Kd.int .i64) w A0 l0.length l0) (hc0 : l0.length ≤ c0) (h : slices_Index_int_int.f k l0 a1 = some r) :
  Calls Try.prog 134 #[.slice A0 l0.length c0, .int .i64 a1] w fun e w' => e = .returned (.int .i64 r) ∧ Drawn0 w w' := by
 have HR0 := Aside0.mk hr0
 have HC0 := Aside0.mk hc0
 clear hr0 hc0
 have H := h
 unfold slices_Index_int_int.f at H
 clear h
 have H' := zA H
 clear H
 go_enter Try.func134, Try.ntmps134
 go_wp2
 go_loopg [8] k (fun kq v8 w' => ∃ (x8_1 : Int), v8 = .int .i64 x8_1 ∧ Aside0 (slices_Index_int_int.l0 kq l0 a1 (l0.length : Int) x8_1 = some r) ∧ Aside0 (kq ≤ k) ∧ Drawn0 w w')
 case atStart => exact ⟨(0), zR, H', ⟨Nat.le_refl _⟩, by repeat (first | exact Drawn0.refl _ | apply Drawn0.step)⟩
 case round =>
  clear H'
  try clear c1
  try clear p2
  obtain ⟨x8_1, rfl, HA, HK1, ⟨m1, rfl⟩⟩ := hrel
  cases gk with
  | zero => exact absurd HA.out (by simp [slices_Index_int_int.l0])
  | succ k1 =>
   have H := HA.out
   clear HA
   simp only [slices_Index_int_int.l0] at H
   by_cases c3 : x8_1 < (l0.length : Int)
   ·rw [if_pos c3] at H
    have c3b0 : decide (x8_1 < (l0.length : Int)) = true := decide_eq_true c3
    clear c3
    by_cases c4 : 0 ≤ x8_1
    ·rw [if_pos c4] at H
     have c4b0 : decide (0 ≤ x8_1) = true := decide_eq_true c4
     clear c4
     by_cases c5 : x8_1 < (l0.length : Int)
     ·rw [if_pos c5] at H
      have c5b0 : decide (x8_1 < (l0.length : Int)) = true := decide_eq_true c5
      clear c5
      by_cases c6 : a1 = (rd l0 x8_1)
      ·rw [if_pos c6] at H
       have c6b0 := beq_iff_eq.mpr c6
       have c6b1 := bne_eq_false_iff_eq.mpr c6
       clear c6
       obtain rfl := Option.some.inj H
       have p919 : 0 ≤ (x8_1 : Int) := of_decide_eq_true (by first | (with_reducible assumption) | assumption)
       have q919 : x8_1 < (l0.length : Int) := of_decide_eq_true (by first | (with_reducible assumption) | assumption)
       obtain ⟨ad919, e919, hx919_0⟩ := Kd.at_int HR0.out x8_1 p919 q919
       cases e919
       replace p919 := eq_true p919
       replace q919 := eq_true q919
       go_wp2
       go_ret
       exact ⟨by first | rfl | (simp; done) | (simp [*]; done), by repeat (first | exact Drawn0.refl _ | apply Drawn0.step)⟩
      ·rw [if_neg c6] at H
       have c6b0 := beq_eq_false_iff_ne.mpr c6
       have c6b1 := bne_iff_ne.mpr c6
       have H' := zA H
       clear H
       have p919 : 0 ≤ (x8_1 : Int) := of_decide_eq_true (by first | (with_reducible assumption) | assumption)
       have q919 : x8_1 < (l0.length : Int) := of_decide_eq_true (by first | (with_reducible assumption) | assumption)
       obtain ⟨ad919, e919, hx919_0⟩ := Kd.at_int HR0.out x8_1 p919 q919
       cases e919
       replace p919 := eq_true p919
       replace q919 := eq_true q919
       go_wp2
       go_roundg k1
       case measure => have := HK1.out; omega
       case rel => exact ⟨(wrap64 (x8_1 + 1)), zR, H', zH, by repeat (first | exact Drawn0.refl _ | apply Drawn0.step)⟩
     ·rw [if_neg c5] at H
      exact absurd H (by simp)
    ·rw [if_neg c4] at H
     exact absurd H (by simp)
   ·rw [if_neg c3] at H
    have c3b0 : decide (x8_1 < (l0.length : Int)) = false := decide_eq_false c3
    clear c3
    obtain rfl := Option.some.inj H
    go_wp2
    go_ret
    exact ⟨by first | rfl | (simp; done) | (simp [*]; done), by repeat (first | exact Drawn0.refl _ | apply Drawn0.step)⟩
/-! ### slices_Contains_int_int: function 112 -/
def slices_Contains_int_int.f (k : Nat) (l0 : List Int) (a1 : Int) : Option (Bool) := (slices_Index_int_int.f k l0 a1).bind fun t920 => (some (decide (t920 ≥ 0)))
theorem slices_Contains_int_int.mono : ∀ a0 a1 k, LeO (slices_Contains_int_int.f k a0 a1) (slices_Contains_int_int.f (k + 1) a0 a1) := by
 intro a0 a1 k
 unfold slices_Contains_int_int.f
 have m0_ := @slices_Index_int_int.mono
 exact zMo
theorem slices_Contains_int_int.calls (k : Nat) (A0 : Option Addr) (c0 : Nat) (l0 : List Int) (a1 : Int) (r : Bool) (w : World) (hr0 : Kd.C (Kd.int .i64) w A0 l0.length l0) (hc0 : l0.length ≤ c0) (h : slices_Contains_int_int.f k l0 a1 = some r) :
  Calls Try.prog 112 #[.slice A0 l0.length c0, .int .i64 a1] w fun e w' => e = .returned (.bool r) ∧ Drawn0 w w' := by
 have HR0 := Aside0.mk hr0
 have HC0 := Aside0.mk hc0
 clear hr0 hc0
 have H := h
 unfold slices_Contains_int_int.f at H
 clear h
 obtain ⟨t920, A3, H⟩ := zD H
 obtain rfl := Option.some.inj H
 go_enter Try.func112, Try.ntmps112
 go_wp2_with (first | ((with_reducible refine gate_callee (f := 134) rfl ?_); refine gL (some 7) Try.func134 #[.slice A0 l0.length c0, .int .i64 a1] ?_; (with_reducible refine (slices_Index_int_int.calls k _ _ l0 a1 t920 _ ?side1 ?side2 A3.out).mono ?_); (case side1 => repeat (first | exact HR0.out | (with_reducible refine Kd.C_alloc ?_ _) | (with_reducible refine Kd.C_drewN ?_ _) | (with_reducible refine Kd.C_drew ?_))); (case side2 => exact HC0.out); rintro e w' ⟨rfl, ⟨nd, rfl⟩⟩; refine ⟨_, rfl, ?_⟩))
 go_ret
 exact ⟨by first | rfl | (simp; done) | (simp [*]; done), by repeat (first | exact Drawn0.refl _ | apply Drawn0.step)⟩
/-! ### polynomial_sub: function 113 -/
def polynomial_sub.f (a0_0 : Int) (a0_1 : Int) (a0_2 : Int) (a1 : Int) (a2 : Int) : Option (Int) := if a0_0 = 2 then (some (Go.bits .xor .i64 a1 a2)) else (if a0_1 = 0 then (none) else (some (Int.tmod (wrap64 ((wrap64 (a1 + a0_1)) - a2)) a0_1)))
theorem polynomial_sub.calls (a0_0 : Int) (a0_1 : Int) (a0_2 : Int) (a1 : Int) (a2 : Int) (r : Int) (w : World) (h : polynomial_sub.f a0_0 a0_1 a0_2 a1 a2 = some r) :
  Calls Try.prog 113 #[.agg #[.int .i64 a0_0, .int .i64 a0_1, .int .i64 a0_2], .int .i64 a1, .int .i64 a2] w fun e w' => e = .returned (.int .i64 r) ∧ Below w.heap.size w w' := by
 have hu23 := Try.underlying23
 have HB := Aside0.mk (Below.refl w.heap.size w)
 have H := h
 unfold polynomial_sub.f at H
 clear h
 by_cases c4 : a0_0 = 2
 ·rw [if_pos c4] at H
  have c4b0 := beq_iff_eq.mpr c4
  have c4b1 := bne_eq_false_iff_eq.mpr c4
  clear c4
  obtain rfl := Option.some.inj H
  go_enter Try.func113, Try.ntmps113
  go_wp2_with (first | ((with_reducible refine gate_dst (N := 3) rfl ?_); refine zBox 3 #[.int .i64 a0_0, .int .i64 a0_1, .int .i64 a0_2] 23 ?_; clear HB; intro gb921 w5 BK921 GE921 HB; (try clear z921_0 z921_1 z921_2 f921_0 f921_1 f921_2); obtain ⟨z921_0, z921_1, z921_2, f921_0, f921_1, f921_2⟩ := cz3 BK921))
  go_ret
  exact ⟨zE, zB⟩
 ·rw [if_neg c4] at H
  have c4b0 := beq_eq_false_iff_ne.mpr c4
  have c4b1 := bne_iff_ne.mpr c4
  by_cases c7 : a0_1 = 0
  ·rw [if_pos c7] at H
   exact absurd H (by simp)
  ·rw [if_neg c7] at H
   have c7b0 := beq_eq_false_iff_ne.mpr c7
   have c7b1 := bne_iff_ne.mpr c7
   obtain rfl := Option.some.inj H
   go_enter Try.func113, Try.ntmps113
   go_wp2_with (first | ((with_reducible refine gate_dst (N := 3) rfl ?_); refine zBox 3 #[.int .i64 a0_0, .int .i64 a0_1, .int .i64 a0_2] 23 ?_; clear HB; intro gb921 w8 BK921 GE921 HB; (try clear z921_0 z921_1 z921_2 f921_0 f921_1 f921_2); obtain ⟨z921_0, z921_1, z921_2, f921_0, f921_1, f921_2⟩ := cz3 BK921))
   go_ret
   exact ⟨zE, zB⟩
/-! ### polynomial_inverse: function 115 -/
def polynomial_inverse.f (k : Nat) (a0_0 : Int) (a0_1 : Int) (a0_2 : Int) (a1 : Int) : Option (Int) := (galois_Inv.f k a0_0 a0_1 a0_2 a1).bind fun bt923 => (some bt923.1)
theorem polynomial_inverse.mono : ∀ a0 a1 a2 a3 k, LeO (polynomial_inverse.f k a0 a1 a2 a3) (polynomial_inverse.f (k + 1) a0 a1 a2 a3) := by
 intro a0 a1 a2 a3 k
 unfold polynomial_inverse.f
 have m0_ := @galois_Inv.mono
 exact zMo
theorem polynomial_inverse.calls (k : Nat) (a0_0 : Int) (a0_1 : Int) (a0_2 : Int) (a1 : Int) (r : Int) (w : World) (h : polynomial_inverse.f k a0_0 a0_1 a0_2 a1 = some r) :
  Calls Try.prog 115 #[.agg #[.int .i64 a0_0, .int .i64 a0_1, .int .i64 a0_2], .int .i64 a1] w fun e w' => e = .returned (.int .i64 r) ∧ Below w.heap.size w w' := by
 have hu23 := Try.underlying23
 have HB := Aside0.mk (Below.refl w.heap.size w)
 have H := h
 unfold polynomial_inverse.f at H
 clear h
 obtain ⟨⟨t923, t924⟩, A3, H⟩ := zD H
 dsimp only at H
 obtain rfl := Option.some.inj H
 go_enter Try.func115, Try.ntmps115
 go_wp2_with (first | ((with_reducible refine gate_dst (N := 2) rfl ?_); refine zBox 2 #[.int .i64 a0_0, .int .i64 a0_1, .int .i64 a0_2] 23 ?_; clear HB; intro gb922 w4 BK922 GE922 HB; (try clear z922_0 z922_1 z922_2 f922_0 f922_1 f922_2); obtain ⟨z922_0, z922_1, z922_2, f922_0, f922_1, f922_2⟩ := cz3 BK922) | ((with_reducible refine gate_callee (f := 42) rfl ?_); refine gL (some 10) Try.func42 #[.agg #[.int .i64 a0_0, .int .i64 a0_1, .int .i64 a0_2], .int .i64 a1] ?_; (with_reducible refine zCall (galois_Inv.calls k a0_0 a0_1 a0_2 a1 t923 t924 _ A3.out) ?_); intro w6 hb; replace BK922 := bB BK922 hb; replace HB := bS hb; (try clear hb)))
 go_ret
 exact ⟨zE, zB⟩
/-! ### polynomial_coefficient: function 135 -/
def polynomial_coefficient.f (l0 : List Int) (a1 : Int) : Option (Int) := if a1 < (l0.length : Int) then (if 0 ≤ a1 then (some (rd l0 a1)) else (none)) else (some 0)
theorem polynomial_coefficient.calls (A0 : Option Addr) (c0 : Nat) (l0 : List Int) (a1 : Int) (r : Int) (w : World) (hr0 : Kd.C (Kd.int .i64) w A0 l0.length l0) (hc0 : l0.length ≤ c0) (h : polynomial_coefficient.f l0 a1 = some r) :
  Calls Try.prog 135 #[.slice A0 l0.length c0, .int .i64 a1] w fun e w' => e = .returned (.int .i64 r) ∧ Drawn0 w w' := by
 have HR0 := Aside0.mk hr0
 have HC0 := Aside0.mk hc0
 clear hr0 hc0
 have H := h
 unfold polynomial_coefficient.f at H
 clear h
 by_cases c3 : a1 < (l0.length : Int)
 ·rw [if_pos c3] at H
  have c3b0 : decide (a1 < (l0.length : Int)) = true := decide_eq_true c3
  clear c3
  by_cases c4 : 0 ≤ a1
  ·rw [if_pos c4] at H
   have c4b0 : decide (0 ≤ a1) = true := decide_eq_true c4
   clear c4
   obtain rfl := Option.some.inj H
   have p925 : 0 ≤ (a1 : Int) := of_decide_eq_true (by first | (with_reducible assumption) | assumption)
   have q925 : a1 < (l0.length : Int) := of_decide_eq_true (by first | (with_reducible assumption) | assumption)
   obtain ⟨ad925, e925, hx925_0⟩ := Kd.at_int HR0.out a1 p925 q925
   cases e925
   replace p925 := eq_true p925
   replace q925 := eq_true q925
   go_enter Try.func135, Try.ntmps135
   go_wp2
   go_ret
   exact ⟨by first | rfl | (simp; done) | (simp [*]; done), by repeat (first | exact Drawn0.refl _ | apply Drawn0.step)⟩
  ·rw [if_neg c4] at H
   exact absurd H (by simp)
 ·rw [if_neg c3] at H
  have c3b0 : decide (a1 < (l0.length : Int)) = false := decide_eq_false c3
  clear c3
  obtain rfl := Option.some.inj H
  go_enter Try.func135, Try.ntmps135
  go_wp2
  go_ret
  exact ⟨by first | rfl | (simp; done) | (simp [*]; done), by repeat (first | exact Drawn0.refl _ | apply Drawn0.step)⟩
/-! ### barscanref05_element: function 125 -/
def barscanref05_element.f (a0_0 : Int) (a0_1 : Int) (a0_2 : Int) (a1 : Int) : Option (Bool) := if a1 ≥ 0 then (some (decide (a1 < a0_1))) else (some false)
theorem barscanref05_element.calls (a0_0 : Int) (a0_1 : Int) (a0_2 : Int) (a1 : Int) (r : Bool) (w : World) (h : barscanref05_element.f a0_0 a0_1 a0_2 a1 = some r) :
  Calls Try.prog 125 #[.agg #[.int .i64 a0_0, .int .i64 a0_1, .int .i64 a0_2], .int .i64 a1] w fun e w' => e = .returned (.bool r) ∧ Below w.heap.size w w' := by
 have hu23 := Try.underlying23
 have HB := Aside0.mk (Below.refl w.heap.size w)
 have H := h
 unfold barscanref05_element.f at H
 clear h
 by_cases c3 : a1 ≥ 0
 ·rw [if_pos c3] at H
  have c3b0 : decide (0 ≤ a1) = true := decide_eq_true c3
  clear c3
  obtain rfl := Option.some.inj H
  go_enter Try.func125, Try.ntmps125
  go_wp2_with (first | ((with_reducible refine gate_dst (N := 2) rfl ?_); refine zBox 2 #[.int .i64 a0_0, .int .i64 a0_1, .int .i64 a0_2] 23 ?_; clear HB; intro gb1368 w4 BK1368 GE1368 HB; (try clear z1368_0 z1368_1 z1368_2 f1368_0 f1368_1 f1368_2); obtain ⟨z1368_0, z1368_1, z1368_2, f1368_0, f1368_1, f1368_2⟩ := cz3 BK1368))
  go_ret
  exact ⟨zE, zB⟩
 ·rw [if_neg c3] at H
  have c3b0 : decide (0 ≤ a1) = false := decide_eq_false c3
  clear c3
  obtain rfl := Option.some.inj H
  go_enter Try.func125, Try.ntmps125
  go_wp2_with (first | ((with_reducible refine gate_dst (N := 2) rfl ?_); refine zBox 2 #[.int .i64 a0_0, .int .i64 a0_1, .int .i64 a0_2] 23 ?_; clear HB; intro gb1368 w6 BK1368 GE1368 HB))
  go_ret
  exact ⟨zE, zB⟩
/-! ### barscanref05_elements: function 118 -/
def barscanref05_elements.l0 : Nat → List Int → Int → Int → Int → Int → Option (Bool)
 | 0, _, _, _, _, _ => none
 | k + 1, x1, x5, x1370000, x1370001, x1370002 => if x5 < (x1.length : Int) then (if 0 ≤ x5 then ((barscanref05_element.f x1370000 x1370001 x1370002 (rd x1 x5)).bind fun t1371 => (if t1371 = true then (barscanref05_elements.l0 k x1 (wrap64 (x5 + 1)) x1370000 x1370001 x1370002) else (some false))) else (none)) else (some true)
def barscanref05_elements.f (k : Nat) (a0_0 : Int) (a0_1 : Int) (a0_2 : Int) (l1 : List Int) : Option (Bool) := barscanref05_elements.l0 k l1 0 a0_0 a0_1 a0_2
theorem barscanref05_elements.mono_l : ∀ k, (∀ y0 y1 y2 y3 y4, LeO (barscanref05_elements.l0 k y0 y1 y2 y3 y4) (barscanref05_elements.l0 (k + 1) y0 y1 y2 y3 y4))
 | 0 => fun _ _ _ _ _ r h => by simp [barscanref05_elements.l0] at h
 | k + 1 => by
  have ih0 := barscanref05_elements.mono_l k
  ·intro y0 y1 y2 y3 y4
   unfold barscanref05_elements.l0
   exact zMo
theorem barscanref05_elements.mono : ∀ a0 a1 a2 a3 k, LeO (barscanref05_elements.f k a0 a1 a2 a3) (barscanref05_elements.f (k + 1) a0 a1 a2 a3) := by
 intro a0 a1 a2 a3 k
 have ih0 := barscanref05_elements.mono_l k
 unfold barscanref05_elements.f
 exact zMo
theorem barscanref05_elements.calls (k : Nat) (a0_0 : Int) (a0_1 : Int) (a0_2 : Int) (A1 : Option Addr) (c1 : Nat) (l1 : List Int) (r : Bool) (w : World) (hr1 : Kd.C (Kd.int .i64) w A1 l1.length l1) (hc1 : l1.length ≤ c1) (h : barscanref05_elements.f k a0_0 a0_1 a0_2 l1 = some r) :
  Calls Try.prog 118 #[.agg #[.int .i64 a0_0, .int .i64 a0_1, .int .i64 a0_2], .slice A1 l1.length c1] w fun e w' => e = .returned (.bool r) ∧ Below w.heap.size w w' := by
 have hu23 := Try.underlying23
 have HR1 := Aside0.mk hr1
 have HC1 := Aside0.mk hc1
 clear hr1 hc1
 have HB := Aside0.mk (Below.refl w.heap.size w)
 have H := h
 unfold barscanref05_elements.f at H
 clear h
 have H' := zA H
 clear H
 go_enter Try.func118, Try.ntmps118
 go_wp2_with (first | ((with_reducible refine gate_dst (N := 2) rfl ?_); refine zBox 2 #[.int .i64 a0_0, .int .i64 a0_1, .int .i64 a0_2] 23 ?_; clear HB; intro gb1369 w3 BK1369 GE1369 HB))
 go_loopg [5] k (fun kq v5 w' => ∃ (x5_1 : Int), v5 = .int .i64 x5_1 ∧ Aside0 (barscanref05_elements.l0 kq l1 x5_1 a0_0 a0_1 a0_2 = some r) ∧ Aside0 (kq ≤ k) ∧ Aside0 (w'.heap[gb1369]? = some (.cells #[.int .i64 a0_0, .int .i64 a0_1, .int .i64 a0_2] 23 (0, 0))) ∧ Aside0 (Below w.heap.size w w'))
 case atStart => exact ⟨(0), zR, H', ⟨Nat.le_refl _⟩, ⟨zK BK1369⟩, ⟨zB⟩⟩
 case round =>
  clear H'
  try clear c1
  try clear p2
  obtain ⟨x5_1, rfl, HA, HK1, BK1369, HB⟩ := hrel
  cases gk with
  | zero => exact absurd HA.out (by simp [barscanref05_elements.l0])
  | succ k1 =>
   have H := HA.out
   clear HA
   simp only [barscanref05_elements.l0] at H
   by_cases c4 : x5_1 < (l1.length : Int)
   ·rw [if_pos c4] at H
    have c4b0 : decide (x5_1 < (l1.length : Int)) = true := decide_eq_true c4
    clear c4
    by_cases c5 : 0 ≤ x5_1
    ·rw [if_pos c5] at H
     have c5b0 : decide (0 ≤ x5_1) = true := decide_eq_true c5
     clear c5
     obtain ⟨t1371, A6, H⟩ := zD H
     by_cases c7 : t1371 = true
     ·subst c7
      rw [if_pos rfl] at H
      have H' := zA H
      clear H
      try go_wp2
      replace BK1369 := Aside0.mk (blk_drew BK1369.out)
      replace HB := Aside0.mk (below_drew1 HB.out)
      have p1370 : 0 ≤ (x5_1 : Int) := of_decide_eq_true (by first | (with_reducible assumption) | assumption)
      have q1370 : x5_1 < (l1.length : Int) := of_decide_eq_true (by first | (with_reducible assumption) | assumption)
      obtain ⟨ad1370, e1370, hx1370_0⟩ := Kd.at_int HR1.out x5_1 p1370 q1370
      have hw1370_0 := hx1370_0
      cases e1370
      replace hx1370_0 := (HB.out.cell (World.block_lt_of_cell? w _ hx1370_0)).trans hx1370_0
      replace p1370 := eq_true p1370
      replace q1370 := eq_true q1370
      refine start_ (n := 7) (S := fun w' => w'.cell? ⟨gb1369, 0, none⟩ = some (.int .i64 a0_0) ∧ w'.cell? ⟨gb1369, 1, none⟩ = some (.int .i64 a0_1) ∧ w'.cell? ⟨gb1369, 2, none⟩ = some (.int .i64 a0_2) ∧ w'.cell? (ad1370.add (x5_1).toNat) = some (.int .i64 (rd l1 x5_1))) (ds := []) #[false, false, false, false, false, false, false] (by kernel_rfl) rfl rfl ⟨(blk_cell BK1369.out 0).trans rfl, (blk_cell BK1369.out 1).trans rfl, (blk_cell BK1369.out 2).trans rfl, ((HB.out.cell (World.block_lt_of_cell? w _ hw1370_0)).trans hw1370_0)⟩ (fun hHeld => ?_)
      generalize wr.drew = w8 at BK1369 HB hx1370_0 hHeld ⊢
      refine pU 1 (some 13) ?_
      refine pU 2 (some 14) ?_
      refine pU 3 (some 15) ?_
      refine tU 0 (some 12) hHeld ?_
      refine tU 4 (some 16) hHeld ?_
      refine oU 5 (some 17) (fun K hK => ?_)
      refine goes_ Try.func125 (by kernel_rfl) rfl #[.agg #[.int .i64 a0_0, .int .i64 a0_1, .int .i64 a0_2], .int .i64 (rd l1 x5_1)] (by rfl) rfl rfl zM ?_
      with_reducible refine (barscanref05_element.calls a0_0 a0_1 a0_2 (rd l1 x5_1) true _ A6.out).mono ?_
      rintro e w9 ⟨rfl, hb⟩
      refine ⟨_, rfl, ?_⟩
      replace BK1369 := bB BK1369 hb
      replace HB := bS hb
      (try clear hb)
      (try clear hb2)
      (try clear hk)
      (try clear hi)
      refine hK.out _ _ ⟨(blk_cell BK1369.out 0).trans rfl, (blk_cell BK1369.out 1).trans rfl, (blk_cell BK1369.out 2).trans rfl, ((HB.out.cell (World.block_lt_of_cell? w _ hw1370_0)).trans hw1370_0)⟩ (fun hHeld => ?_)
      clear hK K
      refine nU ?_
      refine pU 6 (some 18) ?_
      refine dU ?_
      try go_wp2
      go_roundg k1
      case measure => have := HK1.out; omega
      case rel => exact ⟨(wrap64 (x5_1 + 1)), zR, H', zH, ⟨zK BK1369⟩, ⟨zB⟩⟩
     ·replace c7 := Bool.eq_false_iff.mpr c7
      subst c7
      rw [if_neg (show ¬ (false = true) by decide)] at H
      obtain rfl := Option.some.inj H
      try go_wp2
      replace BK1369 := Aside0.mk (blk_drew BK1369.out)
      replace HB := Aside0.mk (below_drew1 HB.out)
      have p1370 : 0 ≤ (x5_1 : Int) := of_decide_eq_true (by first | (with_reducible assumption) | assumption)
      have q1370 : x5_1 < (l1.length : Int) := of_decide_eq_true (by first | (with_reducible assumption) | assumption)
      obtain ⟨ad1370, e1370, hx1370_0⟩ := Kd.at_int HR1.out x5_1 p1370 q1370
      have hw1370_0 := hx1370_0
      cases e1370
      replace hx1370_0 := (HB.out.cell (World.block_lt_of_cell? w _ hx1370_0)).trans hx1370_0
      replace p1370 := eq_true p1370
      replace q1370 := eq_true q1370
      refine start_ (n := 7) (S := fun w' => w'.cell? ⟨gb1369, 0, none⟩ = some (.int .i64 a0_0) ∧ w'.cell? ⟨gb1369, 1, none⟩ = some (.int .i64 a0_1) ∧ w'.cell? ⟨gb1369, 2, none⟩ = some (.int .i64 a0_2) ∧ w'.cell? (ad1370.add (x5_1).toNat) = some (.int .i64 (rd l1 x5_1))) (ds := []) #[false, false, false, false, false, false, false] (by kernel_rfl) rfl rfl ⟨(blk_cell BK1369.out 0).trans rfl, (blk_cell BK1369.out 1).trans rfl, (blk_cell BK1369.out 2).trans rfl, ((HB.out.cell (World.block_lt_of_cell? w _ hw1370_0)).trans hw1370_0)⟩ (fun hHeld => ?_)
      generalize wr.drew = w10 at BK1369 HB hx1370_0 hHeld ⊢
      refine pU 1 (some 13) ?_
      refine pU 2 (some 14) ?_
      refine pU 3 (some 15) ?_
      refine tU 0 (some 12) hHeld ?_
      refine tU 4 (some 16) hHeld ?_
      refine oU 5 (some 17) (fun K hK => ?_)
      refine goes_ Try.func125 (by kernel_rfl) rfl #[.agg #[.int .i64 a0_0, .int .i64 a0_1, .int .i64 a0_2], .int .i64 (rd l1 x5_1)] (by rfl) rfl rfl zM ?_
      with_reducible refine (barscanref05_element.calls a0_0 a0_1 a0_2 (rd l1 x5_1) false _ A6.out).mono ?_
      rintro e w11 ⟨rfl, hb⟩
      refine ⟨_, rfl, ?_⟩
      replace BK1369 := bB BK1369 hb
      replace HB := bS hb
      (try clear hb)
      (try clear hb2)
      (try clear hk)
      (try clear hi)
      refine hK.out _ _ ⟨(blk_cell BK1369.out 0).trans rfl, (blk_cell BK1369.out 1).trans rfl, (blk_cell BK1369.out 2).trans rfl, ((HB.out.cell (World.block_lt_of_cell? w _ hw1370_0)).trans hw1370_0)⟩ (fun hHeld => ?_)
      clear hK K
      refine nU ?_
      refine pU 6 (some 18) ?_
      refine dU ?_
      try go_wp2
      go_ret
      exact ⟨zE, zB⟩
    ·rw [if_neg c5] at H
     exact absurd H (by simp)
   ·rw [if_neg c4] at H
    have c4b0 : decide (x5_1 < (l1.length : Int)) = false := decide_eq_false c4
    clear c4
    obtain rfl := Option.some.inj H
    go_wp2
    go_ret
    exact ⟨zE, zB⟩
/-! ### barscanref05_Valid: function 82 -/
def barscanref05_Valid.f (k : Nat) (a0_0 : Int) (a0_1 : Int) (a0_2 : Int) (l1 : List Int) : Option (Bool) := (barscanref04_Valid.f k a0_0 a0_1 a0_2).bind fun t1373 => (if t1373 = true then (if (l1.length : Int) ≤ 4097 then ((barscanref05_elements.f k a0_0 a0_1 a0_2 l1).bind fun t1374 => (if t1374 = true then (if (l1.length : Int) = 0 then (some true) else (if 0 ≤ (wrap64 ((l1.length : Int) - 1)) then (if (wrap64 ((l1.length : Int) - 1)) < (l1.length : Int) then (some ((rd l1 (wrap64 ((l1.length : Int) - 1))) != 0)) else (none)) else (none))) else (some false))) else (some false)) else (some false))
theorem barscanref05_Valid.mono : ∀ a0 a1 a2 a3 k, LeO (barscanref05_Valid.f k a0 a1 a2 a3) (barscanref05_Valid.f (k + 1) a0 a1 a2 a3) := by
 intro a0 a1 a2 a3 k
 unfold barscanref05_Valid.f
 have m0_ := @barscanref04_Valid.mono
 have m1_ := @barscanref05_elements.mono
 exact zMo
theorem barscanref05_Valid.calls (k : Nat) (a0_0 : Int) (a0_1 : Int) (a0_2 : Int) (A1 : Option Addr) (c1 : Nat) (l1 : List Int) (r : Bool) (w : World) (hr1 : Kd.C (Kd.int .i64) w A1 l1.length l1) (hc1 : l1.length ≤ c1) (h : barscanref05_Valid.f k a0_0 a0_1 a0_2 l1 = some r) :
  Calls Try.prog 82 #[.agg #[.int .i64 a0_0, .int .i64 a0_1, .int .i64 a0_2], .slice A1 l1.length c1] w fun e w' => e = .returned (.bool r) ∧ Below w.heap.size w w' := by
 have hu23 := Try.underlying23
 have HR1 := Aside0.mk hr1
 have HC1 := Aside0.mk hc1
 clear hr1 hc1
 have HB := Aside0.mk (Below.refl w.heap.size w)
 have H := h
 unfold barscanref05_Valid.f at H
 clear h
 obtain ⟨t1373, A3, H⟩ := zD H
 by_cases c4 : t1373 = true
 ·subst c4
  rw [if_pos rfl] at H
  by_cases c5 : (l1.length : Int) ≤ 4097
  ·rw [if_pos c5] at H
   have c5b0 : decide ((l1.length : Int) ≤ 4097) = true := decide_eq_true c5
   have c5b1 : decide (l1.length ≤ 4097) = true := decide_eq_true (by omega)
   clear c5
   obtain ⟨t1374, A6, H⟩ := zD H
   by_cases c7 : t1374 = true
   ·subst c7
    rw [if_pos rfl] at H
    by_cases c8 : (l1.length : Int) = 0
    ·rw [if_pos c8] at H
     have c8b0 := beq_iff_eq.mpr c8
     have c8b1 := bne_eq_false_iff_eq.mpr c8
     clear c8
     obtain rfl := Option.some.inj H
     go_enter Try.func82, Try.ntmps82
     go_wp2_with (first | ((with_reducible refine gate_dst (N := 2) rfl ?_); refine zBox 2 #[.int .i64 a0_0, .int .i64 a0_1, .int .i64 a0_2] 23 ?_; clear HB; intro gb1372 w9 BK1372 GE1372 HB; (try clear z1372_0 z1372_1 z1372_2 f1372_0 f1372_1 f1372_2); obtain ⟨z1372_0, z1372_1, z1372_2, f1372_0, f1372_1, f1372_2⟩ := cz3 BK1372) | ((with_reducible refine gate_callee (f := 26) rfl ?_); refine gL (some 9) Try.func26 #[.agg #[.int .i64 a0_0, .int .i64 a0_1, .int .i64 a0_2]] ?_; (with_reducible refine zCall (barscanref04_Valid.calls k a0_0 a0_1 a0_2 true _ A3.out) ?_); intro w11 hb; replace BK1372 := bB BK1372 hb; replace HB := bS hb; (try clear hb); (try clear z1372_0 z1372_1 z1372_2 f1372_0 f1372_1 f1372_2); obtain ⟨z1372_0, z1372_1, z1372_2, f1372_0, f1372_1, f1372_2⟩ := cz3 BK1372) | (go_at_call 118; (with_reducible refine (barscanref05_elements.calls k a0_0 a0_1 a0_2 _ _ l1 true _ ?side1 ?side2 A6.out).mono ?_); (case side1 => exact zN HR1); (case side2 => exact HC1.out); rintro e w13 ⟨rfl, hb⟩; replace BK1372 := bB BK1372 hb; replace HB := bS hb; (try clear hb)))
     go_ret
     exact ⟨zE, zB⟩
    ·rw [if_neg c8] at H
     have c8b0 := beq_eq_false_iff_ne.mpr c8
     have c8b1 := bne_iff_ne.mpr c8
     have c8b2 : ¬ (l1 = []) := fun h_ => c8 (by rw [h_]; rfl)
     obtain ⟨ji14, hji14⟩ : ∃ j_ : Int, (wrap64 ((l1.length : Int) - 1)) = j_ := ⟨_, rfl⟩
     first | rw [hji14] at H | simp only [hji14] at H
     (try rw [hji14] at A3)
     (try rw [hji14] at A6)
     have hji14w : (IntKind.i64.wrap ((l1.length : Int) - 1)) = ji14 := (i64_w _).trans hji14
     by_cases c15 : 0 ≤ (ji14)
     ·rw [if_pos c15] at H
      have c15b0 : decide (0 ≤ (ji14)) = true := decide_eq_true c15
      clear c15
      by_cases c16 : (ji14) < (l1.length : Int)
      ·rw [if_pos c16] at H
       have c16b0 : decide ((ji14) < (l1.length : Int)) = true := decide_eq_true c16
       clear c16
       obtain rfl := Option.some.inj H
       go_enter Try.func82, Try.ntmps82
       go_wp2_with (first | ((with_reducible refine gate_dst (N := 2) rfl ?_); refine zBox 2 #[.int .i64 a0_0, .int .i64 a0_1, .int .i64 a0_2] 23 ?_; clear HB; intro gb1372 w17 BK1372 GE1372 HB; (try clear z1372_0 z1372_1 z1372_2 f1372_0 f1372_1 f1372_2); obtain ⟨z1372_0, z1372_1, z1372_2, f1372_0, f1372_1, f1372_2⟩ := cz3 BK1372) | ((with_reducible refine gate_callee (f := 26) rfl ?_); refine gL (some 9) Try.func26 #[.agg #[.int .i64 a0_0, .int .i64 a0_1, .int .i64 a0_2]] ?_; (with_reducible refine zCall (barscanref04_Valid.calls k a0_0 a0_1 a0_2 true _ A3.out) ?_); intro w19 hb; replace BK1372 := bB BK1372 hb; replace HB := bS hb; (try clear hb); (try clear z1372_0 z1372_1 z1372_2 f1372_0 f1372_1 f1372_2); obtain ⟨z1372_0, z1372_1, z1372_2, f1372_0, f1372_1, f1372_2⟩ := cz3 BK1372) | (go_at_call 118; (with_reducible refine (barscanref05_elements.calls k a0_0 a0_1 a0_2 _ _ l1 true _ ?side1 ?side2 A6.out).mono ?_); (case side1 => exact zN HR1); (case side2 => exact HC1.out); rintro e w21 ⟨rfl, hb⟩; replace BK1372 := bB BK1372 hb; replace HB := bS hb; (try clear hb); have p1375 : 0 ≤ ((ji14) : Int) := of_decide_eq_true (by first | (with_reducible assumption) | assumption); have q1375 : (ji14) < (l1.length : Int) := of_decide_eq_true (by first | (with_reducible assumption) | assumption); obtain ⟨ad1375, e1375, hx1375_0⟩ := Kd.at_int HR1.out (ji14) p1375 q1375; cases e1375; replace hx1375_0 := (HB.out.cell (World.block_lt_of_cell? w _ hx1375_0)).trans hx1375_0; replace p1375 := eq_true p1375; replace q1375 := eq_true q1375))
       go_ret
       exact ⟨by first | rfl | (simp [errW_none, errW_some] <;> rfl) | (simp only [← hji14]; first | rfl | (simp [errW_none, errW_some] <;> rfl)) | (simp [*, errW_none, errW_some] <;> rfl), zB⟩
      ·rw [if_neg c16] at H
       exact absurd H (by simp)
     ·rw [if_neg c15] at H
      exact absurd H (by simp)
   ·replace c7 := Bool.eq_false_iff.mpr c7
    subst c7
    rw [if_neg (show ¬ (false = true) by decide)] at H
    obtain rfl := Option.some.inj H
    go_enter Try.func82, Try.ntmps82
    go_wp2_with (first | ((with_reducible refine gate_dst (N := 2) rfl ?_); refine zBox 2 #[.int .i64 a0_0, .int .i64 a0_1, .int .i64 a0_2] 23 ?_; clear HB; intro gb1372 w22 BK1372 GE1372 HB; (try clear z1372_0 z1372_1 z1372_2 f1372_0 f1372_1 f1372_2); obtain ⟨z1372_0, z1372_1, z1372_2, f1372_0, f1372_1, f1372_2⟩ := cz3 BK1372) | ((with_reducible refine gate_callee (f := 26) rfl ?_); refine gL (some 9) Try.func26 #[.agg #[.int .i64 a0_0, .int .i64 a0_1, .int .i64 a0_2]] ?_; (with_reducible refine zCall (barscanref04_Valid.calls k a0_0 a0_1 a0_2 true _ A3.out) ?_); intro w24 hb; replace BK1372 := bB BK1372 hb; replace HB := bS hb; (try clear hb); (try clear z1372_0 z1372_1 z1372_2 f1372_0 f1372_1 f1372_2); obtain ⟨z1372_0, z1372_1, z1372_2, f1372_0, f1372_1, f1372_2⟩ := cz3 BK1372) | (go_at_call 118; (with_reducible refine (barscanref05_elements.calls k a0_0 a0_1 a0_2 _ _ l1 false _ ?side1 ?side2 A6.out).mono ?_); (case side1 => exact zN HR1); (case side2 => exact HC1.out); rintro e w26 ⟨rfl, hb⟩; replace BK1372 := bB BK1372 hb; replace HB := bS hb; (try clear hb)))
    go_ret
    exact ⟨zE, zB⟩
  ·rw [if_neg c5] at H
   have c5b0 : decide ((l1.length : Int) ≤ 4097) = false := decide_eq_false c5
   have c5b1 : decide (l1.length ≤ 4097) = false := decide_eq_false (by omega)
   clear c5
   obtain rfl := Option.some.inj H
   go_enter Try.func82, Try.ntmps82
   go_wp2_with (first | ((with_reducible refine gate_dst (N := 2) rfl ?_); refine zBox 2 #[.int .i64 a0_0, .int .i64 a0_1, .int .i64 a0_2] 23 ?_; clear HB; intro gb1372 w27 BK1372 GE1372 HB; (try clear z1372_0 z1372_1 z1372_2 f1372_0 f1372_1 f1372_2); obtain ⟨z1372_0, z1372_1, z1372_2, f1372_0, f1372_1, f1372_2⟩ := cz3 BK1372) | ((with_reducible refine gate_callee (f := 26) rfl ?_); refine gL (some 9) Try.func26 #[.agg #[.int .i64 a0_0, .int .i64 a0_1, .int .i64 a0_2]] ?_; (with_reducible refine zCall (barscanref04_Valid.calls k a0_0 a0_1 a0_2 true _ A3.out) ?_); intro w29 hb; replace BK1372 := bB BK1372 hb; replace HB := bS hb; (try clear hb)))
   go_ret
   exact ⟨zE, zB⟩
 ·replace c4 := Bool.eq_false_iff.mpr c4
  subst c4
  rw [if_neg (show ¬ (false = true) by decide)] at H
  obtain rfl := Option.some.inj H
  go_enter Try.func82, Try.ntmps82
  go_wp2_with (first | ((with_reducible refine gate_dst (N := 2) rfl ?_); refine zBox 2 #[.int .i64 a0_0, .int .i64 a0_1, .int .i64 a0_2] 23 ?_; clear HB; intro gb1372 w30 BK1372 GE1372 HB; (try clear z1372_0 z1372_1 z1372_2 f1372_0 f1372_1 f1372_2); obtain ⟨z1372_0, z1372_1, z1372_2, f1372_0, f1372_1, f1372_2⟩ := cz3 BK1372) | ((with_reducible refine gate_callee (f := 26) rfl ?_); refine gL (some 9) Try.func26 #[.agg #[.int .i64 a0_0, .int .i64 a0_1, .int .i64 a0_2]] ?_; (with_reducible refine zCall (barscanref04_Valid.calls k a0_0 a0_1 a0_2 false _ A3.out) ?_); intro w32 hb; replace BK1372 := bB BK1372 hb; replace HB := bS hb; (try clear hb)))
  go_ret
  exact ⟨zE, zB⟩
/-! ### barscanref05_Trim: function 83 -/
def barscanref05_Trim.l0 : Nat → List Int → Int → Option (List Int)
 | 0, _, _ => none
 | k + 1, x0, x3 => if x3 > 0 then (if 0 ≤ (wrap64 (x3 - 1)) then (if (wrap64 (x3 - 1)) < (x0.length : Int) then (if (rd x0 (wrap64 (x3 - 1))) = 0 then (barscanref05_Trim.l0 k x0 (wrap64 (x3 - 1))) else ((some (([] : List Int) : List Int)).bind fun y1377 => (if 0 ≤ x3 then (if x3 ≤ (x0.length : Int) then (if y1377.length + (x0.take (x3 : Int).toNat).length < 17592186044416 then (some (y1377 ++ (x0.take (x3 : Int).toNat))) else (none)) else (none)) else (none)))) else (none)) else (none)) else ((some (([] : List Int) : List Int)).bind fun y1384 => (if 0 ≤ x3 then (if x3 ≤ (x0.length : Int) then (if y1384.length + (x0.take (x3 : Int).toNat).length < 17592186044416 then (some (y1384 ++ (x0.take (x3 : Int).toNat))) else (none)) else (none)) else (none)))
def barscanref05_Trim.f (k : Nat) (l0 : List Int) : Option (List Int) := barscanref05_Trim.l0 k l0 (l0.length : Int)
theorem barscanref05_Trim.mono_l : ∀ k, (∀ y0 y1, LeO (barscanref05_Trim.l0 k y0 y1) (barscanref05_Trim.l0 (k + 1) y0 y1))
 | 0 => fun _ _ r h => by simp [barscanref05_Trim.l0] at h
 | k + 1 => by
  have ih0 := barscanref05_Trim.mono_l k
  ·intro y0 y1
   unfold barscanref05_Trim.l0
   exact zMo
theorem barscanref05_Trim.mono : ∀ a0 k, LeO (barscanref05_Trim.f k a0) (barscanref05_Trim.f (k + 1) a0) := by
 intro a0 k
 have ih0 := barscanref05_Trim.mono_l k
 unfold barscanref05_Trim.f
 exact zMo
theorem barscanref05_Trim.calls (k : Nat) (A0 : Option Addr) (c0 : Nat) (l0 : List Int) (r : List Int) (w : World) (hr0 : Kd.C (Kd.int .i64) w A0 l0.length l0) (hc0 : l0.length ≤ c0) (h : barscanref05_Trim.f k l0 = some r) :
  Calls Try.prog 83 #[.slice A0 l0.length c0] w fun e w' => ∃ v0_ : Value, e = .returned (v0_) ∧ Kd.R (Kd.int .i64) 3 w' w.heap.size (fun _ => True) v0_ r ∧ Below w.heap.size w w' := by
 have HR0 := Aside0.mk hr0
 have HC0 := Aside0.mk hc0
 clear hr0 hc0
 have HB := Aside0.mk (Below.refl w.heap.size w)
 have H := h
 unfold barscanref05_Trim.f at H
 clear h
 have H' := zA H
 clear H
 go_enter Try.func83, Try.ntmps83
 go_wp2
 go_loopg [3] k (fun kq v3 w' => ∃ (x3_1 : Int), v3 = .int .i64 x3_1 ∧ Aside0 (barscanref05_Trim.l0 kq l0 x3_1 = some r) ∧ Aside0 (kq ≤ k) ∧ Aside0 (Below w.heap.size w w'))
 case atStart => exact ⟨((l0.length : Int)), zR, H', ⟨Nat.le_refl _⟩, ⟨zB⟩⟩
 case round =>
  clear H'
  obtain ⟨x3_1, rfl, HA, HK1, HB⟩ := hrel
  cases gk with
  | zero => exact absurd HA.out (by simp [barscanref05_Trim.l0])
  | succ k1 =>
   have H := HA.out
   clear HA
   simp only [barscanref05_Trim.l0] at H
   by_cases c2 : x3_1 > 0
   ·rw [if_pos c2] at H
    have c2b0 : decide (0 < x3_1) = true := decide_eq_true c2
    clear c2
    obtain ⟨ji3, hji3⟩ : ∃ j_ : Int, (wrap64 (x3_1 - 1)) = j_ := ⟨_, rfl⟩
    first | rw [hji3] at H | simp only [hji3] at H
    have hji3w : (IntKind.i64.wrap (x3_1 - 1)) = ji3 := (i64_w _).trans hji3
    by_cases c4 : 0 ≤ (ji3)
    ·rw [if_pos c4] at H
     have c4b0 : decide (0 ≤ (ji3)) = true := decide_eq_true c4
     clear c4
     by_cases c5 : (ji3) < (l0.length : Int)
     ·rw [if_pos c5] at H
      have c5b0 : decide ((ji3) < (l0.length : Int)) = true := decide_eq_true c5
      clear c5
      by_cases c6 : (rd l0 (ji3)) = 0
      ·rw [if_pos c6] at H
       have c6b0 := beq_iff_eq.mpr c6
       have c6b1 := bne_eq_false_iff_eq.mpr c6
       clear c6
       have H' := zA H
       clear H
       have p1376 : 0 ≤ ((ji3) : Int) := of_decide_eq_true (by first | (with_reducible assumption) | assumption)
       have q1376 : (ji3) < (l0.length : Int) := of_decide_eq_true (by first | (with_reducible assumption) | assumption)
       obtain ⟨ad1376, e1376, hx1376_0⟩ := Kd.at_int HR0.out (ji3) p1376 q1376
       cases e1376
       replace hx1376_0 := (HB.out.cell (World.block_lt_of_cell? w _ hx1376_0)).trans hx1376_0
       replace p1376 := eq_true p1376
       replace q1376 := eq_true q1376
       go_wp2
       go_roundg k1
       case measure => have := HK1.out; omega
       case rel => exact ⟨(ji3), (by first | rfl | (simp; done) | (simp only [← hji3] <;> (first | rfl | simp)) | (simp [*]; done)), H', zH, ⟨zB⟩⟩
      ·rw [if_neg c6] at H
       have c6b0 := beq_eq_false_iff_ne.mpr c6
       have c6b1 := bne_iff_ne.mpr c6
       obtain ⟨y1377, hy1377⟩ : ∃ y_ : List Int, y_ = (([] : List Int)) := ⟨_, rfl⟩
       replace H : (if 0 ≤ x3_1 then (if x3_1 ≤ (l0.length : Int) then (if y1377.length + (l0.take (x3_1 : Int).toNat).length < 17592186044416 then (some (y1377 ++ (l0.take (x3_1 : Int).toNat))) else (none)) else (none)) else (none)) = some r := by first | (rw [hy1377]; with_reducible exact H) | (have H2_ := (Option.bind_some _ _).symm.trans H; rw [hy1377]; with_reducible exact H2_) | (have H2_ := (Option.bind_some _ _).symm.trans H; with_reducible exact H2_) | with_reducible exact H | (rw [hy1377]; exact H) | exact H
       have Ny1377 := Aside0.mk hy1377
       clear hy1377
       by_cases c7 : 0 ≤ x3_1
       ·rw [if_pos c7] at H
        have c7b0 := eq_true c7
        have c7b1 : decide (0 ≤ x3_1) = true := decide_eq_true c7
        clear c7
        by_cases c8 : x3_1 ≤ (l0.length : Int)
        ·rw [if_pos c8] at H
         have c8b0 := eq_true c8
         have c8b1 : decide (x3_1 ≤ (l0.length : Int)) = true := decide_eq_true c8
         clear c8
         by_cases c9 : y1377.length + (l0.take (x3_1 : Int).toNat).length < 17592186044416
         ·rw [if_pos c9] at H
          have LMc9 := Aside0.mk c9
          clear c9
          obtain ⟨y1381, hy1381⟩ : ∃ y_ : List Int, y_ = (y1377 ++ (l0.take (x3_1 : Int).toNat)) := ⟨_, rfl⟩
          replace H : (some y1381) = some r := by first | (rw [hy1381]; with_reducible exact H) | (have H2_ := (Option.bind_some _ _).symm.trans H; rw [hy1381]; with_reducible exact H2_) | (have H2_ := (Option.bind_some _ _).symm.trans H; with_reducible exact H2_) | with_reducible exact H | (rw [hy1381]; exact H) | exact H
          have Ny1381 := Aside0.mk hy1381
          clear hy1381
          obtain rfl := Option.some.inj H
          have p1376 : 0 ≤ ((ji3) : Int) := of_decide_eq_true (by first | (with_reducible assumption) | assumption)
          have q1376 : (ji3) < (l0.length : Int) := of_decide_eq_true (by first | (with_reducible assumption) | assumption)
          obtain ⟨ad1376, e1376, hx1376_0⟩ := Kd.at_int HR0.out (ji3) p1376 q1376
          cases e1376
          replace hx1376_0 := (HB.out.cell (World.block_lt_of_cell? w _ hx1376_0)).trans hx1376_0
          replace p1376 := eq_true p1376
          replace q1376 := eq_true q1376
          go_wp2_with (first | ((with_reducible refine gate_dst (N := 18) rfl ?_); refine Kd.R_lit (Kd.int .i64) _ 3 ?hg (N := 18) ?hd (xs := ([] : List Int)) (inner := []) (ok := fun _ => True) (okp := fun _ => True) ?hr ?hp (fun _ hk => hk) trivial (Below.refl _ _) (Nat.le_refl _) (by simp) ?_; (case hd => rfl); (case hg => rfl); (case hr => first | (go_simp; done) | (go_simp; rfl)); (case hp => exact (Reps.none _ _)); intro v1378 w10 ho11 hb hg_ hnew_; clear hg_ hnew_; (first | rw [← Ny1377.out] at ho11 | (simp only [Int.reduceToNat] at ho11; rw [← Ny1377.out] at ho11)); have HO1379 := Aside0.mk (Kd.R_lower ho11 (below_size zB)); replace HB := bS hb; clear hb ho11; obtain ⟨i012, hi012, _, hsz12, _⟩ := info_parts info3; obtain ⟨hcut12, hA12, hC12⟩ := print_take_of (P := Try.prog) (Value.int .i64) 0 45 3 .i64 Try.underlying45 hi012 hsz12 (some ad1376) c0 l0 x3_1 (of_decide_eq_true (by first | (with_reducible assumption) | assumption)) (of_decide_eq_true (by first | (with_reducible assumption) | assumption)) HC0.out; have HR1380 := Aside0.mk (show Kd.C (Kd.int .i64) _ _ _ _ from Kd.C_of_reads (h1 := fun _ => rfl) (hA12 _ (Kd.reads_of_C HR0.out))); have HC1380 := Aside0.mk hC12; clear hA12 hC12 hi012 hsz12) | ((with_reducible refine gate_builtin (b := .append) (xs := #[.tmp 18, .tmp 21]) rfl ?_); at_builtin; refine Kd.R_append_rows (Kd.int .i64) (w0 := w) w.heap.size rfl (.tmp 18) (.tmp 21) 45 3 (.int .i64 0) 8 rfl Try.underlying45 info3 rfl (by decide) (by omega) v1378 y1377 (l0.take (x3_1 : Int).toNat) _ _ _ (fun _ => True) (fun _ => False) rfl rfl ?aO ?aR (fun _ _ h => h) (fun _ h => h.elim) ?aF ?aB ?aS ?aL ?_; (case aR => first | (have hc_ := (Kd.C_below HR1380.out HB.out); rw [show (l0.take (x3_1 : Int).toNat).length = x3_1.toNat from (by rw [List.length_take]; have h_ : (x3_1 : Int) ≤ (l0.length : Int) := of_decide_eq_true (by first | (with_reducible assumption) | assumption); omega)] at hc_; exact hc_) | (rw [← show (l0.take (x3_1 : Int).toNat).length = x3_1.toNat from (by rw [List.length_take]; have h_ : (x3_1 : Int) ≤ (l0.length : Int) := of_decide_eq_true (by first | (with_reducible assumption) | assumption); omega)]; exact zN HR1380) | (exact zN HR1380)); (case aB => exact zB); (case aF => exact (fun _ _ => trivial)); (case aO => exact (zO HO1379)); (case aS => exact (below_size zB)); (case aL => have := LMc9.out; have hlx_ := (show (l0.take (x3_1 : Int).toNat).length = x3_1.toNat from (by rw [List.length_take]; have h_ : (x3_1 : Int) ≤ (l0.length : Int) := of_decide_eq_true (by first | (with_reducible assumption) | assumption); omega)); omega); intro v1382 w13 ho hb hg hat; rw [← Ny1381.out] at ho; replace HB := Aside0.mk (hb); have HO1383 := Aside0.mk (ho); clear HO1379; clear ho hb hg hat))
          go_ret
          exact ⟨_, by first | rfl | (simp [errW_none, errW_some] <;> rfl) | (simp only [← hji3]; first | rfl | (simp [errW_none, errW_some] <;> rfl)) | (simp [*, errW_none, errW_some] <;> rfl), by (with_reducible repeat (first | apply Kd.R_alloc | apply Kd.R_drewN | apply Kd.R_drew)); exact HO1383.out, zB⟩
         ·rw [if_neg c9] at H
          exact absurd H (by simp)
        ·rw [if_neg c8] at H
         exact absurd H (by simp)
       ·rw [if_neg c7] at H
        exact absurd H (by simp)
     ·rw [if_neg c5] at H
      exact absurd H (by simp)
    ·rw [if_neg c4] at H
     exact absurd H (by simp)
   ·rw [if_neg c2] at H
    have c2b0 : decide (0 < x3_1) = false := decide_eq_false c2
    clear c2
    obtain ⟨y1384, hy1384⟩ : ∃ y_ : List Int, y_ = (([] : List Int)) := ⟨_, rfl⟩
    replace H : (if 0 ≤ x3_1 then (if x3_1 ≤ (l0.length : Int) then (if y1384.length + (l0.take (x3_1 : Int).toNat).length < 17592186044416 then (some (y1384 ++ (l0.take (x3_1 : Int).toNat))) else (none)) else (none)) else (none)) = some r := by first | (rw [hy1384]; with_reducible exact H) | (have H2_ := (Option.bind_some _ _).symm.trans H; rw [hy1384]; with_reducible exact H2_) | (have H2_ := (Option.bind_some _ _).symm.trans H; with_reducible exact H2_) | with_reducible exact H | (rw [hy1384]; exact H) | exact H
    have Ny1384 := Aside0.mk hy1384
    clear hy1384
    by_cases c14 : 0 ≤ x3_1
    ·rw [if_pos c14] at H
     have c14b0 := eq_true c14
     have c14b1 : decide (0 ≤ x3_1) = true := decide_eq_true c14
     clear c14
     by_cases c15 : x3_1 ≤ (l0.length : Int)
     ·rw [if_pos c15] at H
      have c15b0 := eq_true c15
      have c15b1 : decide (x3_1 ≤ (l0.length : Int)) = true := decide_eq_true c15
      clear c15
      by_cases c16 : y1384.length + (l0.take (x3_1 : Int).toNat).length < 17592186044416
      ·rw [if_pos c16] at H
       have LMc16 := Aside0.mk c16
       clear c16
       obtain ⟨y1388, hy1388⟩ : ∃ y_ : List Int, y_ = (y1384 ++ (l0.take (x3_1 : Int).toNat)) := ⟨_, rfl⟩
       replace H : (some y1388) = some r := by first | (rw [hy1388]; with_reducible exact H) | (have H2_ := (Option.bind_some _ _).symm.trans H; rw [hy1388]; with_reducible exact H2_) | (have H2_ := (Option.bind_some _ _).symm.trans H; with_reducible exact H2_) | with_reducible exact H | (rw [hy1388]; exact H) | exact H
       have Ny1388 := Aside0.mk hy1388
       clear hy1388
       obtain rfl := Option.some.inj H
       go_wp2_with (first | ((with_reducible refine gate_dst (N := 18) rfl ?_); refine Kd.R_lit (Kd.int .i64) _ 3 ?hg (N := 18) ?hd (xs := ([] : List Int)) (inner := []) (ok := fun _ => True) (okp := fun _ => True) ?hr ?hp (fun _ hk => hk) trivial (Below.refl _ _) (Nat.le_refl _) (by simp) ?_; (case hd => rfl); (case hg => rfl); (case hr => first | (go_simp; done) | (go_simp; rfl)); (case hp => exact (Reps.none _ _)); intro v1385 w17 ho18 hb hg_ hnew_; clear hg_ hnew_; (first | rw [← Ny1384.out] at ho18 | (simp only [Int.reduceToNat] at ho18; rw [← Ny1384.out] at ho18)); have HO1386 := Aside0.mk (Kd.R_lower ho18 (below_size zB)); replace HB := bS hb; clear hb ho18; obtain ⟨i019, hi019, _, hsz19, _⟩ := info_parts info3; obtain ⟨hcut19, hA19, hC19⟩ := print_take_of (P := Try.prog) (Value.int .i64) 0 45 3 .i64 Try.underlying45 hi019 hsz19 A0 c0 l0 x3_1 (of_decide_eq_true (by first | (with_reducible assumption) | assumption)) (of_decide_eq_true (by first | (with_reducible assumption) | assumption)) HC0.out; have HR1387 := Aside0.mk (show Kd.C (Kd.int .i64) _ _ _ _ from Kd.C_of_reads (h1 := fun _ => rfl) (hA19 _ (Kd.reads_of_C HR0.out))); have HC1387 := Aside0.mk hC19; clear hA19 hC19 hi019 hsz19) | ((with_reducible refine gate_builtin (b := .append) (xs := #[.tmp 18, .tmp 21]) rfl ?_); at_builtin; refine Kd.R_append_rows (Kd.int .i64) (w0 := w) w.heap.size rfl (.tmp 18) (.tmp 21) 45 3 (.int .i64 0) 8 rfl Try.underlying45 info3 rfl (by decide) (by omega) v1385 y1384 (l0.take (x3_1 : Int).toNat) _ _ _ (fun _ => True) (fun _ => False) rfl rfl ?aO ?aR (fun _ _ h => h) (fun _ h => h.elim) ?aF ?aB ?aS ?aL ?_; (case aR => first | (have hc_ := (Kd.C_below HR1387.out HB.out); rw [show (l0.take (x3_1 : Int).toNat).length = x3_1.toNat from (by rw [List.length_take]; have h_ : (x3_1 : Int) ≤ (l0.length : Int) := of_decide_eq_true (by first | (with_reducible assumption) | assumption); omega)] at hc_; exact hc_) | (rw [← show (l0.take (x3_1 : Int).toNat).length = x3_1.toNat from (by rw [List.length_take]; have h_ : (x3_1 : Int) ≤ (l0.length : Int) := of_decide_eq_true (by first | (with_reducible assumption) | assumption); omega)]; exact zN HR1387) | (exact zN HR1387)); (case aB => exact zB); (case aF => exact (fun _ _ => trivial)); (case aO => exact (zO HO1386)); (case aS => exact (below_size zB)); (case aL => have := LMc16.out; have hlx_ := (show (l0.take (x3_1 : Int).toNat).length = x3_1.toNat from (by rw [List.length_take]; have h_ : (x3_1 : Int) ≤ (l0.length : Int) := of_decide_eq_true (by first | (with_reducible assumption) | assumption); omega)); omega); intro v1389 w20 ho hb hg hat; rw [← Ny1388.out] at ho; replace HB := Aside0.mk (hb); have HO1390 := Aside0.mk (ho); clear HO1386; clear ho hb hg hat))
       go_ret
       exact ⟨_, zE, by (with_reducible repeat (first | apply Kd.R_alloc | apply Kd.R_drewN | apply Kd.R_drew)); exact HO1390.out, zB⟩
      ·rw [if_neg c16] at H
       exact absurd H (by simp)
     ·rw [if_neg c15] at H
      exact absurd H (by simp)
    ·rw [if_neg c14] at H
     exact absurd H (by simp)
/-! ### barscanref05_plus: function 110 -/
def barscanref05_plus.f (a0_0 : Int) (a0_1 : Int) (a0_2 : Int) (a1 : Int) (a2 : Int) : Option (Int) := (barscanref04_Plus.f a0_0 a0_1 a0_2 a1 a2).bind fun t1392 => (some t1392)
theorem barscanref05_plus.calls (a0_0 : Int) (a0_1 : Int) (a0_2 : Int) (a1 : Int) (a2 : Int) (r : Int) (w : World) (h : barscanref05_plus.f a0_0 a0_1 a0_2 a1 a2 = some r) :
  Calls Try.prog 110 #[.agg #[.int .i64 a0_0, .int .i64 a0_1, .int .i64 a0_2], .int .i64 a1, .int .i64 a2] w fun e w' => e = .returned (.int .i64 r) ∧ Below w.heap.size w w' := by
 have hu23 := Try.underlying23
 have HB := Aside0.mk (Below.refl w.heap.size w)
 have H := h
 unfold barscanref05_plus.f at H
 clear h
 obtain ⟨t1392, A4, H⟩ := zD H
 obtain rfl := Option.some.inj H
 go_enter Try.func110, Try.ntmps110
 go_wp2_with (first | ((with_reducible refine gate_dst (N := 3) rfl ?_); refine zBox 3 #[.int .i64 a0_0, .int .i64 a0_1, .int .i64 a0_2] 23 ?_; clear HB; intro gb1391 w5 BK1391 GE1391 HB; (try clear z1391_0 z1391_1 z1391_2 f1391_0 f1391_1 f1391_2); obtain ⟨z1391_0, z1391_1, z1391_2, f1391_0, f1391_1, f1391_2⟩ := cz3 BK1391) | ((with_reducible refine gate_callee (f := 97) rfl ?_); refine gL (some 10) Try.func97 #[.agg #[.int .i64 a0_0, .int .i64 a0_1, .int .i64 a0_2], .int .i64 a1, .int .i64 a2] ?_; (with_reducible refine zCall (barscanref04_Plus.calls a0_0 a0_1 a0_2 a1 a2 t1392 _ A4.out) ?_); intro w7 hb; replace BK1391 := bB BK1391 hb; replace HB := bS hb; (try clear hb)))
 go_ret
 exact ⟨zE, zB⟩
/-! ### barscanref05_times: function 111 -/
def barscanref05_times.f (k : Nat) (a0_0 : Int) (a0_1 : Int) (a0_2 : Int) (a1 : Int) (a2 : Int) : Option (Int) := if a1 = 0 then (some 0) else (if a2 = 0 then (some 0) else ((barscanref04_Times.f k a0_0 a0_1 a0_2 a1 a2).bind fun t1394 => (some t1394)))
theorem barscanref05_times.mono : ∀ a0 a1 a2 a3 a4 k, LeO (barscanref05_times.f k a0 a1 a2 a3 a4) (barscanref05_times.f (k + 1) a0 a1 a2 a3 a4) := by
 intro a0 a1 a2 a3 a4 k
 unfold barscanref05_times.f
 have m0_ := @barscanref04_Times.mono
 exact zMo
theorem barscanref05_times.calls (k : Nat) (a0_0 : Int) (a0_1 : Int) (a0_2 : Int) (a1 : Int) (a2 : Int) (r : Int) (w : World) (h : barscanref05_times.f k a0_0 a0_1 a0_2 a1 a2 = some r) :
  Calls Try.prog 111 #[.agg #[.int .i64 a0_0, .int .i64 a0_1, .int .i64 a0_2], .int .i64 a1, .int .i64 a2] w fun e w' => e = .returned (.int .i64 r) ∧ Below w.heap.size w w' := by
 have hu23 := Try.underlying23
 have HB := Aside0.mk (Below.refl w.heap.size w)
 have H := h
 unfold barscanref05_times.f at H
 clear h
 by_cases c4 : a1 = 0
 ·rw [if_pos c4] at H
  have c4b0 := beq_iff_eq.mpr c4
  have c4b1 := bne_eq_false_iff_eq.mpr c4
  clear c4
  obtain rfl := Option.some.inj H
  go_enter Try.func111, Try.ntmps111
  go_wp2_with (first | ((with_reducible refine gate_dst (N := 3) rfl ?_); refine zBox 3 #[.int .i64 a0_0, .int .i64 a0_1, .int .i64 a0_2] 23 ?_; clear HB; intro gb1393 w5 BK1393 GE1393 HB))
  go_ret
  exact ⟨zE, zB⟩
 ·rw [if_neg c4] at H
  have c4b0 := beq_eq_false_iff_ne.mpr c4
  have c4b1 := bne_iff_ne.mpr c4
  by_cases c6 : a2 = 0
  ·rw [if_pos c6] at H
   have c6b0 := beq_iff_eq.mpr c6
   have c6b1 := bne_eq_false_iff_eq.mpr c6
   clear c6
   obtain rfl := Option.some.inj H
   go_enter Try.func111, Try.ntmps111
   go_wp2_with (first | ((with_reducible refine gate_dst (N := 3) rfl ?_); refine zBox 3 #[.int .i64 a0_0, .int .i64 a0_1, .int .i64 a0_2] 23 ?_; clear HB; intro gb1393 w7 BK1393 GE1393 HB))
   go_ret
   exact ⟨zE, zB⟩
  ·rw [if_neg c6] at H
   have c6b0 := beq_eq_false_iff_ne.mpr c6
   have c6b1 := bne_iff_ne.mpr c6
   obtain ⟨t1394, A8, H⟩ := zD H
   obtain rfl := Option.some.inj H
   go_enter Try.func111, Try.ntmps111
   go_wp2_with (first | ((with_reducible refine gate_dst (N := 3) rfl ?_); refine zBox 3 #[.int .i64 a0_0, .int .i64 a0_1, .int .i64 a0_2] 23 ?_; clear HB; intro gb1393 w9 BK1393 GE1393 HB; (try clear z1393_0 z1393_1 z1393_2 f1393_0 f1393_1 f1393_2); obtain ⟨z1393_0, z1393_1, z1393_2, f1393_0, f1393_1, f1393_2⟩ := cz3 BK1393) | ((with_reducible refine gate_callee (f := 96) rfl ?_); refine gL (some 16) Try.func96 #[.agg #[.int .i64 a0_0, .int .i64 a0_1, .int .i64 a0_2], .int .i64 a1, .int .i64 a2] ?_; (with_reducible refine zCall (barscanref04_Times.calls k a0_0 a0_1 a0_2 a1 a2 t1394 _ A8.out) ?_); intro w11 hb; replace BK1393 := bB BK1393 hb; replace HB := bS hb; (try clear hb)))
   go_ret
   exact ⟨zE, zB⟩
end Go.Proofs.Ytlhaclammaaabaa.Pg
