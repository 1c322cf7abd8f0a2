-- Written by a program of this session over the print of the kit.
import Derived.Test.YtlhaclammaaabaaY
import Derived.Test.YtlhaclammaaabaaB0
import Derived.Test.YtlhaclammaaabaaB1
namespace Go.Proofs.Ytlhaclammaaabaa.Pg
open Go.RowKit Go.Proofs.YtlhaclammaaabaaW.PrintWords Go.Proofs.YtlhaclammaaabaaW.PrintLast Go.Proofs.YtlhaclammaaabaaW.PrintMore
attribute [local go_sem] max2_int min2_int max_two min_two max_three min_three max_four min_four
set_option linter.unusedVariables false
set_option maxHeartbeats 8000000
set_option maxRecDepth 100000
set_option linter.unusedSimpArgs false
/-! ### galois_Order: function 28 -/
def galois_Order.f (k : Nat) (a0_0 : Int) (a0_1 : Int) (a0_2 : Int) (a1 : Int) : Option (Int × Int) := (galois_member.f k a0_0 a0_1 a0_2 (([a1] : List Int))).bind fun t228 => (if t228 = true then (if a1 = 0 then (some (0, 12)) else ((galois_order.f k a0_0 a0_1 a0_2 a1).bind fun t229 => (some (t229, 0)))) else (some (0, 1)))
theorem galois_Order.mono : ∀ a0 a1 a2 a3 k, LeO (galois_Order.f k a0 a1 a2 a3) (galois_Order.f (k + 1) a0 a1 a2 a3) := by
 intro a0 a1 a2 a3 k
 unfold galois_Order.f
 have m0_ := @galois_member.mono
 have m1_ := @galois_order.mono
 exact zMo
theorem galois_Order.calls (k : Nat) (a0_0 : Int) (a0_1 : Int) (a0_2 : Int) (a1 : Int) (r1 : Int) (r2 : Int) (w : World) (h : galois_Order.f k a0_0 a0_1 a0_2 a1 = some (r1, r2)) :
  Calls Try.prog 28 #[.agg #[.int .i64 a0_0, .int .i64 a0_1, .int .i64 a0_2], .int .i64 a1] w fun e w' => e = .returned (.tuple #[.int .i64 r1, .int .i64 r2]) ∧ Below w.heap.size w w' := by
 have hu23 := Try.underlying23
 have HB := Aside0.mk (Below.refl w.heap.size w)
 have H := h
 unfold galois_Order.f at H
 clear h
 obtain ⟨y225, hy225⟩ : ∃ y_ : List Int, y_ = (([a1] : List Int)) := ⟨_, rfl⟩
 replace H : ((galois_member.f k a0_0 a0_1 a0_2 y225).bind fun t228 => (if t228 = true then (if a1 = 0 then (some (0, 12)) else ((galois_order.f k a0_0 a0_1 a0_2 a1).bind fun t229 => (some (t229, 0)))) else (some (0, 1)))) = some (r1, r2) := by first | (rw [hy225]; with_reducible exact H) | (have H2_ := (Option.bind_some _ _).symm.trans H; rw [hy225]; with_reducible exact H2_) | (have H2_ := (Option.bind_some _ _).symm.trans H; with_reducible exact H2_) | with_reducible exact H | (rw [hy225]; exact H) | exact H
 have Ny225 := Aside0.mk hy225
 clear hy225
 obtain ⟨t228, A3, H⟩ := zD H
 by_cases c4 : t228 = true
 ·subst c4
  rw [if_pos rfl] at H
  by_cases c5 : a1 = 0
  ·rw [if_pos c5] at H
   have c5b0 := beq_iff_eq.mpr c5
   have c5b1 := bne_eq_false_iff_eq.mpr c5
   clear c5
   simp only [Option.some.injEq, Prod.mk.injEq] at H
   obtain ⟨rfl, rfl⟩ := H
   go_enter Try.func28, Try.ntmps28
   go_wp2_with (first | ((with_reducible refine gate_dst (N := 2) rfl ?_); refine zBox 2 #[.int .i64 a0_0, .int .i64 a0_1, .int .i64 a0_2] 23 ?_; clear HB; intro gb224 w6 BK224 GE224 HB; (try clear z224_0 z224_1 z224_2 f224_0 f224_1 f224_2); obtain ⟨z224_0, z224_1, z224_2, f224_0, f224_1, f224_2⟩ := cz3 BK224) | ((with_reducible refine gate_dst (N := 9) rfl ?_); refine Kd.R_lit (Kd.int .i64) _ 3 ?hg (N := 9) ?hd (xs := ([a1] : List Int)) (inner := [.int .i64 a1]) (ok := fun _ => True) (okp := fun _ => True) ?hr ?hp (fun _ hk => hk) trivial (Below.refl _ _) (Nat.le_refl _) (by simp) ?_; (case hd => rfl); (case hg => rfl); (case hr => first | (go_simp; done) | (go_simp; rfl)); (case hp => exact (Reps.one (show Kd.M (Kd.int .i64) _ _ _ a1 [.int .i64 a1] from rfl) (Reps.none _ _))); intro v226 w8 ho9 hb hg_ hnew_; clear hg_ hnew_; (first | rw [← Ny225.out] at ho9 | (simp only [Int.reduceToNat] at ho9; rw [← Ny225.out] at ho9)); have HO227 := Aside0.mk (Kd.R_lower ho9 (below_size zB)); replace BK224 := bB BK224 hb; replace HB := bS hb; clear hb ho9; obtain ⟨Ao10, co10, eo10⟩ := Kd.R_slice HO227.out; subst eo10) | ((with_reducible refine gate_callee (f := 90) rfl ?_); refine gL (some 10) Try.func90 #[.agg #[.int .i64 a0_0, .int .i64 a0_1, .int .i64 a0_2], .slice Ao10 y225.length co10] ?_; (with_reducible refine zCall (galois_member.calls k a0_0 a0_1 a0_2 _ _ y225 true _ ?side1 ?side2 A3.out) ?_); (case side1 => exact zN HO227); (case side2 => exact (Kd.R_reads' HO227.out).2.1); intro w11 hb; replace HO227 := Aside0.mk (Kd.R_below (zO HO227) hb); replace BK224 := bB BK224 hb; replace HB := bS hb; (try clear hb)))
   go_ret2
   exact ⟨zE, zB⟩
  ·rw [if_neg c5] at H
   have c5b0 := beq_eq_false_iff_ne.mpr c5
   have c5b1 := bne_iff_ne.mpr c5
   obtain ⟨t229, A12, H⟩ := zD H
   simp only [Option.some.injEq, Prod.mk.injEq] at H
   obtain ⟨rfl, rfl⟩ := H
   go_enter Try.func28, Try.ntmps28
   go_wp2_with (first | ((with_reducible refine gate_dst (N := 2) rfl ?_); refine zBox 2 #[.int .i64 a0_0, .int .i64 a0_1, .int .i64 a0_2] 23 ?_; clear HB; intro gb224 w13 BK224 GE224 HB; (try clear z224_0 z224_1 z224_2 f224_0 f224_1 f224_2); obtain ⟨z224_0, z224_1, z224_2, f224_0, f224_1, f224_2⟩ := cz3 BK224) | ((with_reducible refine gate_dst (N := 9) rfl ?_); refine Kd.R_lit (Kd.int .i64) _ 3 ?hg (N := 9) ?hd (xs := ([a1] : List Int)) (inner := [.int .i64 a1]) (ok := fun _ => True) (okp := fun _ => True) ?hr ?hp (fun _ hk => hk) trivial (Below.refl _ _) (Nat.le_refl _) (by simp) ?_; (case hd => rfl); (case hg => rfl); (case hr => first | (go_simp; done) | (go_simp; rfl)); (case hp => exact (Reps.one (show Kd.M (Kd.int .i64) _ _ _ a1 [.int .i64 a1] from rfl) (Reps.none _ _))); intro v226 w15 ho16 hb hg_ hnew_; clear hg_ hnew_; (first | rw [← Ny225.out] at ho16 | (simp only [Int.reduceToNat] at ho16; rw [← Ny225.out] at ho16)); have HO227 := Aside0.mk (Kd.R_lower ho16 (below_size zB)); replace BK224 := bB BK224 hb; replace HB := bS hb; clear hb ho16; obtain ⟨Ao17, co17, eo17⟩ := Kd.R_slice HO227.out; subst eo17) | ((with_reducible refine gate_callee (f := 90) rfl ?_); refine gL (some 10) Try.func90 #[.agg #[.int .i64 a0_0, .int .i64 a0_1, .int .i64 a0_2], .slice Ao17 y225.length co17] ?_; (with_reducible refine zCall (galois_member.calls k a0_0 a0_1 a0_2 _ _ y225 true _ ?side1 ?side2 A3.out) ?_); (case side1 => exact zN HO227); (case side2 => exact (Kd.R_reads' HO227.out).2.1); intro w18 hb; replace HO227 := Aside0.mk (Kd.R_below (zO HO227) hb); replace BK224 := bB BK224 hb; replace HB := bS hb; (try clear hb); (try clear z224_0 z224_1 z224_2 f224_0 f224_1 f224_2); obtain ⟨z224_0, z224_1, z224_2, f224_0, f224_1, f224_2⟩ := cz3 BK224) | ((with_reducible refine gate_callee (f := 91) rfl ?_); refine gL (some 17) Try.func91 #[.agg #[.int .i64 a0_0, .int .i64 a0_1, .int .i64 a0_2], .int .i64 a1] ?_; (with_reducible refine zCall (galois_order.calls k a0_0 a0_1 a0_2 a1 t229 _ A12.out) ?_); intro w20 hb; replace HO227 := Aside0.mk (Kd.R_below (zO HO227) hb); replace BK224 := bB BK224 hb; replace HB := bS hb; (try clear hb)))
   go_ret2
   exact ⟨zE, zB⟩
 ·replace c4 := Bool.eq_false_iff.mpr c4
  subst c4
  rw [if_neg (show ¬ (false = true) by decide)] at H
  simp only [Option.some.injEq, Prod.mk.injEq] at H
  obtain ⟨rfl, rfl⟩ := H
  go_enter Try.func28, Try.ntmps28
  go_wp2_with (first | ((with_reducible refine gate_dst (N := 2) rfl ?_); refine zBox 2 #[.int .i64 a0_0, .int .i64 a0_1, .int .i64 a0_2] 23 ?_; clear HB; intro gb224 w21 BK224 GE224 HB; (try clear z224_0 z224_1 z224_2 f224_0 f224_1 f224_2); obtain ⟨z224_0, z224_1, z224_2, f224_0, f224_1, f224_2⟩ := cz3 BK224) | ((with_reducible refine gate_dst (N := 9) rfl ?_); refine Kd.R_lit (Kd.int .i64) _ 3 ?hg (N := 9) ?hd (xs := ([a1] : List Int)) (inner := [.int .i64 a1]) (ok := fun _ => True) (okp := fun _ => True) ?hr ?hp (fun _ hk => hk) trivial (Below.refl _ _) (Nat.le_refl _) (by simp) ?_; (case hd => rfl); (case hg => rfl); (case hr => first | (go_simp; done) | (go_simp; rfl)); (case hp => exact (Reps.one (show Kd.M (Kd.int .i64) _ _ _ a1 [.int .i64 a1] from rfl) (Reps.none _ _))); intro v226 w23 ho24 hb hg_ hnew_; clear hg_ hnew_; (first | rw [← Ny225.out] at ho24 | (simp only [Int.reduceToNat] at ho24; rw [← Ny225.out] at ho24)); have HO227 := Aside0.mk (Kd.R_lower ho24 (below_size zB)); replace BK224 := bB BK224 hb; replace HB := bS hb; clear hb ho24; obtain ⟨Ao25, co25, eo25⟩ := Kd.R_slice HO227.out; subst eo25) | ((with_reducible refine gate_callee (f := 90) rfl ?_); refine gL (some 10) Try.func90 #[.agg #[.int .i64 a0_0, .int .i64 a0_1, .int .i64 a0_2], .slice Ao25 y225.length co25] ?_; (with_reducible refine zCall (galois_member.calls k a0_0 a0_1 a0_2 _ _ y225 false _ ?side1 ?side2 A3.out) ?_); (case side1 => exact zN HO227); (case side2 => exact (Kd.R_reads' HO227.out).2.1); intro w26 hb; replace HO227 := Aside0.mk (Kd.R_below (zO HO227) hb); replace BK224 := bB BK224 hb; replace HB := bS hb; (try clear hb)))
  go_ret2
  exact ⟨zE, zB⟩
/-! ### barscanref04_Order: function 29 -/
def barscanref04_Order.j0 : Nat → Int → Bool → Int → Int → Int → Option (Int × Int)
 | 0, _, _, _, _, _ => none
 | k + 1, x1, x14, x236000, x236001, x236002 => if x14 = true then (some (0, 1)) else (if x1 = 0 then (some (0, 12)) else ((barscanref04_order.f k x236000 x236001 x236002 x1).bind fun t238 => (some (t238, 0))))
def barscanref04_Order.f (k : Nat) (a0_0 : Int) (a0_1 : Int) (a0_2 : Int) (a1 : Int) : Option (Int × Int) := (barscanref04_Valid.f k a0_0 a0_1 a0_2).bind fun t236 => (if t236 = true then ((barscanref04_Is.f a0_0 a0_1 a0_2 a1).bind fun t237 => (barscanref04_Order.j0 k a1 (!t237) a0_0 a0_1 a0_2)) else (barscanref04_Order.j0 k a1 true a0_0 a0_1 a0_2))
theorem barscanref04_Order.mono_l : ∀ k, (∀ y0 y1 y2 y3 y4, LeO (barscanref04_Order.j0 k y0 y1 y2 y3 y4) (barscanref04_Order.j0 (k + 1) y0 y1 y2 y3 y4))
 | 0 => fun _ _ _ _ _ r h => by simp [barscanref04_Order.j0] at h
 | k + 1 => by
  have ih0 := barscanref04_Order.mono_l k
  ·intro y0 y1 y2 y3 y4
   unfold barscanref04_Order.j0
   have m0_ := @barscanref04_Valid.mono
   have m1_ := @barscanref04_order.mono
   exact zMo
theorem barscanref04_Order.mono : ∀ a0 a1 a2 a3 k, LeO (barscanref04_Order.f k a0 a1 a2 a3) (barscanref04_Order.f (k + 1) a0 a1 a2 a3) := by
 intro a0 a1 a2 a3 k
 have ih0 := barscanref04_Order.mono_l k
 unfold barscanref04_Order.f
 have m0_ := @barscanref04_Valid.mono
 have m1_ := @barscanref04_order.mono
 exact zMo
theorem barscanref04_Order.calls (k : Nat) (a0_0 : Int) (a0_1 : Int) (a0_2 : Int) (a1 : Int) (r1 : Int) (r2 : Int) (w : World) (h : barscanref04_Order.f k a0_0 a0_1 a0_2 a1 = some (r1, r2)) :
  Calls Try.prog 29 #[.agg #[.int .i64 a0_0, .int .i64 a0_1, .int .i64 a0_2], .int .i64 a1] w fun e w' => e = .returned (.tuple #[.int .i64 r1, .int .i64 r2]) ∧ Below w.heap.size w w' := by
 have hu23 := Try.underlying23
 have HB := Aside0.mk (Below.refl w.heap.size w)
 have H := h
 unfold barscanref04_Order.f at H
 clear h
 have HC3 := Aside0.mk H
 clear H
 go_enter Try.func29, Try.ntmps29
 go_upto_region 1 with (first | ((with_reducible refine gate_dst (N := 2) rfl ?_); refine zBox 2 #[.int .i64 a0_0, .int .i64 a0_1, .int .i64 a0_2] 23 ?_; clear HB; intro gb235 w4 BK235 GE235 HB))
 (try simp only [Act.put, List.setIfInBounds_toArray, List.set_cons_zero, List.set_cons_succ])
 go_cut [14] (fun v14 wc => ∃ (kq : Nat) (x14_2 : Bool), v14 = .bool x14_2 ∧ Aside0 (barscanref04_Order.j0 kq a1 x14_2 a0_0 a0_1 a0_2 = some (r1, r2)) ∧ Aside0 (kq ≤ k) ∧ Aside0 (wc.heap[gb235]? = some (.cells #[.int .i64 a0_0, .int .i64 a0_1, .int .i64 a0_2] 23 (0, 0))) ∧ Aside0 (Below w.heap.size w wc))
 case first =>
  have H := HC3.out
  clear HC3
  obtain ⟨t236, A5, H⟩ := zD H
  by_cases c6 : t236 = true
  ·subst c6
   rw [if_pos rfl] at H
   obtain ⟨t237, A7, H⟩ := zD H
   have H' := zA H
   clear H
   (try clear z235_0 z235_1 z235_2 f235_0 f235_1 f235_2)
   obtain ⟨z235_0, z235_1, z235_2, f235_0, f235_1, f235_2⟩ := cz3 BK235
   go_wp2_with (first | ((with_reducible refine gate_callee (f := 26) rfl ?_); refine gL (some 7) Try.func26 #[.agg #[.int .i64 a0_0, .int .i64 a0_1, .int .i64 a0_2]] ?_; (with_reducible refine zCall (barscanref04_Valid.calls k a0_0 a0_1 a0_2 true _ A5.out) ?_); intro w9 hb; replace BK235 := bB BK235 hb; replace HB := bS hb; (try clear hb); (try clear z235_0 z235_1 z235_2 f235_0 f235_1 f235_2); obtain ⟨z235_0, z235_1, z235_2, f235_0, f235_1, f235_2⟩ := cz3 BK235) | (go_at_call 44; (with_reducible refine (barscanref04_Is.calls a0_0 a0_1 a0_2 a1 t237 _ A7.out).mono ?_); rintro e w11 ⟨rfl, hb⟩; replace BK235 := bB BK235 hb; replace HB := bS hb; (try clear hb)))
   go_meet
   case rel => exact ⟨_, (!t237), zR, H', zL, ⟨zK BK235⟩, ⟨zB⟩⟩
  ·replace c6 := Bool.eq_false_iff.mpr c6
   subst c6
   rw [if_neg (show ¬ (false = true) by decide)] at H
   have H' := zA H
   clear H
   (try clear z235_0 z235_1 z235_2 f235_0 f235_1 f235_2)
   obtain ⟨z235_0, z235_1, z235_2, f235_0, f235_1, f235_2⟩ := cz3 BK235
   go_wp2_with (first | ((with_reducible refine gate_callee (f := 26) rfl ?_); refine gL (some 7) Try.func26 #[.agg #[.int .i64 a0_0, .int .i64 a0_1, .int .i64 a0_2]] ?_; (with_reducible refine zCall (barscanref04_Valid.calls k a0_0 a0_1 a0_2 false _ A5.out) ?_); intro w13 hb; replace BK235 := bB BK235 hb; replace HB := bS hb; (try clear hb)))
   go_meet
   case rel => exact ⟨_, (true), zR, H', zL, ⟨zK BK235⟩, ⟨zB⟩⟩
 case rest =>
  clear HC3
  try clear c2
  try clear p2
  try clear c6
  try clear z235_0 z235_1 z235_2 f235_0 f235_1 f235_2
  obtain ⟨kq, x14_2, rfl, HA, HJ2, BK235, HB⟩ := hcut
  cases kq with
  | zero => exact absurd HA.out (by simp [barscanref04_Order.j0])
  | succ kj2 =>
   have H := HA.out
   clear HA
   simp only [barscanref04_Order.j0] at H
   by_cases c14 : x14_2 = true
   ·subst c14
    rw [if_pos rfl] at H
    simp only [Option.some.injEq, Prod.mk.injEq] at H
    obtain ⟨rfl, rfl⟩ := H
    go_wp2
    go_ret2
    exact ⟨zE, zB⟩
   ·replace c14 := Bool.eq_false_iff.mpr c14
    subst c14
    rw [if_neg (show ¬ (false = true) by decide)] at H
    by_cases c15 : a1 = 0
    ·rw [if_pos c15] at H
     have c15b0 := beq_iff_eq.mpr c15
     have c15b1 := bne_eq_false_iff_eq.mpr c15
     clear c15
     simp only [Option.some.injEq, Prod.mk.injEq] at H
     obtain ⟨rfl, rfl⟩ := H
     go_wp2
     go_ret2
     exact ⟨zE, zB⟩
    ·rw [if_neg c15] at H
     have c15b0 := beq_eq_false_iff_ne.mpr c15
     have c15b1 := bne_iff_ne.mpr c15
     obtain ⟨t238, A16, H⟩ := zD H
     simp only [Option.some.injEq, Prod.mk.injEq] at H
     obtain ⟨rfl, rfl⟩ := H
     (try clear z235_0 z235_1 z235_2 f235_0 f235_1 f235_2)
     obtain ⟨z235_0, z235_1, z235_2, f235_0, f235_1, f235_2⟩ := cz3 BK235
     go_wp2_with (first | ((with_reducible refine gate_callee (f := 92) rfl ?_); refine gL (some 19) Try.func92 #[.agg #[.int .i64 a0_0, .int .i64 a0_1, .int .i64 a0_2], .int .i64 a1] ?_; (with_reducible refine zCall (barscanref04_order.calls kj2 a0_0 a0_1 a0_2 a1 t238 _ A16.out) ?_); intro w18 hb; replace BK235 := bB BK235 hb; replace HB := bS hb; (try clear hb)))
     go_ret2
     exact ⟨zE, zB⟩
/-! ### barscanref04_Generator: function 31 -/
def barscanref04_Generator.f (k : Nat) (a0_0 : Int) (a0_1 : Int) (a0_2 : Int) : Option (Int × Int) := (barscanref04_Valid.f k a0_0 a0_1 a0_2).bind fun t242 => (if t242 = true then ((barscanref04_Primitive.f k a0_0 a0_1 a0_2).bind fun t243 => (some (t243, 0))) else (some (0, 1)))
theorem barscanref04_Generator.mono : ∀ a0 a1 a2 k, LeO (barscanref04_Generator.f k a0 a1 a2) (barscanref04_Generator.f (k + 1) a0 a1 a2) := by
 intro a0 a1 a2 k
 unfold barscanref04_Generator.f
 have m0_ := @barscanref04_Primitive.mono
 have m1_ := @barscanref04_Valid.mono
 exact zMo
theorem barscanref04_Generator.calls (k : Nat) (a0_0 : Int) (a0_1 : Int) (a0_2 : Int) (r1 : Int) (r2 : Int) (w : World) (h : barscanref04_Generator.f k a0_0 a0_1 a0_2 = some (r1, r2)) :
  Calls Try.prog 31 #[.agg #[.int .i64 a0_0, .int .i64 a0_1, .int .i64 a0_2]] w fun e w' => e = .returned (.tuple #[.int .i64 r1, .int .i64 r2]) ∧ Below w.heap.size w w' := by
 have hu23 := Try.underlying23
 have HB := Aside0.mk (Below.refl w.heap.size w)
 have H := h
 unfold barscanref04_Generator.f at H
 clear h
 obtain ⟨t242, A2, H⟩ := zD H
 by_cases c3 : t242 = true
 ·subst c3
  rw [if_pos rfl] at H
  obtain ⟨t243, A4, H⟩ := zD H
  simp only [Option.some.injEq, Prod.mk.injEq] at H
  obtain ⟨rfl, rfl⟩ := H
  go_enter Try.func31, Try.ntmps31
  go_wp2_with (first | ((with_reducible refine gate_dst (N := 1) rfl ?_); refine zBox 1 #[.int .i64 a0_0, .int .i64 a0_1, .int .i64 a0_2] 23 ?_; clear HB; intro gb241 w5 BK241 GE241 HB; (try clear z241_0 z241_1 z241_2 f241_0 f241_1 f241_2); obtain ⟨z241_0, z241_1, z241_2, f241_0, f241_1, f241_2⟩ := cz3 BK241) | ((with_reducible refine gate_callee (f := 26) rfl ?_); refine gL (some 5) Try.func26 #[.agg #[.int .i64 a0_0, .int .i64 a0_1, .int .i64 a0_2]] ?_; (with_reducible refine zCall (barscanref04_Valid.calls k a0_0 a0_1 a0_2 true _ A2.out) ?_); intro w7 hb; replace BK241 := bB BK241 hb; replace HB := bS hb; (try clear hb); (try clear z241_0 z241_1 z241_2 f241_0 f241_1 f241_2); obtain ⟨z241_0, z241_1, z241_2, f241_0, f241_1, f241_2⟩ := cz3 BK241) | ((with_reducible refine gate_callee (f := 94) rfl ?_); refine gL (some 8) Try.func94 #[.agg #[.int .i64 a0_0, .int .i64 a0_1, .int .i64 a0_2]] ?_; (with_reducible refine zCall (barscanref04_Primitive.calls k a0_0 a0_1 a0_2 t243 _ A4.out) ?_); intro w9 hb; replace BK241 := bB BK241 hb; replace HB := bS hb; (try clear hb)))
  go_ret2
  exact ⟨zE, zB⟩
 ·replace c3 := Bool.eq_false_iff.mpr c3
  subst c3
  rw [if_neg (show ¬ (false = true) by decide)] at H
  simp only [Option.some.injEq, Prod.mk.injEq] at H
  obtain ⟨rfl, rfl⟩ := H
  go_enter Try.func31, Try.ntmps31
  go_wp2_with (first | ((with_reducible refine gate_dst (N := 1) rfl ?_); refine zBox 1 #[.int .i64 a0_0, .int .i64 a0_1, .int .i64 a0_2] 23 ?_; clear HB; intro gb241 w10 BK241 GE241 HB; (try clear z241_0 z241_1 z241_2 f241_0 f241_1 f241_2); obtain ⟨z241_0, z241_1, z241_2, f241_0, f241_1, f241_2⟩ := cz3 BK241) | ((with_reducible refine gate_callee (f := 26) rfl ?_); refine gL (some 5) Try.func26 #[.agg #[.int .i64 a0_0, .int .i64 a0_1, .int .i64 a0_2]] ?_; (with_reducible refine zCall (barscanref04_Valid.calls k a0_0 a0_1 a0_2 false _ A2.out) ?_); intro w12 hb; replace BK241 := bB BK241 hb; replace HB := bS hb; (try clear hb)))
  go_ret2
  exact ⟨zE, zB⟩
/-! ### barscanref04_Log: function 33 -/
mutual
def barscanref04_Log.j0 : Nat → Int → Bool → Int → Int → Int → Option (Int × Int)
 | 0, _, _, _, _, _ => none
 | k + 1, x1, x17, x245000, x245001, x245002 => if x17 = true then (some (0, 1)) else (if x1 = 0 then (some (0, 12)) else ((barscanref04_Primitive.f k x245000 x245001 x245002).bind fun t247 => (barscanref04_Log.l0 k x1 t247 1 0 x245000 x245001 x245002)))
def barscanref04_Log.l0 : Nat → Int → Int → Int → Int → Int → Int → Int → Option (Int × Int)
 | 0, _, _, _, _, _, _, _ => none
 | k + 1, x1, x6, x7, x8, x245000, x245001, x245002 => if x8 < x245001 then (if x7 = x1 then (some (x8, 0)) else ((barscanref04_Times.f k x245000 x245001 x245002 x7 x6).bind fun t248 => (barscanref04_Log.l0 k x1 x6 t248 (wrap64 (x8 + 1)) x245000 x245001 x245002))) else (some (0, 1))
end
def barscanref04_Log.f (k : Nat) (a0_0 : Int) (a0_1 : Int) (a0_2 : Int) (a1 : Int) : Option (Int × Int) := (barscanref04_Valid.f k a0_0 a0_1 a0_2).bind fun t245 => (if t245 = true then ((barscanref04_Is.f a0_0 a0_1 a0_2 a1).bind fun t246 => (barscanref04_Log.j0 k a1 (!t246) a0_0 a0_1 a0_2)) else (barscanref04_Log.j0 k a1 true a0_0 a0_1 a0_2))
theorem barscanref04_Log.mono_l : ∀ k, (∀ y0 y1 y2 y3 y4, LeO (barscanref04_Log.j0 k y0 y1 y2 y3 y4) (barscanref04_Log.j0 (k + 1) y0 y1 y2 y3 y4)) ∧ (∀ y0 y1 y2 y3 y4 y5 y6, LeO (barscanref04_Log.l0 k y0 y1 y2 y3 y4 y5 y6) (barscanref04_Log.l0 (k + 1) y0 y1 y2 y3 y4 y5 y6))
 | 0 => ⟨fun _ _ _ _ _ r h => by simp [barscanref04_Log.j0] at h, fun _ _ _ _ _ _ _ r h => by simp [barscanref04_Log.l0] at h⟩
 | k + 1 => by
  obtain ⟨ih0, ih1⟩ := barscanref04_Log.mono_l k
  refine ⟨?_, ?_⟩
  ·intro y0 y1 y2 y3 y4
   unfold barscanref04_Log.j0
   have m0_ := @barscanref04_Primitive.mono
   have m1_ := @barscanref04_Times.mono
   have m2_ := @barscanref04_Valid.mono
   exact zMo
  ·intro y0 y1 y2 y3 y4 y5 y6
   unfold barscanref04_Log.l0
   have m0_ := @barscanref04_Primitive.mono
   have m1_ := @barscanref04_Times.mono
   have m2_ := @barscanref04_Valid.mono
   exact zMo
theorem barscanref04_Log.mono : ∀ a0 a1 a2 a3 k, LeO (barscanref04_Log.f k a0 a1 a2 a3) (barscanref04_Log.f (k + 1) a0 a1 a2 a3) := by
 intro a0 a1 a2 a3 k
 obtain ⟨ih0, ih1⟩ := barscanref04_Log.mono_l k
 unfold barscanref04_Log.f
 have m0_ := @barscanref04_Primitive.mono
 have m1_ := @barscanref04_Times.mono
 have m2_ := @barscanref04_Valid.mono
 exact zMo
theorem barscanref04_Log.calls (k : Nat) (a0_0 : Int) (a0_1 : Int) (a0_2 : Int) (a1 : Int) (r1 : Int) (r2 : Int) (w : World) (h : barscanref04_Log.f k a0_0 a0_1 a0_2 a1 = some (r1, r2)) :
  Calls Try.prog 33 #[.agg #[.int .i64 a0_0, .int .i64 a0_1, .int .i64 a0_2], .int .i64 a1] w fun e w' => e = .returned (.tuple #[.int .i64 r1, .int .i64 r2]) ∧ Below w.heap.size w w' := by
 have hu23 := Try.underlying23
 have HB := Aside0.mk (Below.refl w.heap.size w)
 have H := h
 unfold barscanref04_Log.f at H
 clear h
 have HC3 := Aside0.mk H
 clear H
 go_enter Try.func33, Try.ntmps33
 go_upto_region 1 with (first | ((with_reducible refine gate_dst (N := 2) rfl ?_); refine zBox 2 #[.int .i64 a0_0, .int .i64 a0_1, .int .i64 a0_2] 23 ?_; clear HB; intro gb244 w4 BK244 GE244 HB))
 (try simp only [Act.put, List.setIfInBounds_toArray, List.set_cons_zero, List.set_cons_succ])
 go_cut [17] (fun v17 wc => ∃ (kq : Nat) (x17_2 : Bool), v17 = .bool x17_2 ∧ Aside0 (barscanref04_Log.j0 kq a1 x17_2 a0_0 a0_1 a0_2 = some (r1, r2)) ∧ Aside0 (kq ≤ k) ∧ Aside0 (wc.heap[gb244]? = some (.cells #[.int .i64 a0_0, .int .i64 a0_1, .int .i64 a0_2] 23 (0, 0))) ∧ Aside0 (Below w.heap.size w wc))
 case first =>
  have H := HC3.out
  clear HC3
  obtain ⟨t245, A5, H⟩ := zD H
  by_cases c6 : t245 = true
  ·subst c6
   rw [if_pos rfl] at H
   obtain ⟨t246, A7, H⟩ := zD H
   have H' := zA H
   clear H
   (try clear z244_0 z244_1 z244_2 f244_0 f244_1 f244_2)
   obtain ⟨z244_0, z244_1, z244_2, f244_0, f244_1, f244_2⟩ := cz3 BK244
   go_wp2_with (first | ((with_reducible refine gate_callee (f := 26) rfl ?_); refine gL (some 10) Try.func26 #[.agg #[.int .i64 a0_0, .int .i64 a0_1, .int .i64 a0_2]] ?_; (with_reducible refine zCall (barscanref04_Valid.calls k a0_0 a0_1 a0_2 true _ A5.out) ?_); intro w9 hb; replace BK244 := bB BK244 hb; replace HB := bS hb; (try clear hb); (try clear z244_0 z244_1 z244_2 f244_0 f244_1 f244_2); obtain ⟨z244_0, z244_1, z244_2, f244_0, f244_1, f244_2⟩ := cz3 BK244) | (go_at_call 44; (with_reducible refine (barscanref04_Is.calls a0_0 a0_1 a0_2 a1 t246 _ A7.out).mono ?_); rintro e w11 ⟨rfl, hb⟩; replace BK244 := bB BK244 hb; replace HB := bS hb; (try clear hb)))
   go_meet
   case rel => exact ⟨_, (!t246), zR, H', zL, ⟨zK BK244⟩, ⟨zB⟩⟩
  ·replace c6 := Bool.eq_false_iff.mpr c6
   subst c6
   rw [if_neg (show ¬ (false = true) by decide)] at H
   have H' := zA H
   clear H
   (try clear z244_0 z244_1 z244_2 f244_0 f244_1 f244_2)
   obtain ⟨z244_0, z244_1, z244_2, f244_0, f244_1, f244_2⟩ := cz3 BK244
   go_wp2_with (first | ((with_reducible refine gate_callee (f := 26) rfl ?_); refine gL (some 10) Try.func26 #[.agg #[.int .i64 a0_0, .int .i64 a0_1, .int .i64 a0_2]] ?_; (with_reducible refine zCall (barscanref04_Valid.calls k a0_0 a0_1 a0_2 false _ A5.out) ?_); intro w13 hb; replace BK244 := bB BK244 hb; replace HB := bS hb; (try clear hb)))
   go_meet
   case rel => exact ⟨_, (true), zR, H', zL, ⟨zK BK244⟩, ⟨zB⟩⟩
 case rest =>
  clear HC3
  try clear c2
  try clear p2
  try clear c3
  try clear c6
  try clear z244_0 z244_1 z244_2 f244_0 f244_1 f244_2
  obtain ⟨kq, x17_2, rfl, HA, HJ2, BK244, HB⟩ := hcut
  cases kq with
  | zero => exact absurd HA.out (by simp [barscanref04_Log.j0])
  | succ kj2 =>
   have H := HA.out
   clear HA
   simp only [barscanref04_Log.j0] at H
   by_cases c14 : x17_2 = true
   ·subst c14
    rw [if_pos rfl] at H
    simp only [Option.some.injEq, Prod.mk.injEq] at H
    obtain ⟨rfl, rfl⟩ := H
    go_wp2
    go_ret2
    exact ⟨zE, zB⟩
   ·replace c14 := Bool.eq_false_iff.mpr c14
    subst c14
    rw [if_neg (show ¬ (false = true) by decide)] at H
    by_cases c15 : a1 = 0
    ·rw [if_pos c15] at H
     have c15b0 := beq_iff_eq.mpr c15
     have c15b1 := bne_eq_false_iff_eq.mpr c15
     clear c15
     simp only [Option.some.injEq, Prod.mk.injEq] at H
     obtain ⟨rfl, rfl⟩ := H
     go_wp2
     go_ret2
     exact ⟨zE, zB⟩
    ·rw [if_neg c15] at H
     have c15b0 := beq_eq_false_iff_ne.mpr c15
     have c15b1 := bne_iff_ne.mpr c15
     obtain ⟨t247, A16, H⟩ := zD H
     have H' := zA H
     clear H
     (try clear z244_0 z244_1 z244_2 f244_0 f244_1 f244_2)
     obtain ⟨z244_0, z244_1, z244_2, f244_0, f244_1, f244_2⟩ := cz3 BK244
     go_wp2_with (first | ((with_reducible refine gate_callee (f := 94) rfl ?_); refine gL (some 21) Try.func94 #[.agg #[.int .i64 a0_0, .int .i64 a0_1, .int .i64 a0_2]] ?_; (with_reducible refine zCall (barscanref04_Primitive.calls kj2 a0_0 a0_1 a0_2 t247 _ A16.out) ?_); intro w18 hb; replace BK244 := bB BK244 hb; replace HB := bS hb; (try clear hb)))
     go_loopg [7, 8] kj2 (fun kq v7 v8 w' => ∃ (x7_2 : Int) (x8_2 : Int), v7 = .int .i64 x7_2 ∧ v8 = .int .i64 x8_2 ∧ Aside0 (barscanref04_Log.l0 kq a1 t247 x7_2 x8_2 a0_0 a0_1 a0_2 = some (r1, r2)) ∧ Aside0 (kq ≤ kj2) ∧ Aside0 (w'.heap[gb244]? = some (.cells #[.int .i64 a0_0, .int .i64 a0_1, .int .i64 a0_2] 23 (0, 0))) ∧ Aside0 (Below w.heap.size w w'))
     case atStart => exact ⟨(1), (0), zR, zR, H', ⟨Nat.le_refl _⟩, ⟨zK BK244⟩, ⟨zB⟩⟩
     case round =>
      clear H'
      try clear c1
      try clear c2
      try clear p2
      try clear c3
      try clear c6
      try clear c9
      try clear c14
      try clear c15
      try clear c15b0
      try clear c15b1
      try clear z244_0 z244_1 z244_2 f244_0 f244_1 f244_2
      try clear p2
      obtain ⟨x7_2, x8_2, rfl, rfl, HA, HK2, BK244, HB⟩ := hrel
      cases gk with
      | zero => exact absurd HA.out (by simp [barscanref04_Log.l0])
      | succ k2 =>
       have H := HA.out
       clear HA
       simp only [barscanref04_Log.l0] at H
       by_cases c19 : x8_2 < a0_1
       ·rw [if_pos c19] at H
        have c19b0 : decide (x8_2 < a0_1) = true := decide_eq_true c19
        clear c19
        by_cases c20 : x7_2 = a1
        ·rw [if_pos c20] at H
         have c20b0 := beq_iff_eq.mpr c20
         have c20b1 := bne_eq_false_iff_eq.mpr c20
         clear c20
         simp only [Option.some.injEq, Prod.mk.injEq] at H
         obtain ⟨rfl, rfl⟩ := H
         (try clear z244_0 z244_1 z244_2 f244_0 f244_1 f244_2)
         obtain ⟨z244_0, z244_1, z244_2, f244_0, f244_1, f244_2⟩ := cz3 BK244
         go_wp2
         go_ret2
         exact ⟨zE, zB⟩
        ·rw [if_neg c20] at H
         have c20b0 := beq_eq_false_iff_ne.mpr c20
         have c20b1 := bne_iff_ne.mpr c20
         obtain ⟨t248, A22, H⟩ := zD H
         have H' := zA H
         clear H
         (try clear z244_0 z244_1 z244_2 f244_0 f244_1 f244_2)
         obtain ⟨z244_0, z244_1, z244_2, f244_0, f244_1, f244_2⟩ := cz3 BK244
         go_wp2_with (first | ((with_reducible refine gate_callee (f := 96) rfl ?_); refine gL (some 35) Try.func96 #[.agg #[.int .i64 a0_0, .int .i64 a0_1, .int .i64 a0_2], .int .i64 x7_2, .int .i64 t247] ?_; (with_reducible refine zCall (barscanref04_Times.calls k2 a0_0 a0_1 a0_2 x7_2 t247 t248 _ A22.out) ?_); intro w24 hb; replace BK244 := bB BK244 hb; replace HB := bS hb; (try clear hb)))
         go_roundg k2
         case measure => have := HJ2.out; have := HK2.out; omega
         case rel => exact ⟨(t248), (wrap64 (x8_2 + 1)), zR, zR, H', ⟨by have := HJ2.out; have := HK2.out; omega⟩, ⟨zK BK244⟩, ⟨zB⟩⟩
       ·rw [if_neg c19] at H
        have c19b0 : decide (x8_2 < a0_1) = false := decide_eq_false c19
        clear c19
        simp only [Option.some.injEq, Prod.mk.injEq] at H
        obtain ⟨rfl, rfl⟩ := H
        (try clear z244_0 z244_1 z244_2 f244_0 f244_1 f244_2)
        obtain ⟨z244_0, z244_1, z244_2, f244_0, f244_1, f244_2⟩ := cz3 BK244
        go_wp2
        go_ret2
        exact ⟨zE, zB⟩
end Go.Proofs.Ytlhaclammaaabaa.Pg
