-- Written by a program of this session over the print of the kit.
import Derived.Test.YtlhaclammaaabaaY
import Derived.Test.YtlhaclammaaabaaB0
import Derived.Test.YtlhaclammaaabaaB1
import Derived.Test.YtlhaclammaaabaaB23
namespace Go.Proofs.Ytlhaclammaaabaa.Pg
open Go.RowKit Go.Proofs.YtlhaclammaaabaaW.PrintWords Go.Proofs.YtlhaclammaaabaaW.PrintLast Go.Proofs.YtlhaclammaaabaaW.PrintMore
attribute [local go_sem] max2_int min2_int max_two min_two max_three min_three max_four min_four
set_option linter.unusedVariables false
set_option maxHeartbeats 8000000
set_option maxRecDepth 100000
set_option linter.unusedSimpArgs false
/-! ### galois_Pow: function 58 -/
mutual
def galois_Pow.j0 : Nat → Int → Int → Bool → Int → Int → Int → Option (Int × Int)
 | 0, _, _, _, _, _, _ => none
 | k + 1, x1, x2, x14, x1273000, x1273001, x1273002 => if x14 = true then (some (0, 12)) else (if x1 = 0 then (galois_Pow.j1 k x1 x2 (decide (x2 > 0)) x1273000 x1273001 x1273002) else (galois_Pow.j1 k x1 x2 false x1273000 x1273001 x1273002))
def galois_Pow.j1 : Nat → Int → Int → Bool → Int → Int → Int → Option (Int × Int)
 | 0, _, _, _, _, _, _ => none
 | k + 1, x1, x2, x21, x1273000, x1273001, x1273002 => if x21 = true then (some (0, 0)) else ((galois_exponent.f x1273000 x1273001 x1273002 x2).bind fun t1277 => ((galois_power.f k x1273000 x1273001 x1273002 x1 t1277).bind fun t1278 => (some (t1278, 0))))
end
def galois_Pow.f (k : Nat) (a0_0 : Int) (a0_1 : Int) (a0_2 : Int) (a1 : Int) (a2 : Int) : Option (Int × Int) := (galois_member.f k a0_0 a0_1 a0_2 (([a1] : List Int))).bind fun t1276 => (if t1276 = true then (if a1 = 0 then (galois_Pow.j0 k a1 a2 (decide (a2 < 0)) a0_0 a0_1 a0_2) else (galois_Pow.j0 k a1 a2 false a0_0 a0_1 a0_2)) else (some (0, 1)))
theorem galois_Pow.mono_l : ∀ k, (∀ y0 y1 y2 y3 y4 y5, LeO (galois_Pow.j0 k y0 y1 y2 y3 y4 y5) (galois_Pow.j0 (k + 1) y0 y1 y2 y3 y4 y5)) ∧ (∀ y0 y1 y2 y3 y4 y5, LeO (galois_Pow.j1 k y0 y1 y2 y3 y4 y5) (galois_Pow.j1 (k + 1) y0 y1 y2 y3 y4 y5))
 | 0 => ⟨fun _ _ _ _ _ _ r h => by simp [galois_Pow.j0] at h, fun _ _ _ _ _ _ r h => by simp [galois_Pow.j1] at h⟩
 | k + 1 => by
  obtain ⟨ih0, ih1⟩ := galois_Pow.mono_l k
  refine ⟨?_, ?_⟩
  ·intro y0 y1 y2 y3 y4 y5
   unfold galois_Pow.j0
   have m0_ := @galois_member.mono
   have m1_ := @galois_power.mono
   exact zMo
  ·intro y0 y1 y2 y3 y4 y5
   unfold galois_Pow.j1
   have m0_ := @galois_member.mono
   have m1_ := @galois_power.mono
   exact zMo
theorem galois_Pow.mono : ∀ a0 a1 a2 a3 a4 k, LeO (galois_Pow.f k a0 a1 a2 a3 a4) (galois_Pow.f (k + 1) a0 a1 a2 a3 a4) := by
 intro a0 a1 a2 a3 a4 k
 obtain ⟨ih0, ih1⟩ := galois_Pow.mono_l k
 unfold galois_Pow.f
 have m0_ := @galois_member.mono
 have m1_ := @galois_power.mono
 exact zMo
def galois_Pow.T7 : Bool × List (List Nat × List Nat) := (true, [([], []), ([], []), ([], []), ([], []), ([2, 3], [2, 3]), ([0, 1, 4, 4], [0, 1, 4]), ([5, 5, 0, 1, 2, 3, 4, 5], [5]), ([6, 0, 1, 2, 3, 4, 5, 6], [])])
def galois_Pow.B7 : List Nat := [0, 0, 0, 0, 12, 31, 63, 127]
theorem galois_Pow.tab7 : rtab .any (opsOf Try.f58 7) = galois_Pow.T7 := by kernel_rfl
theorem galois_Pow.bits7 : waitsOk galois_Pow.T7.2 galois_Pow.B7 = true := by kernel_rfl
theorem galois_Pow.calls (k : Nat) (a0_0 : Int) (a0_1 : Int) (a0_2 : Int) (a1 : Int) (a2 : Int) (r1 : Int) (r2 : Int) (w : World) (h : galois_Pow.f k a0_0 a0_1 a0_2 a1 a2 = some (r1, r2)) :
  Calls Try.prog 58 #[.agg #[.int .i64 a0_0, .int .i64 a0_1, .int .i64 a0_2], .int .i64 a1, .int .i64 a2] w fun e w' => e = .returned (.tuple #[.int .i64 r1, .int .i64 r2]) ∧ Below w.heap.size w w' := by
 have hu23 := Try.underlying23
 have HB := Aside0.mk (Below.refl w.heap.size w)
 have H := h
 unfold galois_Pow.f at H
 clear h
 obtain ⟨y1273, hy1273⟩ : ∃ y_ : List Int, y_ = (([a1] : List Int)) := ⟨_, rfl⟩
 replace H : ((galois_member.f k a0_0 a0_1 a0_2 y1273).bind fun t1276 => (if t1276 = true then (if a1 = 0 then (galois_Pow.j0 k a1 a2 (decide (a2 < 0)) a0_0 a0_1 a0_2) else (galois_Pow.j0 k a1 a2 false a0_0 a0_1 a0_2)) else (some (0, 1)))) = some (r1, r2) := by first | (rw [hy1273]; with_reducible exact H) | (have H2_ := (Option.bind_some _ _).symm.trans H; rw [hy1273]; with_reducible exact H2_) | (have H2_ := (Option.bind_some _ _).symm.trans H; with_reducible exact H2_) | with_reducible exact H | (rw [hy1273]; exact H) | exact H
 have Ny1273 := Aside0.mk hy1273
 clear hy1273
 obtain ⟨t1276, A4, H⟩ := zD H
 by_cases c5 : t1276 = true
 ·subst c5
  rw [if_pos rfl] at H
  have HC6 := Aside0.mk H
  clear H
  go_enter Try.func58, Try.ntmps58
  go_upto_region 3 with (first | ((with_reducible refine gate_dst (N := 3) rfl ?_); refine zBox 3 #[.int .i64 a0_0, .int .i64 a0_1, .int .i64 a0_2] 23 ?_; clear HB; intro gb1272 w7 BK1272 GE1272 HB; (try clear z1272_0 z1272_1 z1272_2 f1272_0 f1272_1 f1272_2); obtain ⟨z1272_0, z1272_1, z1272_2, f1272_0, f1272_1, f1272_2⟩ := cz3 BK1272) | ((with_reducible refine gate_dst (N := 11) rfl ?_); refine Kd.R_lit (Kd.int .i64) _ 3 ?hg (N := 11) ?hd (xs := ([a1] : List Int)) (inner := [.int .i64 a1]) (ok := fun _ => True) (okp := fun _ => True) ?hr ?hp (fun _ hk => hk) trivial (Below.refl _ _) (Nat.le_refl _) (by simp) ?_; (case hd => rfl); (case hg => rfl); (case hr => first | (go_simp; done) | (go_simp; rfl)); (case hp => exact (Reps.one (show Kd.M (Kd.int .i64) _ _ _ a1 [.int .i64 a1] from rfl) (Reps.none _ _))); intro v1274 w9 ho10 hb hg_ hnew_; clear hg_ hnew_; (first | rw [← Ny1273.out] at ho10 | (simp only [Int.reduceToNat] at ho10; rw [← Ny1273.out] at ho10)); have HO1275 := Aside0.mk (Kd.R_lower ho10 (below_size zB)); replace BK1272 := bB BK1272 hb; replace HB := bS hb; clear hb ho10; obtain ⟨Ao11, co11, eo11⟩ := Kd.R_slice HO1275.out; subst eo11) | ((with_reducible refine gate_callee (f := 90) rfl ?_); refine gL (some 12) Try.func90 #[.agg #[.int .i64 a0_0, .int .i64 a0_1, .int .i64 a0_2], .slice Ao11 y1273.length co11] ?_; (with_reducible refine zCall (galois_member.calls k a0_0 a0_1 a0_2 _ _ y1273 true _ ?side1 ?side2 A4.out) ?_); (case side1 => exact zN HO1275); (case side2 => exact (Kd.R_reads' HO1275.out).2.1); intro w12 hb; replace HO1275 := Aside0.mk (Kd.R_below (zO HO1275) hb); replace BK1272 := bB BK1272 hb; replace HB := bS hb; (try clear hb)))
  (try simp only [Act.put, List.setIfInBounds_toArray, List.set_cons_zero, List.set_cons_succ])
  go_cut [14] (fun v14 wc => ∃ (kq : Nat) (x14_5 : Bool), v14 = .bool x14_5 ∧ Aside0 (galois_Pow.j0 kq a1 a2 x14_5 a0_0 a0_1 a0_2 = some (r1, r2)) ∧ Aside0 (kq ≤ k) ∧ Aside0 (wc.heap[gb1272]? = some (.cells #[.int .i64 a0_0, .int .i64 a0_1, .int .i64 a0_2] 23 (0, 0))) ∧ Aside0 (Below w.heap.size w wc))
  case first =>
   have H := HC6.out
   clear HC6
   by_cases c13 : a1 = 0
   ·rw [if_pos c13] at H
    have c13b0 := beq_iff_eq.mpr c13
    have c13b1 := bne_eq_false_iff_eq.mpr c13
    clear c13
    (first | rw [c13b0] | (simp only [i64_w, i32_w]; rw [c13b0]) | skip)
    have H' := zA H
    clear H
    go_wp2
    go_meet
    case rel => exact ⟨_, (decide (a2 < 0)), zR, H', zL, ⟨zK BK1272⟩, ⟨zB⟩⟩
   ·rw [if_neg c13] at H
    have c13b0 := beq_eq_false_iff_ne.mpr c13
    have c13b1 := bne_iff_ne.mpr c13
    (first | rw [c13b0] | (simp only [i64_w, i32_w]; rw [c13b0]) | skip)
    have H' := zA H
    clear H
    go_wp2
    go_meet
    case rel => exact ⟨_, (false), zR, H', zL, ⟨zK BK1272⟩, ⟨zB⟩⟩
  case rest =>
   clear HC6
   try clear c1
   try clear p2
   try clear c5
   try clear c9
   try clear c13
   try clear c13b0
   try clear c13b1
   try clear z1272_0 z1272_1 z1272_2 f1272_0 f1272_1 f1272_2
   obtain ⟨kq, x14_5, rfl, HA, HJ5, BK1272, HB⟩ := hcut
   cases kq with
   | zero => exact absurd HA.out (by simp [galois_Pow.j0])
   | succ kj5 =>
    have H := HA.out
    clear HA
    simp only [galois_Pow.j0] at H
    by_cases c14 : x14_5 = true
    ·subst c14
     rw [if_pos rfl] at H
     simp only [Option.some.injEq, Prod.mk.injEq] at H
     obtain ⟨rfl, rfl⟩ := H
     go_wp2
     go_ret2
     exact ⟨zE, zB⟩
    ·replace c14 := Bool.eq_false_iff.mpr c14
     subst c14
     rw [if_neg (show ¬ (false = true) by decide)] at H
     have HC15 := Aside0.mk H
     clear H
     go_upto_region 5 with (fail)
     go_cut [21] (fun v21 wc => ∃ (kq : Nat) (x21_14 : Bool), v21 = .bool x21_14 ∧ Aside0 (galois_Pow.j1 kq a1 a2 x21_14 a0_0 a0_1 a0_2 = some (r1, r2)) ∧ Aside0 (kq ≤ kj5) ∧ Aside0 (wc.heap[gb1272]? = some (.cells #[.int .i64 a0_0, .int .i64 a0_1, .int .i64 a0_2] 23 (0, 0))) ∧ Aside0 (Below w.heap.size w wc))
     case first =>
      have H := HC15.out
      clear HC15
      by_cases c16 : a1 = 0
      ·rw [if_pos c16] at H
       have c16b0 := beq_iff_eq.mpr c16
       have c16b1 := bne_eq_false_iff_eq.mpr c16
       clear c16
       (first | rw [c16b0] | (simp only [i64_w, i32_w]; rw [c16b0]) | skip)
       have H' := zA H
       clear H
       go_wp2
       go_meet
       case rel => exact ⟨_, (decide (a2 > 0)), zR, H', ⟨by have := HJ5.out; first | omega | exact Nat.le_refl _⟩, ⟨zK BK1272⟩, ⟨zB⟩⟩
      ·rw [if_neg c16] at H
       have c16b0 := beq_eq_false_iff_ne.mpr c16
       have c16b1 := bne_iff_ne.mpr c16
       (first | rw [c16b0] | (simp only [i64_w, i32_w]; rw [c16b0]) | skip)
       have H' := zA H
       clear H
       go_wp2
       go_meet
       case rel => exact ⟨_, (false), zR, H', ⟨by have := HJ5.out; first | omega | exact Nat.le_refl _⟩, ⟨zK BK1272⟩, ⟨zB⟩⟩
     case rest =>
      clear HC15
      try clear c1
      try clear p2
      try clear c5
      try clear c9
      try clear c13
      try clear c13b0
      try clear c13b1
      try clear c14
      try clear c16
      try clear c16b0
      try clear c16b1
      try clear z1272_0 z1272_1 z1272_2 f1272_0 f1272_1 f1272_2
      try clear p2
      obtain ⟨kq, x21_14, rfl, HA, HJ14, BK1272, HB⟩ := hcut
      cases kq with
      | zero => exact absurd HA.out (by simp [galois_Pow.j1])
      | succ kj14 =>
       have H := HA.out
       clear HA
       simp only [galois_Pow.j1] at H
       by_cases c17 : x21_14 = true
       ·subst c17
        rw [if_pos rfl] at H
        simp only [Option.some.injEq, Prod.mk.injEq] at H
        obtain ⟨rfl, rfl⟩ := H
        go_wp2
        go_ret2
        exact ⟨zE, zB⟩
       ·replace c17 := Bool.eq_false_iff.mpr c17
        subst c17
        rw [if_neg (show ¬ (false = true) by decide)] at H
        obtain ⟨t1277, A18, H⟩ := zD H
        obtain ⟨t1278, A19, H⟩ := zD H
        simp only [Option.some.injEq, Prod.mk.injEq] at H
        obtain ⟨rfl, rfl⟩ := H
        try go_wp2
        replace BK1272 := Aside0.mk (blk_drew BK1272.out)
        replace HB := Aside0.mk (below_drew1 HB.out)
        refine start_ (n := 8) (S := fun w' => w'.cell? ⟨gb1272, 0, none⟩ = some (.int .i64 a0_0) ∧ w'.cell? ⟨gb1272, 1, none⟩ = some (.int .i64 a0_1) ∧ w'.cell? ⟨gb1272, 2, none⟩ = some (.int .i64 a0_2)) (ds := []) #[false, false, false, false, false, false, false, false] (by kernel_rfl) rfl rfl zS (fun hHeld => ?_); refine with_tabW galois_Pow.tab7 galois_Pow.bits7 (fun HT_ HW_ => ?_)
        generalize wc.drew = w20 at BK1272 HB hHeld ⊢
        refine pU 1 (some 29) ?_
        refine pU 3 (some 31) ?_
        refine tU 0 (some 28) hHeld ?_
        refine tU 2 (some 30) hHeld ?_
        refine oU 4 (some 32) (fun K hK => ?_)
        refine goes_ Try.func105 (by kernel_rfl) rfl #[.agg #[.int .i64 a0_0, .int .i64 a0_1, .int .i64 a0_2], .int .i64 a2] (by rfl) rfl rfl zM ?_
        with_reducible refine (galois_exponent.calls a0_0 a0_1 a0_2 a2 t1277 _ A18.out).mono ?_
        rintro e w21 ⟨rfl, hb⟩
        refine ⟨_, rfl, ?_⟩
        replace BK1272 := bB BK1272 hb
        replace HB := bS hb
        (try clear hb)
        (try clear hb2)
        (try clear hk)
        (try clear hi)
        refine hK.out _ _ zS (fun hHeld => ?_)
        clear hK K
        refine nU ?_
        refine oU 5 (some 33) (fun K hK => ?_)
        refine goes_ Try.func104 (by kernel_rfl) rfl #[.agg #[.int .i64 a0_0, .int .i64 a0_1, .int .i64 a0_2], .int .i64 a1, .int .i64 t1277] (by rfl) rfl rfl zM ?_
        with_reducible refine (galois_power.calls kj14 a0_0 a0_1 a0_2 a1 t1277 t1278 _ A19.out).mono ?_
        rintro e w22 ⟨rfl, hb⟩
        refine ⟨_, rfl, ?_⟩
        replace BK1272 := bB BK1272 hb
        replace HB := bS hb
        (try clear hb)
        (try clear hb2)
        (try clear hk)
        (try clear hi)
        refine hK.out _ _ zS (fun hHeld => ?_)
        clear hK K
        refine nU ?_
        refine pU 6 (some 6) ?_
        refine pU 7 (some 7) ?_
        refine dU ?_
        try go_wp2
        go_ret2
        exact ⟨zE, zB⟩
 ·replace c5 := Bool.eq_false_iff.mpr c5
  subst c5
  rw [if_neg (show ¬ (false = true) by decide)] at H
  simp only [Option.some.injEq, Prod.mk.injEq] at H
  obtain ⟨rfl, rfl⟩ := H
  go_enter Try.func58, Try.ntmps58
  go_wp2_with (first | ((with_reducible refine gate_dst (N := 3) rfl ?_); refine zBox 3 #[.int .i64 a0_0, .int .i64 a0_1, .int .i64 a0_2] 23 ?_; clear HB; intro gb1272 w23 BK1272 GE1272 HB; (try clear z1272_0 z1272_1 z1272_2 f1272_0 f1272_1 f1272_2); obtain ⟨z1272_0, z1272_1, z1272_2, f1272_0, f1272_1, f1272_2⟩ := cz3 BK1272) | ((with_reducible refine gate_dst (N := 11) rfl ?_); refine Kd.R_lit (Kd.int .i64) _ 3 ?hg (N := 11) ?hd (xs := ([a1] : List Int)) (inner := [.int .i64 a1]) (ok := fun _ => True) (okp := fun _ => True) ?hr ?hp (fun _ hk => hk) trivial (Below.refl _ _) (Nat.le_refl _) (by simp) ?_; (case hd => rfl); (case hg => rfl); (case hr => first | (go_simp; done) | (go_simp; rfl)); (case hp => exact (Reps.one (show Kd.M (Kd.int .i64) _ _ _ a1 [.int .i64 a1] from rfl) (Reps.none _ _))); intro v1274 w25 ho26 hb hg_ hnew_; clear hg_ hnew_; (first | rw [← Ny1273.out] at ho26 | (simp only [Int.reduceToNat] at ho26; rw [← Ny1273.out] at ho26)); have HO1275 := Aside0.mk (Kd.R_lower ho26 (below_size zB)); replace BK1272 := bB BK1272 hb; replace HB := bS hb; clear hb ho26; obtain ⟨Ao27, co27, eo27⟩ := Kd.R_slice HO1275.out; subst eo27) | ((with_reducible refine gate_callee (f := 90) rfl ?_); refine gL (some 12) Try.func90 #[.agg #[.int .i64 a0_0, .int .i64 a0_1, .int .i64 a0_2], .slice Ao27 y1273.length co27] ?_; (with_reducible refine zCall (galois_member.calls k a0_0 a0_1 a0_2 _ _ y1273 false _ ?side1 ?side2 A4.out) ?_); (case side1 => exact zN HO1275); (case side2 => exact (Kd.R_reads' HO1275.out).2.1); intro w28 hb; replace HO1275 := Aside0.mk (Kd.R_below (zO HO1275) hb); replace BK1272 := bB BK1272 hb; replace HB := bS hb; (try clear hb)))
  go_ret2
  exact ⟨zE, zB⟩
/-! ### barscanref04_raise: function 108 -/
def barscanref04_raise.f (k : Nat) (a0_0 : Int) (a0_1 : Int) (a0_2 : Int) (a1 : Int) (a2 : Int) : Option (Int) := if a1 = 0 then (if a2 = 0 then (some 1) else (some 0)) else (if (wrap64 (a0_1 - 1)) = 0 then (none) else ((barscanref04_Power.f k a0_0 a0_1 a0_2 a1 (Int.tmod (wrap64 ((Int.tmod a2 (wrap64 (a0_1 - 1))) + (wrap64 (a0_1 - 1)))) (wrap64 (a0_1 - 1)))).bind fun t1280 => (some t1280)))
theorem barscanref04_raise.mono : ∀ a0 a1 a2 a3 a4 k, LeO (barscanref04_raise.f k a0 a1 a2 a3 a4) (barscanref04_raise.f (k + 1) a0 a1 a2 a3 a4) := by
 intro a0 a1 a2 a3 a4 k
 unfold barscanref04_raise.f
 have m0_ := @barscanref04_Power.mono
 exact zMo
def barscanref04_raise.T6 : Bool × List (List Nat × List Nat) := (true, [([], []), ([], []), ([], []), ([], []), ([2, 3], [2, 3]), ([], []), ([4, 5], [4, 5]), ([], []), ([6, 7], [6, 7]), ([0, 1, 8], [0, 1, 8]), ([9, 9, 0, 1, 2, 3, 4, 5, 6, 7, 8, 9], [9])])
def barscanref04_raise.B6 : List Nat := [0, 0, 0, 0, 12, 0, 60, 0, 252, 511, 1023]
theorem barscanref04_raise.tab6 : rtab .any (opsOf Try.f108 6) = barscanref04_raise.T6 := by kernel_rfl
theorem barscanref04_raise.bits6 : waitsOk barscanref04_raise.T6.2 barscanref04_raise.B6 = true := by kernel_rfl
theorem barscanref04_raise.calls (k : Nat) (a0_0 : Int) (a0_1 : Int) (a0_2 : Int) (a1 : Int) (a2 : Int) (r : Int) (w : World) (h : barscanref04_raise.f k a0_0 a0_1 a0_2 a1 a2 = some r) :
  Calls Try.prog 108 #[.agg #[.int .i64 a0_0, .int .i64 a0_1, .int .i64 a0_2], .int .i64 a1, .int .i64 a2] w fun e w' => e = .returned (.int .i64 r) ∧ Below w.heap.size w w' := by
 have hu23 := Try.underlying23
 have HB := Aside0.mk (Below.refl w.heap.size w)
 have H := h
 unfold barscanref04_raise.f at H
 clear h
 by_cases c4 : a1 = 0
 ·rw [if_pos c4] at H
  have c4b0 := beq_iff_eq.mpr c4
  have c4b1 := bne_eq_false_iff_eq.mpr c4
  clear c4
  by_cases c5 : a2 = 0
  ·rw [if_pos c5] at H
   have c5b0 := beq_iff_eq.mpr c5
   have c5b1 := bne_eq_false_iff_eq.mpr c5
   clear c5
   obtain rfl := Option.some.inj H
   go_enter Try.func108, Try.ntmps108
   go_wp2_with (first | ((with_reducible refine gate_dst (N := 3) rfl ?_); refine zBox 3 #[.int .i64 a0_0, .int .i64 a0_1, .int .i64 a0_2] 23 ?_; clear HB; intro gb1279 w6 BK1279 GE1279 HB))
   go_ret
   exact ⟨zE, zB⟩
  ·rw [if_neg c5] at H
   have c5b0 := beq_eq_false_iff_ne.mpr c5
   have c5b1 := bne_iff_ne.mpr c5
   obtain rfl := Option.some.inj H
   go_enter Try.func108, Try.ntmps108
   go_wp2_with (first | ((with_reducible refine gate_dst (N := 3) rfl ?_); refine zBox 3 #[.int .i64 a0_0, .int .i64 a0_1, .int .i64 a0_2] 23 ?_; clear HB; intro gb1279 w7 BK1279 GE1279 HB))
   go_ret
   exact ⟨zE, zB⟩
 ·rw [if_neg c4] at H
  have c4b0 := beq_eq_false_iff_ne.mpr c4
  have c4b1 := bne_iff_ne.mpr c4
  by_cases c8 : (wrap64 (a0_1 - 1)) = 0
  ·rw [if_pos c8] at H
   exact absurd H (by simp)
  ·rw [if_neg c8] at H
   have c8b0 := beq_eq_false_iff_ne.mpr c8
   have c8b1 := bne_iff_ne.mpr c8
   obtain ⟨t1280, A9, H⟩ := zD H
   obtain rfl := Option.some.inj H
   go_enter Try.func108, Try.ntmps108
   try go_wp2_with (first | ((with_reducible refine gate_dst (N := 3) rfl ?_); refine zBox 3 #[.int .i64 a0_0, .int .i64 a0_1, .int .i64 a0_2] 23 ?_; clear HB; intro gb1279 w10 BK1279 GE1279 HB; (try clear z1279_0 z1279_1 z1279_2 f1279_0 f1279_1 f1279_2); obtain ⟨z1279_0, z1279_1, z1279_2, f1279_0, f1279_1, f1279_2⟩ := cz3 BK1279))
   replace BK1279 := Aside0.mk (blk_drew BK1279.out)
   replace HB := Aside0.mk (below_drew1 HB.out)
   refine start_ (n := 11) (S := fun w' => w'.cell? ⟨gb1279, 0, none⟩ = some (.int .i64 a0_0) ∧ w'.cell? ⟨gb1279, 1, none⟩ = some (.int .i64 a0_1) ∧ w'.cell? ⟨gb1279, 2, none⟩ = some (.int .i64 a0_2)) (ds := []) #[false, false, false, false, false, false, false, false, false, false, false] (by kernel_rfl) rfl rfl zS (fun hHeld => ?_); refine with_tabW barscanref04_raise.tab6 barscanref04_raise.bits6 (fun HT_ HW_ => ?_)
   generalize w10.drew = w12 at BK1279 HB hHeld ⊢
   refine pU 1 (some 16) ?_
   refine pU 2 (some 17) ?_
   refine pU 3 (some 18) ?_
   refine pU 4 (some 19) ?_
   refine pU 5 (some 20) ?_
   refine pU 6 (some 21) ?_
   refine pU 7 (some 22) ?_
   refine pU 8 (some 23) ?_
   refine tU 0 (some 15) hHeld ?_
   refine oU 9 (some 24) (fun K hK => ?_)
   refine goes_ Try.func129 (by kernel_rfl) rfl #[.agg #[.int .i64 a0_0, .int .i64 a0_1, .int .i64 a0_2], .int .i64 a1, .int .i64 (Int.tmod (wrap64 ((Int.tmod a2 (wrap64 (a0_1 - 1))) + (wrap64 (a0_1 - 1)))) (wrap64 (a0_1 - 1)))] (by rfl) rfl rfl zM ?_
   with_reducible refine (barscanref04_Power.calls k a0_0 a0_1 a0_2 a1 (Int.tmod (wrap64 ((Int.tmod a2 (wrap64 (a0_1 - 1))) + (wrap64 (a0_1 - 1)))) (wrap64 (a0_1 - 1))) t1280 _ A9.out).mono ?_
   rintro e w13 ⟨rfl, hb⟩
   refine ⟨_, rfl, ?_⟩
   replace BK1279 := bB BK1279 hb
   replace HB := bS hb
   (try clear hb)
   (try clear hb2)
   (try clear hk)
   (try clear hi)
   refine hK.out _ _ zS (fun hHeld => ?_)
   clear hK K
   refine nU ?_
   refine pU 10 (some 6) ?_
   refine dU ?_
   try go_wp2
   go_ret
   exact ⟨zE, zB⟩
/-! ### barscanref04_Pow: function 59 -/
def barscanref04_Pow.j0 : Nat → Int → Int → Bool → Int → Int → Int → Option (Int × Int)
 | 0, _, _, _, _, _, _ => none
 | k + 1, x1, x2, x16, x1282000, x1282001, x1282002 => if x16 = true then (some (0, 1)) else (if x1 = 0 then (if x2 < 0 then (some (0, 12)) else ((barscanref04_raise.f k x1282000 x1282001 x1282002 x1 x2).bind fun t1284 => (some (t1284, 0)))) else ((barscanref04_raise.f k x1282000 x1282001 x1282002 x1 x2).bind fun t1285 => (some (t1285, 0))))
def barscanref04_Pow.f (k : Nat) (a0_0 : Int) (a0_1 : Int) (a0_2 : Int) (a1 : Int) (a2 : Int) : Option (Int × Int) := (barscanref04_Valid.f k a0_0 a0_1 a0_2).bind fun t1282 => (if t1282 = true then ((barscanref04_Is.f a0_0 a0_1 a0_2 a1).bind fun t1283 => (barscanref04_Pow.j0 k a1 a2 (!t1283) a0_0 a0_1 a0_2)) else (barscanref04_Pow.j0 k a1 a2 true a0_0 a0_1 a0_2))
theorem barscanref04_Pow.mono_l : ∀ k, (∀ y0 y1 y2 y3 y4 y5, LeO (barscanref04_Pow.j0 k y0 y1 y2 y3 y4 y5) (barscanref04_Pow.j0 (k + 1) y0 y1 y2 y3 y4 y5))
 | 0 => fun _ _ _ _ _ _ r h => by simp [barscanref04_Pow.j0] at h
 | k + 1 => by
  have ih0 := barscanref04_Pow.mono_l k
  ·intro y0 y1 y2 y3 y4 y5
   unfold barscanref04_Pow.j0
   have m0_ := @barscanref04_Valid.mono
   have m1_ := @barscanref04_raise.mono
   exact zMo
theorem barscanref04_Pow.mono : ∀ a0 a1 a2 a3 a4 k, LeO (barscanref04_Pow.f k a0 a1 a2 a3 a4) (barscanref04_Pow.f (k + 1) a0 a1 a2 a3 a4) := by
 intro a0 a1 a2 a3 a4 k
 have ih0 := barscanref04_Pow.mono_l k
 unfold barscanref04_Pow.f
 have m0_ := @barscanref04_Valid.mono
 have m1_ := @barscanref04_raise.mono
 exact zMo
theorem barscanref04_Pow.calls (k : Nat) (a0_0 : Int) (a0_1 : Int) (a0_2 : Int) (a1 : Int) (a2 : Int) (r1 : Int) (r2 : Int) (w : World) (h : barscanref04_Pow.f k a0_0 a0_1 a0_2 a1 a2 = some (r1, r2)) :
  Calls Try.prog 59 #[.agg #[.int .i64 a0_0, .int .i64 a0_1, .int .i64 a0_2], .int .i64 a1, .int .i64 a2] w fun e w' => e = .returned (.tuple #[.int .i64 r1, .int .i64 r2]) ∧ Below w.heap.size w w' := by
 have hu23 := Try.underlying23
 have HB := Aside0.mk (Below.refl w.heap.size w)
 have H := h
 unfold barscanref04_Pow.f at H
 clear h
 have HC4 := Aside0.mk H
 clear H
 go_enter Try.func59, Try.ntmps59
 go_upto_region 1 with (first | ((with_reducible refine gate_dst (N := 3) rfl ?_); refine zBox 3 #[.int .i64 a0_0, .int .i64 a0_1, .int .i64 a0_2] 23 ?_; clear HB; intro gb1281 w5 BK1281 GE1281 HB))
 (try simp only [Act.put, List.setIfInBounds_toArray, List.set_cons_zero, List.set_cons_succ])
 go_cut [16] (fun v16 wc => ∃ (kq : Nat) (x16_3 : Bool), v16 = .bool x16_3 ∧ Aside0 (barscanref04_Pow.j0 kq a1 a2 x16_3 a0_0 a0_1 a0_2 = some (r1, r2)) ∧ Aside0 (kq ≤ k) ∧ Aside0 (wc.heap[gb1281]? = some (.cells #[.int .i64 a0_0, .int .i64 a0_1, .int .i64 a0_2] 23 (0, 0))) ∧ Aside0 (Below w.heap.size w wc))
 case first =>
  have H := HC4.out
  clear HC4
  obtain ⟨t1282, A6, H⟩ := zD H
  by_cases c7 : t1282 = true
  ·subst c7
   rw [if_pos rfl] at H
   obtain ⟨t1283, A8, H⟩ := zD H
   have H' := zA H
   clear H
   (try clear z1281_0 z1281_1 z1281_2 f1281_0 f1281_1 f1281_2)
   obtain ⟨z1281_0, z1281_1, z1281_2, f1281_0, f1281_1, f1281_2⟩ := cz3 BK1281
   go_wp2_with (first | ((with_reducible refine gate_callee (f := 26) rfl ?_); refine gL (some 9) Try.func26 #[.agg #[.int .i64 a0_0, .int .i64 a0_1, .int .i64 a0_2]] ?_; (with_reducible refine zCall (barscanref04_Valid.calls k a0_0 a0_1 a0_2 true _ A6.out) ?_); intro w10 hb; replace BK1281 := bB BK1281 hb; replace HB := bS hb; (try clear hb); (try clear z1281_0 z1281_1 z1281_2 f1281_0 f1281_1 f1281_2); obtain ⟨z1281_0, z1281_1, z1281_2, f1281_0, f1281_1, f1281_2⟩ := cz3 BK1281) | (go_at_call 44; (with_reducible refine (barscanref04_Is.calls a0_0 a0_1 a0_2 a1 t1283 _ A8.out).mono ?_); rintro e w12 ⟨rfl, hb⟩; replace BK1281 := bB BK1281 hb; replace HB := bS hb; (try clear hb)))
   go_meet
   case rel => exact ⟨_, (!t1283), zR, H', zL, ⟨zK BK1281⟩, ⟨zB⟩⟩
  ·replace c7 := Bool.eq_false_iff.mpr c7
   subst c7
   rw [if_neg (show ¬ (false = true) by decide)] at H
   have H' := zA H
   clear H
   (try clear z1281_0 z1281_1 z1281_2 f1281_0 f1281_1 f1281_2)
   obtain ⟨z1281_0, z1281_1, z1281_2, f1281_0, f1281_1, f1281_2⟩ := cz3 BK1281
   go_wp2_with (first | ((with_reducible refine gate_callee (f := 26) rfl ?_); refine gL (some 9) Try.func26 #[.agg #[.int .i64 a0_0, .int .i64 a0_1, .int .i64 a0_2]] ?_; (with_reducible refine zCall (barscanref04_Valid.calls k a0_0 a0_1 a0_2 false _ A6.out) ?_); intro w14 hb; replace BK1281 := bB BK1281 hb; replace HB := bS hb; (try clear hb)))
   go_meet
   case rel => exact ⟨_, (true), zR, H', zL, ⟨zK BK1281⟩, ⟨zB⟩⟩
 case rest =>
  clear HC4
  try clear c2
  try clear p2
  try clear c5
  try clear c7
  try clear z1281_0 z1281_1 z1281_2 f1281_0 f1281_1 f1281_2
  obtain ⟨kq, x16_3, rfl, HA, HJ3, BK1281, HB⟩ := hcut
  cases kq with
  | zero => exact absurd HA.out (by simp [barscanref04_Pow.j0])
  | succ kj3 =>
   have H := HA.out
   clear HA
   simp only [barscanref04_Pow.j0] at H
   by_cases c15 : x16_3 = true
   ·subst c15
    rw [if_pos rfl] at H
    simp only [Option.some.injEq, Prod.mk.injEq] at H
    obtain ⟨rfl, rfl⟩ := H
    go_wp2
    go_ret2
    exact ⟨zE, zB⟩
   ·replace c15 := Bool.eq_false_iff.mpr c15
    subst c15
    rw [if_neg (show ¬ (false = true) by decide)] at H
    by_cases c16 : a1 = 0
    ·rw [if_pos c16] at H
     have c16b0 := beq_iff_eq.mpr c16
     have c16b1 := bne_eq_false_iff_eq.mpr c16
     clear c16
     by_cases c17 : a2 < 0
     ·rw [if_pos c17] at H
      have c17b0 : decide (a2 < 0) = true := decide_eq_true c17
      clear c17
      simp only [Option.some.injEq, Prod.mk.injEq] at H
      obtain ⟨rfl, rfl⟩ := H
      go_wp2
      go_ret2
      exact ⟨zE, zB⟩
     ·rw [if_neg c17] at H
      have c17b0 : decide (a2 < 0) = false := decide_eq_false c17
      clear c17
      obtain ⟨t1284, A18, H⟩ := zD H
      simp only [Option.some.injEq, Prod.mk.injEq] at H
      obtain ⟨rfl, rfl⟩ := H
      (try clear z1281_0 z1281_1 z1281_2 f1281_0 f1281_1 f1281_2)
      obtain ⟨z1281_0, z1281_1, z1281_2, f1281_0, f1281_1, f1281_2⟩ := cz3 BK1281
      go_wp2_with (first | ((with_reducible refine gate_callee (f := 108) rfl ?_); refine gL (some 26) Try.func108 #[.agg #[.int .i64 a0_0, .int .i64 a0_1, .int .i64 a0_2], .int .i64 a1, .int .i64 a2] ?_; (with_reducible refine zCall (barscanref04_raise.calls kj3 a0_0 a0_1 a0_2 a1 a2 t1284 _ A18.out) ?_); intro w20 hb; replace BK1281 := bB BK1281 hb; replace HB := bS hb; (try clear hb)))
      go_ret2
      exact ⟨zE, zB⟩
    ·rw [if_neg c16] at H
     have c16b0 := beq_eq_false_iff_ne.mpr c16
     have c16b1 := bne_iff_ne.mpr c16
     obtain ⟨t1285, A21, H⟩ := zD H
     simp only [Option.some.injEq, Prod.mk.injEq] at H
     obtain ⟨rfl, rfl⟩ := H
     (try clear z1281_0 z1281_1 z1281_2 f1281_0 f1281_1 f1281_2)
     obtain ⟨z1281_0, z1281_1, z1281_2, f1281_0, f1281_1, f1281_2⟩ := cz3 BK1281
     go_wp2_with (first | ((with_reducible refine gate_callee (f := 108) rfl ?_); refine gL (some 26) Try.func108 #[.agg #[.int .i64 a0_0, .int .i64 a0_1, .int .i64 a0_2], .int .i64 a1, .int .i64 a2] ?_; (with_reducible refine zCall (barscanref04_raise.calls kj3 a0_0 a0_1 a0_2 a1 a2 t1285 _ A21.out) ?_); intro w23 hb; replace BK1281 := bB BK1281 hb; replace HB := bS hb; (try clear hb)))
     go_ret2
     exact ⟨zE, zB⟩
/-! ### barscanref04_Exp: function 60 -/
def barscanref04_Exp.f (k : Nat) (a0_0 : Int) (a0_1 : Int) (a0_2 : Int) (a1 : Int) : Option (Int × Int) := (barscanref04_Valid.f k a0_0 a0_1 a0_2).bind fun t1287 => (if t1287 = true then ((barscanref04_Primitive.f k a0_0 a0_1 a0_2).bind fun t1288 => ((barscanref04_raise.f k a0_0 a0_1 a0_2 t1288 a1).bind fun t1289 => (some (t1289, 0)))) else (some (0, 1)))
theorem barscanref04_Exp.mono : ∀ a0 a1 a2 a3 k, LeO (barscanref04_Exp.f k a0 a1 a2 a3) (barscanref04_Exp.f (k + 1) a0 a1 a2 a3) := by
 intro a0 a1 a2 a3 k
 unfold barscanref04_Exp.f
 have m0_ := @barscanref04_Primitive.mono
 have m1_ := @barscanref04_Valid.mono
 have m2_ := @barscanref04_raise.mono
 exact zMo
theorem barscanref04_Exp.calls (k : Nat) (a0_0 : Int) (a0_1 : Int) (a0_2 : Int) (a1 : Int) (r1 : Int) (r2 : Int) (w : World) (h : barscanref04_Exp.f k a0_0 a0_1 a0_2 a1 = some (r1, r2)) :
  Calls Try.prog 60 #[.agg #[.int .i64 a0_0, .int .i64 a0_1, .int .i64 a0_2], .int .i64 a1] w fun e w' => e = .returned (.tuple #[.int .i64 r1, .int .i64 r2]) ∧ Below w.heap.size w w' := by
 have hu23 := Try.underlying23
 have HB := Aside0.mk (Below.refl w.heap.size w)
 have H := h
 unfold barscanref04_Exp.f at H
 clear h
 obtain ⟨t1287, A3, H⟩ := zD H
 by_cases c4 : t1287 = true
 ·subst c4
  rw [if_pos rfl] at H
  obtain ⟨t1288, A5, H⟩ := zD H
  obtain ⟨t1289, A6, H⟩ := zD H
  simp only [Option.some.injEq, Prod.mk.injEq] at H
  obtain ⟨rfl, rfl⟩ := H
  go_enter Try.func60, Try.ntmps60
  try go_wp2_with (first | ((with_reducible refine gate_dst (N := 2) rfl ?_); refine zBox 2 #[.int .i64 a0_0, .int .i64 a0_1, .int .i64 a0_2] 23 ?_; clear HB; intro gb1286 w7 BK1286 GE1286 HB; (try clear z1286_0 z1286_1 z1286_2 f1286_0 f1286_1 f1286_2); obtain ⟨z1286_0, z1286_1, z1286_2, f1286_0, f1286_1, f1286_2⟩ := cz3 BK1286) | ((with_reducible refine gate_callee (f := 26) rfl ?_); refine gL (some 7) Try.func26 #[.agg #[.int .i64 a0_0, .int .i64 a0_1, .int .i64 a0_2]] ?_; (with_reducible refine zCall (barscanref04_Valid.calls k a0_0 a0_1 a0_2 true _ A3.out) ?_); intro w9 hb; replace BK1286 := bB BK1286 hb; replace HB := bS hb; (try clear hb)))
  replace BK1286 := Aside0.mk (blk_drew BK1286.out)
  replace HB := Aside0.mk (below_drew1 HB.out)
  refine start_ (n := 7) (S := fun w' => w'.cell? ⟨gb1286, 0, none⟩ = some (.int .i64 a0_0) ∧ w'.cell? ⟨gb1286, 1, none⟩ = some (.int .i64 a0_1) ∧ w'.cell? ⟨gb1286, 2, none⟩ = some (.int .i64 a0_2)) (ds := []) #[false, false, false, false, false, false, false] (by kernel_rfl) rfl rfl zS (fun hHeld => ?_)
  generalize w9.drew = w10 at BK1286 HB hHeld ⊢
  refine pU 3 (some 12) ?_
  refine tU 0 (some 9) hHeld ?_
  refine tU 1 (some 10) hHeld ?_
  refine oU 2 (some 11) (fun K hK => ?_)
  refine goes_ Try.func94 (by kernel_rfl) rfl #[.agg #[.int .i64 a0_0, .int .i64 a0_1, .int .i64 a0_2]] (by rfl) rfl rfl zM ?_
  with_reducible refine (barscanref04_Primitive.calls k a0_0 a0_1 a0_2 t1288 _ A5.out).mono ?_
  rintro e w11 ⟨rfl, hb⟩
  refine ⟨_, rfl, ?_⟩
  replace BK1286 := bB BK1286 hb
  replace HB := bS hb
  (try clear hb)
  (try clear hb2)
  (try clear hk)
  (try clear hi)
  refine hK.out _ _ zS (fun hHeld => ?_)
  clear hK K
  refine nU ?_
  refine oU 4 (some 13) (fun K hK => ?_)
  refine goes_ Try.func108 (by kernel_rfl) rfl #[.agg #[.int .i64 a0_0, .int .i64 a0_1, .int .i64 a0_2], .int .i64 t1288, .int .i64 a1] (by rfl) rfl rfl zM ?_
  with_reducible refine (barscanref04_raise.calls k a0_0 a0_1 a0_2 t1288 a1 t1289 _ A6.out).mono ?_
  rintro e w12 ⟨rfl, hb⟩
  refine ⟨_, rfl, ?_⟩
  replace BK1286 := bB BK1286 hb
  replace HB := bS hb
  (try clear hb)
  (try clear hb2)
  (try clear hk)
  (try clear hi)
  refine hK.out _ _ zS (fun hHeld => ?_)
  clear hK K
  refine nU ?_
  refine pU 5 (some 4) ?_
  refine pU 6 (some 5) ?_
  refine dU ?_
  try go_wp2
  go_ret2
  exact ⟨zE, zB⟩
 ·replace c4 := Bool.eq_false_iff.mpr c4
  subst c4
  rw [if_neg (show ¬ (false = true) by decide)] at H
  simp only [Option.some.injEq, Prod.mk.injEq] at H
  obtain ⟨rfl, rfl⟩ := H
  go_enter Try.func60, Try.ntmps60
  go_wp2_with (first | ((with_reducible refine gate_dst (N := 2) rfl ?_); refine zBox 2 #[.int .i64 a0_0, .int .i64 a0_1, .int .i64 a0_2] 23 ?_; clear HB; intro gb1286 w13 BK1286 GE1286 HB; (try clear z1286_0 z1286_1 z1286_2 f1286_0 f1286_1 f1286_2); obtain ⟨z1286_0, z1286_1, z1286_2, f1286_0, f1286_1, f1286_2⟩ := cz3 BK1286) | ((with_reducible refine gate_callee (f := 26) rfl ?_); refine gL (some 7) Try.func26 #[.agg #[.int .i64 a0_0, .int .i64 a0_1, .int .i64 a0_2]] ?_; (with_reducible refine zCall (barscanref04_Valid.calls k a0_0 a0_1 a0_2 false _ A3.out) ?_); intro w15 hb; replace BK1286 := bB BK1286 hb; replace HB := bS hb; (try clear hb)))
  go_ret2
  exact ⟨zE, zB⟩
end Go.Proofs.Ytlhaclammaaabaa.Pg
