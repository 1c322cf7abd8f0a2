-- Written by a program of this session over the print of the kit.
import Derived.Test.YtlhaclammaaabaaY
import Derived.Test.YtlhaclammaaabaaB1
import Derived.Test.YtlhaclammaaabaaB3
import Derived.Test.YtlhaclammaaabaaHClone
import Derived.Test.YtlhaclammaaabaaHEls
import Derived.Test.YtlhaclammaaabaaHVal
namespace Go.Proofs.Ytlhaclammaaabaa.Pg
open Go.RowKit Go.Proofs.YtlhaclammaaabaaW.PrintWords Go.Proofs.YtlhaclammaaabaaW.PrintLast Go.Proofs.YtlhaclammaaabaaW.PrintMore
attribute [local go_sem] max2_int min2_int max_two min_two max_three min_three max_four min_four
set_option linter.unusedVariables false
set_option maxHeartbeats 8000000
set_option maxRecDepth 100000
set_option linter.unusedSimpArgs false
/-! ### polynomial_Interpolate: function 64 -/
mutual
def polynomial_Interpolate.j0 : Nat → List Int → List Int → Bool → Int → Int → Int → Option (List Int × Int)
 | 0, _, _, _, _, _, _ => none
 | k + 1, x1, x2, x14, x948000, x948001, x948002 => if x14 = true then (some (([] : List Int), 1)) else (if (x1.length : Int) = (x2.length : Int) then (polynomial_Interpolate.l0 k x1 x2 ([] : List Int) (([1] : List Int)) x1 (x1.length : Int) 0 x948000 x948001 x948002) else (some (([] : List Int), 7)))
def polynomial_Interpolate.l0 : Nat → List Int → List Int → List Int → List Int → List Int → Int → Int → Int → Int → Int → Option (List Int × Int)
 | 0, _, _, _, _, _, _, _, _, _, _ => none
 | k + 1, x1, x2, x8, x9, x32, x33, x34, x948000, x948001, x948002 => if x34 < x33 then (if 0 ≤ x34 then (if x34 < (x32.length : Int) then (if x34 ≤ (x1.length : Int) then ((slices_Contains_int_int.f k (x1.take (x34 : Int).toNat) (rd x32 x34)).bind fun t955 => (if t955 = true then (some (([] : List Int), 30)) else (if x34 < (x2.length : Int) then ((polynomial_value.f k x948000 x948001 x948002 x8 (rd x32 x34)).bind fun t957 => ((polynomial_sub.f x948000 x948001 x948002 (rd x2 x34) t957).bind fun t958 => ((polynomial_value.f k x948000 x948001 x948002 x9 (rd x32 x34)).bind fun t959 => ((polynomial_inverse.f k x948000 x948001 x948002 t959).bind fun t960 => ((polynomial_mul.f k x948000 x948001 x948002 t958 t960).bind fun t961 => ((polynomial_scaled.f k x948000 x948001 x948002 x9 t961).bind fun t962 => ((polynomial_sum.f k x948000 x948001 x948002 x8 t962).bind fun t965 => ((polynomial_sub.f x948000 x948001 x948002 0 (rd x32 x34)).bind fun t968 => ((polynomial_product.f k x948000 x948001 x948002 x9 (([t968, 1] : List Int))).bind fun t972 => (polynomial_Interpolate.l0 k x1 x2 t965 t972 x32 x33 (wrap64 (x34 + 1)) x948000 x948001 x948002)))))))))) else (none)))) else (none)) else (none)) else (none)) else (some (x8, 0))
end
def polynomial_Interpolate.f (k : Nat) (a0_0 : Int) (a0_1 : Int) (a0_2 : Int) (l1 : List Int) (l2 : List Int) : Option (List Int × Int) := (polynomial_elements.f k a0_0 a0_1 a0_2 l1).bind fun t948 => (if t948 = true then ((polynomial_elements.f k a0_0 a0_1 a0_2 l2).bind fun t949 => (polynomial_Interpolate.j0 k l1 l2 (!t949) a0_0 a0_1 a0_2)) else (polynomial_Interpolate.j0 k l1 l2 true a0_0 a0_1 a0_2))
theorem polynomial_Interpolate.mono_l : ∀ k, (∀ y0 y1 y2 y3 y4 y5, LeO (polynomial_Interpolate.j0 k y0 y1 y2 y3 y4 y5) (polynomial_Interpolate.j0 (k + 1) y0 y1 y2 y3 y4 y5)) ∧ (∀ y0 y1 y2 y3 y4 y5 y6 y7 y8 y9, LeO (polynomial_Interpolate.l0 k y0 y1 y2 y3 y4 y5 y6 y7 y8 y9) (polynomial_Interpolate.l0 (k + 1) y0 y1 y2 y3 y4 y5 y6 y7 y8 y9))
 | 0 => ⟨fun _ _ _ _ _ _ r h => by simp [polynomial_Interpolate.j0] at h, fun _ _ _ _ _ _ _ _ _ _ r h => by simp [polynomial_Interpolate.l0] at h⟩
 | k + 1 => by
  obtain ⟨ih0, ih1⟩ := polynomial_Interpolate.mono_l k
  refine ⟨?_, ?_⟩
  ·intro y0 y1 y2 y3 y4 y5
   unfold polynomial_Interpolate.j0
   have m0_ := @polynomial_elements.mono
   have m1_ := @polynomial_inverse.mono
   have m2_ := @polynomial_mul.mono
   have m3_ := @polynomial_product.mono
   have m4_ := @polynomial_scaled.mono
   have m5_ := @polynomial_sum.mono
   have m6_ := @polynomial_value.mono
   have m7_ := @slices_Contains_int_int.mono
   exact zMo
  ·intro y0 y1 y2 y3 y4 y5 y6 y7 y8 y9
   unfold polynomial_Interpolate.l0
   have m0_ := @polynomial_elements.mono
   have m1_ := @polynomial_inverse.mono
   have m2_ := @polynomial_mul.mono
   have m3_ := @polynomial_product.mono
   have m4_ := @polynomial_scaled.mono
   have m5_ := @polynomial_sum.mono
   have m6_ := @polynomial_value.mono
   have m7_ := @slices_Contains_int_int.mono
   exact zMo
theorem polynomial_Interpolate.mono : ∀ a0 a1 a2 a3 a4 k, LeO (polynomial_Interpolate.f k a0 a1 a2 a3 a4) (polynomial_Interpolate.f (k + 1) a0 a1 a2 a3 a4) := by
 intro a0 a1 a2 a3 a4 k
 obtain ⟨ih0, ih1⟩ := polynomial_Interpolate.mono_l k
 unfold polynomial_Interpolate.f
 have m0_ := @polynomial_elements.mono
 have m1_ := @polynomial_inverse.mono
 have m2_ := @polynomial_mul.mono
 have m3_ := @polynomial_product.mono
 have m4_ := @polynomial_scaled.mono
 have m5_ := @polynomial_sum.mono
 have m6_ := @polynomial_value.mono
 have m7_ := @slices_Contains_int_int.mono
 exact zMo
def polynomial_Interpolate.T12 : Bool × List (List Nat × List Nat) := (true, [([], []), ([], []), ([], []), ([1, 2], [1, 2]), ([3], [3]), ([], []), ([], []), ([], []), ([5, 6, 7], [5, 6, 7]), ([0, 4, 8, 8], [0, 4, 8]), ([9, 9, 0, 1, 2, 3, 4, 5, 6, 7, 8, 9], [9])])
def polynomial_Interpolate.B12 : List Nat := [0, 0, 0, 6, 14, 0, 0, 0, 224, 511, 1023]
theorem polynomial_Interpolate.tab12 : rtab .any (opsOf Try.f64 12) = polynomial_Interpolate.T12 := by kernel_rfl
theorem polynomial_Interpolate.bits12 : waitsOk polynomial_Interpolate.T12.2 polynomial_Interpolate.B12 = true := by kernel_rfl
def polynomial_Interpolate.T13 : Bool × List (List Nat × List Nat) := (true, [([], []), ([], []), ([], []), ([], []), ([], []), ([], []), ([3, 4, 5], [3, 4, 5]), ([2, 6, 6], [2, 6]), ([0, 1, 7, 7], [0, 1, 7]), ([8, 8, 0, 1, 2, 3, 4, 5, 6, 7, 8], [8])])
def polynomial_Interpolate.B13 : List Nat := [0, 0, 0, 0, 0, 0, 56, 124, 255, 511]
theorem polynomial_Interpolate.tab13 : rtab .any (opsOf Try.f64 13) = polynomial_Interpolate.T13 := by kernel_rfl
theorem polynomial_Interpolate.bits13 : waitsOk polynomial_Interpolate.T13.2 polynomial_Interpolate.B13 = true := by kernel_rfl
def polynomial_Interpolate.T14 : Bool × List (List Nat × List Nat) := (true, [([], []), ([], []), ([], []), ([], []), ([], []), ([2, 3, 4], [2, 3, 4]), ([0, 1, 5, 5], [0, 1, 5]), ([6, 6, 0, 1, 2, 3, 4, 5, 6], [1, 6])])
def polynomial_Interpolate.B14 : List Nat := [0, 0, 0, 0, 0, 28, 63, 127]
theorem polynomial_Interpolate.tab14 : rtab .any (opsOf Try.f64 14) = polynomial_Interpolate.T14 := by kernel_rfl
theorem polynomial_Interpolate.bits14 : waitsOk polynomial_Interpolate.T14.2 polynomial_Interpolate.B14 = true := by kernel_rfl
def polynomial_Interpolate.T15 : Bool × List (List Nat × List Nat) := (true, [([], []), ([], []), ([], []), ([], []), ([2, 3], [2, 3]), ([4], [4]), ([0, 1, 5, 4], [0, 1, 5]), ([6, 6, 0, 1, 2, 3, 4, 5, 6], [1, 6])])
def polynomial_Interpolate.B15 : List Nat := [0, 0, 0, 0, 12, 28, 63, 127]
theorem polynomial_Interpolate.tab15 : rtab .any (opsOf Try.f64 15) = polynomial_Interpolate.T15 := by kernel_rfl
theorem polynomial_Interpolate.bits15 : waitsOk polynomial_Interpolate.T15.2 polynomial_Interpolate.B15 = true := by kernel_rfl
theorem polynomial_Interpolate.calls (k : Nat) (a0_0 : Int) (a0_1 : Int) (a0_2 : Int) (A1 : Option Addr) (c1 : Nat) (l1 : List Int) (A2 : Option Addr) (c2 : Nat) (l2 : List Int) (r1 : List Int) (r2 : Int) (w : World) (hr1 : Kd.C (Kd.int .i64) w A1 l1.length l1) (hc1 : l1.length ≤ c1) (hr2 : Kd.C (Kd.int .i64) w A2 l2.length l2) (hc2 : l2.length ≤ c2) (h : polynomial_Interpolate.f k a0_0 a0_1 a0_2 l1 l2 = some (r1, r2)) :
  Calls Try.prog 64 #[.agg #[.int .i64 a0_0, .int .i64 a0_1, .int .i64 a0_2], .slice A1 l1.length c1, .slice A2 l2.length c2] w fun e w' => ∃ v0_ : Value, e = .returned (.tuple #[v0_, .int .i64 r2]) ∧ Kd.R (Kd.int .i64) 3 w' w.heap.size (fun _ => True) v0_ r1 ∧ Below w.heap.size w w' := by
 have hu23 := Try.underlying23
 have HR1 := Aside0.mk hr1
 have HC1 := Aside0.mk hc1
 clear hr1 hc1
 have HR2 := Aside0.mk hr2
 have HC2 := Aside0.mk hc2
 clear hr2 hc2
 have HB := Aside0.mk (Below.refl w.heap.size w)
 have H := h
 unfold polynomial_Interpolate.f at H
 clear h
 have HC4 := Aside0.mk H
 clear H
 go_enter Try.func64, Try.ntmps64
 go_upto_region 1 with (first | ((with_reducible refine gate_dst (N := 3) rfl ?_); refine zBox 3 #[.int .i64 a0_0, .int .i64 a0_1, .int .i64 a0_2] 23 ?_; clear HB; intro gb947 w5 BK947 GE947 HB))
 (try simp only [Act.put, List.setIfInBounds_toArray, List.set_cons_zero, List.set_cons_succ])
 go_cut [14] (fun v14 wc => ∃ (kq : Nat) (x14_3 : Bool), v14 = .bool x14_3 ∧ Aside0 (polynomial_Interpolate.j0 kq l1 l2 x14_3 a0_0 a0_1 a0_2 = some (r1, r2)) ∧ Aside0 (kq ≤ k) ∧ Aside0 (wc.heap[gb947]? = some (.cells #[.int .i64 a0_0, .int .i64 a0_1, .int .i64 a0_2] 23 (0, 0))) ∧ Aside0 (Below w.heap.size w wc))
 case first =>
  have H := HC4.out
  clear HC4
  obtain ⟨t948, A6, H⟩ := zD H
  by_cases c7 : t948 = true
  ·subst c7
   rw [if_pos rfl] at H
   obtain ⟨t949, A8, H⟩ := zD H
   have H' := zA H
   clear H
   (try clear z947_0 z947_1 z947_2 f947_0 f947_1 f947_2)
   obtain ⟨z947_0, z947_1, z947_2, f947_0, f947_1, f947_2⟩ := cz3 BK947
   go_wp2_with (first | ((with_reducible refine gate_callee (f := 102) rfl ?_); refine gL (some 17) Try.func102 #[.agg #[.int .i64 a0_0, .int .i64 a0_1, .int .i64 a0_2], .slice A1 l1.length c1] ?_; (with_reducible refine zCall (polynomial_elements.calls k a0_0 a0_1 a0_2 _ _ l1 true _ ?side1 ?side2 A6.out) ?_); (case side1 => exact zN HR1); (case side2 => exact HC1.out); intro w10 hb; replace BK947 := bB BK947 hb; replace HB := bS hb; (try clear hb); (try clear z947_0 z947_1 z947_2 f947_0 f947_1 f947_2); obtain ⟨z947_0, z947_1, z947_2, f947_0, f947_1, f947_2⟩ := cz3 BK947) | (go_at_call 102; (with_reducible refine (polynomial_elements.calls k a0_0 a0_1 a0_2 _ _ l2 t949 _ ?side1 ?side2 A8.out).mono ?_); (case side1 => exact zN HR2); (case side2 => exact HC2.out); rintro e w12 ⟨rfl, hb⟩; replace BK947 := bB BK947 hb; replace HB := bS hb; (try clear hb)))
   go_meet
   case rel => exact ⟨_, (!t949), zR, H', zL, ⟨zK BK947⟩, ⟨zB⟩⟩
  ·replace c7 := Bool.eq_false_iff.mpr c7
   subst c7
   rw [if_neg (show ¬ (false = true) by decide)] at H
   have H' := zA H
   clear H
   (try clear z947_0 z947_1 z947_2 f947_0 f947_1 f947_2)
   obtain ⟨z947_0, z947_1, z947_2, f947_0, f947_1, f947_2⟩ := cz3 BK947
   go_wp2_with (first | ((with_reducible refine gate_callee (f := 102) rfl ?_); refine gL (some 17) Try.func102 #[.agg #[.int .i64 a0_0, .int .i64 a0_1, .int .i64 a0_2], .slice A1 l1.length c1] ?_; (with_reducible refine zCall (polynomial_elements.calls k a0_0 a0_1 a0_2 _ _ l1 false _ ?side1 ?side2 A6.out) ?_); (case side1 => exact zN HR1); (case side2 => exact HC1.out); intro w14 hb; replace BK947 := bB BK947 hb; replace HB := bS hb; (try clear hb)))
   go_meet
   case rel => exact ⟨_, (true), zR, H', zL, ⟨zK BK947⟩, ⟨zB⟩⟩
 case rest =>
  clear HC4
  try clear c1
  try clear c2
  try clear p2
  try clear c6
  try clear c7
  try clear c10
  try clear z947_0 z947_1 z947_2 f947_0 f947_1 f947_2
  obtain ⟨kq, x14_3, rfl, HA, HJ3, BK947, HB⟩ := hcut
  cases kq with
  | zero => exact absurd HA.out (by simp [polynomial_Interpolate.j0])
  | succ kj3 =>
   have H := HA.out
   clear HA
   simp only [polynomial_Interpolate.j0] at H
   by_cases c15 : x14_3 = true
   ·subst c15
    rw [if_pos rfl] at H
    simp only [Option.some.injEq, Prod.mk.injEq] at H
    obtain ⟨rfl, rfl⟩ := H
    go_wp2
    go_ret2
    exact ⟨_, zE, by first | exact Kd.R_nil _ _ _ _ _ | exact Kd.N_nil _ _ _ _ _ | exact Kd.V_nil _ _ _ _ _ | exact Kd.Q_nil _ _ _ _ _ | exact Kd.S_nil _ _ _ _ _, zB⟩
   ·replace c15 := Bool.eq_false_iff.mpr c15
    subst c15
    rw [if_neg (show ¬ (false = true) by decide)] at H
    by_cases c16 : (l1.length : Int) = (l2.length : Int)
    ·rw [if_pos c16] at H
     have c16b0 := beq_iff_eq.mpr c16
     have c16b1 := bne_eq_false_iff_eq.mpr c16
     have c16b2 : (l1.length == l2.length) = true := by first | simpa using c16 | (simp at c16 ⊢; omega)
     clear c16
     obtain ⟨y950, hy950⟩ : ∃ y_ : List Int, y_ = (([1] : List Int)) := ⟨_, rfl⟩
     replace H : (polynomial_Interpolate.l0 kj3 l1 l2 ([] : List Int) y950 l1 (l1.length : Int) 0 a0_0 a0_1 a0_2) = some (r1, r2) := by first | (rw [hy950]; with_reducible exact H) | (have H2_ := (Option.bind_some _ _).symm.trans H; rw [hy950]; with_reducible exact H2_) | (have H2_ := (Option.bind_some _ _).symm.trans H; with_reducible exact H2_) | with_reducible exact H | (rw [hy950]; exact H) | exact H
     have Ny950 := Aside0.mk hy950
     clear hy950
     have H' := zA H
     clear H
     go_wp2_with (first | ((with_reducible refine gate_dst (N := 31) rfl ?_); refine Kd.R_lit (Kd.int .i64) _ 3 ?hg (N := 31) ?hd (xs := ([1] : List Int)) (inner := [.int .i64 1]) (ok := fun _ => True) (okp := fun _ => True) ?hr ?hp (fun _ hk => hk) trivial (Below.refl _ _) (Nat.le_refl _) (by simp) ?_; (case hd => rfl); (case hg => rfl); (case hr => first | (go_simp; done) | (go_simp; rfl)); (case hp => exact (Reps.one (show Kd.M (Kd.int .i64) _ _ _ 1 [.int .i64 1] from rfl) (Reps.none _ _))); intro v951 w17 ho18 hb hg_ hnew_; clear hg_ hnew_; (first | rw [← Ny950.out] at ho18 | (simp only [Int.reduceToNat] at ho18; rw [← Ny950.out] at ho18)); have HO952 := Aside0.mk (Kd.R_lower ho18 (below_size zB)); replace BK947 := bB BK947 hb; replace HB := bS hb; clear hb ho18))
     go_loopg [8, 9, 34] kj3 (fun kq v8 v9 v34 w' => ∃ (x8_2 : List Int) (x9_2 : List Int) (x34_2 : Int), v34 = .int .i64 x34_2 ∧ Aside0 (polynomial_Interpolate.l0 kq l1 l2 x8_2 x9_2 l1 (l1.length : Int) x34_2 a0_0 a0_1 a0_2 = some (r1, r2)) ∧ Aside0 (kq ≤ kj3) ∧ Aside0 (Kd.R (Kd.int .i64) 3 w' w.heap.size (fun k_ => some k_ ≠ (v9 : Value).ownBlock) v8 x8_2) ∧ Aside0 (Kd.R (Kd.int .i64) 3 w' w.heap.size (fun k_ => some k_ ≠ (v8 : Value).ownBlock) v9 x9_2) ∧ Aside0 (w'.heap[gb947]? = some (.cells #[.int .i64 a0_0, .int .i64 a0_1, .int .i64 a0_2] 23 (0, 0))) ∧ Aside0 (Below w.heap.size w w'))
     case atStart => exact ⟨(([] : List Int)), (y950), (0), zR, H', ⟨Nat.le_refl _⟩, ⟨by first | exact Kd.R_nil _ _ _ _ _ | exact Kd.N_nil _ _ _ _ _ | exact Kd.V_nil _ _ _ _ _ | exact Kd.Q_nil _ _ _ _ _ | exact Kd.S_nil _ _ _ _ _⟩, ⟨by (with_reducible repeat (first | apply Kd.R_alloc | apply Kd.R_drewN | apply Kd.R_drew)); exact Kd.R_mono HO952.out (fun _ hk => (by simp [Value.ownBlock]))⟩, ⟨zK BK947⟩, ⟨zB⟩⟩
     case round =>
      clear H'
      try clear c1
      try clear c2
      try clear p2
      try clear c6
      try clear c7
      try clear c10
      try clear c15
      try clear c16
      try clear c16b0
      try clear c16b1
      try clear c16b2
      try clear z947_0 z947_1 z947_2 f947_0 f947_1 f947_2
      try clear p2
      obtain ⟨x8_2, x9_2, x34_2, rfl, HA, HK2, HO_8, HO_9, BK947, HB⟩ := hrel
      cases gk with
      | zero => exact absurd HA.out (by simp [polynomial_Interpolate.l0])
      | succ k2 =>
       have H := HA.out
       clear HA
       simp only [polynomial_Interpolate.l0] at H
       by_cases c19 : x34_2 < (l1.length : Int)
       ·rw [if_pos c19] at H
        have c19b0 : decide (x34_2 < (l1.length : Int)) = true := decide_eq_true c19
        clear c19
        by_cases c20 : 0 ≤ x34_2
        ·rw [if_pos c20] at H
         have c20b0 : decide (0 ≤ x34_2) = true := decide_eq_true c20
         clear c20
         by_cases c21 : x34_2 < (l1.length : Int)
         ·rw [if_pos c21] at H
          have c21b0 : decide (x34_2 < (l1.length : Int)) = true := decide_eq_true c21
          clear c21
          have c22b0 := eq_true (of_decide_eq_true (by first | (with_reducible assumption) | assumption) : 0 ≤ x34_2)
          by_cases c23 : x34_2 ≤ (l1.length : Int)
          ·rw [if_pos c23] at H
           have c23b0 := eq_true c23
           have c23b1 : decide (x34_2 ≤ (l1.length : Int)) = true := decide_eq_true c23
           clear c23
           obtain ⟨t955, A24, H⟩ := zD H
           by_cases c25 : t955 = true
           ·subst c25
            rw [if_pos rfl] at H
            simp only [Option.some.injEq, Prod.mk.injEq] at H
            obtain ⟨rfl, rfl⟩ := H
            have p953 : 0 ≤ (x34_2 : Int) := of_decide_eq_true (by first | (with_reducible assumption) | assumption)
            have q953 : x34_2 < (l1.length : Int) := of_decide_eq_true (by first | (with_reducible assumption) | assumption)
            obtain ⟨ad953, e953, hx953_0⟩ := Kd.at_int HR1.out x34_2 p953 q953
            cases e953
            replace hx953_0 := (HB.out.cell (World.block_lt_of_cell? w _ hx953_0)).trans hx953_0
            replace p953 := eq_true p953
            replace q953 := eq_true q953
            obtain ⟨i026, hi026, _, hsz26, _⟩ := info_parts info3
            obtain ⟨hcut26, hA26, hC26⟩ := print_take_of (P := Try.prog) (Value.int .i64) 0 45 3 .i64 Try.underlying45 hi026 hsz26 (some ad953) c1 l1 x34_2 (of_decide_eq_true (by first | (with_reducible assumption) | assumption)) (of_decide_eq_true (by first | (with_reducible assumption) | assumption)) HC1.out
            have HR954 := Aside0.mk (show Kd.C (Kd.int .i64) _ _ _ _ from Kd.C_of_reads (h1 := fun _ => rfl) (hA26 _ (Kd.reads_of_C HR1.out)))
            have HC954 := Aside0.mk hC26
            clear hA26 hC26 hi026 hsz26
            go_wp2_with (first | ((with_reducible refine gate_callee (f := 112) rfl ?_); refine goesL_ (some 43) rfl rfl Try.func112 (by kernel_rfl) rfl #[.slice (some ad953) (l1.take (x34_2 : Int).toNat).length c1, .int .i64 (rd l1 x34_2)] rfl (by (try simp only [List.map_toArray, List.map_cons, List.map_nil]); first | done | (rw [show (l1.take (x34_2 : Int).toNat).length = x34_2.toNat from (by rw [List.length_take]; have h_ : (x34_2 : Int) ≤ (l1.length : Int) := of_decide_eq_true (by first | (with_reducible assumption) | assumption); omega)] <;> rfl) | rfl | (simp only [List.length_drop, List.length_take]; rfl)) ?_; (with_reducible refine (slices_Contains_int_int.calls k2 _ _ (l1.take (x34_2 : Int).toNat) (rd l1 x34_2) true _ ?side1 ?side2 A24.out).mono ?_); (case side1 => exact zN HR954); (case side2 => exact HC954.out); rintro e w' ⟨rfl, ⟨nd, rfl⟩⟩; refine ⟨_, rfl, ?_⟩))
            go_ret2
            exact ⟨_, zE, by first | exact Kd.R_nil _ _ _ _ _ | exact Kd.N_nil _ _ _ _ _ | exact Kd.V_nil _ _ _ _ _ | exact Kd.Q_nil _ _ _ _ _ | exact Kd.S_nil _ _ _ _ _, zB⟩
           ·replace c25 := Bool.eq_false_iff.mpr c25
            subst c25
            rw [if_neg (show ¬ (false = true) by decide)] at H
            by_cases c27 : x34_2 < (l2.length : Int)
            ·rw [if_pos c27] at H
             have c27b0 : decide (x34_2 < (l2.length : Int)) = true := decide_eq_true c27
             clear c27
             obtain ⟨t957, A28, H⟩ := zD H
             obtain ⟨t958, A29, H⟩ := zD H
             obtain ⟨t959, A30, H⟩ := zD H
             obtain ⟨t960, A31, H⟩ := zD H
             obtain ⟨t961, A32, H⟩ := zD H
             obtain ⟨t962, A33, H⟩ := zD H
             obtain ⟨t965, A34, H⟩ := zD H
             obtain ⟨t968, A35, H⟩ := zD H
             obtain ⟨y969, hy969⟩ : ∃ y_ : List Int, y_ = (([t968, 1] : List Int)) := ⟨_, rfl⟩
             replace H : ((polynomial_product.f k2 a0_0 a0_1 a0_2 x9_2 y969).bind fun t972 => (polynomial_Interpolate.l0 k2 l1 l2 t965 t972 l1 (l1.length : Int) (wrap64 (x34_2 + 1)) a0_0 a0_1 a0_2)) = some (r1, r2) := by first | (rw [hy969]; with_reducible exact H) | (have H2_ := (Option.bind_some _ _).symm.trans H; rw [hy969]; with_reducible exact H2_) | (have H2_ := (Option.bind_some _ _).symm.trans H; with_reducible exact H2_) | with_reducible exact H | (rw [hy969]; exact H) | exact H
             have Ny969 := Aside0.mk hy969
             clear hy969
             obtain ⟨t972, A36, H⟩ := zD H
             have H' := zA H
             clear H
             have p953 : 0 ≤ (x34_2 : Int) := of_decide_eq_true (by first | (with_reducible assumption) | assumption)
             have q953 : x34_2 < (l1.length : Int) := of_decide_eq_true (by first | (with_reducible assumption) | assumption)
             obtain ⟨ad953, e953, hx953_0⟩ := Kd.at_int HR1.out x34_2 p953 q953
             cases e953
             replace hx953_0 := (HB.out.cell (World.block_lt_of_cell? w _ hx953_0)).trans hx953_0
             replace p953 := eq_true p953
             replace q953 := eq_true q953
             obtain ⟨i037, hi037, _, hsz37, _⟩ := info_parts info3
             obtain ⟨hcut37, hA37, hC37⟩ := print_take_of (P := Try.prog) (Value.int .i64) 0 45 3 .i64 Try.underlying45 hi037 hsz37 (some ad953) c1 l1 x34_2 (of_decide_eq_true (by first | (with_reducible assumption) | assumption)) (of_decide_eq_true (by first | (with_reducible assumption) | assumption)) HC1.out
             have HR954 := Aside0.mk (show Kd.C (Kd.int .i64) _ _ _ _ from Kd.C_of_reads (h1 := fun _ => rfl) (hA37 _ (Kd.reads_of_C HR1.out)))
             have HC954 := Aside0.mk hC37
             clear hA37 hC37 hi037 hsz37
             try go_wp2_with (first | ((with_reducible refine gate_callee (f := 112) rfl ?_); refine goesL_ (some 43) rfl rfl Try.func112 (by kernel_rfl) rfl #[.slice (some ad953) (l1.take (x34_2 : Int).toNat).length c1, .int .i64 (rd l1 x34_2)] rfl (by (try simp only [List.map_toArray, List.map_cons, List.map_nil]); first | done | (rw [show (l1.take (x34_2 : Int).toNat).length = x34_2.toNat from (by rw [List.length_take]; have h_ : (x34_2 : Int) ≤ (l1.length : Int) := of_decide_eq_true (by first | (with_reducible assumption) | assumption); omega)] <;> rfl) | rfl | (simp only [List.length_drop, List.length_take]; rfl)) ?_; (with_reducible refine (slices_Contains_int_int.calls k2 _ _ (l1.take (x34_2 : Int).toNat) (rd l1 x34_2) false _ ?side1 ?side2 A24.out).mono ?_); (case side1 => exact zN HR954); (case side2 => exact HC954.out); rintro e w' ⟨rfl, ⟨nd, rfl⟩⟩; refine ⟨_, rfl, ?_⟩))
             (try (rw [drewN_self wr]; generalize hq_ : World.drewN wr _ = wr; have n0_ : Aside0 (Kd.R (Kd.int .i64) 3 wr w.heap.size (fun k_ => some k_ ≠ (u9 : Value).ownBlock) u8 x8_2) := ⟨by rw [← hq_]; exact (zO HO_8)⟩; have n1_ : Aside0 (Kd.R (Kd.int .i64) 3 wr w.heap.size (fun k_ => some k_ ≠ (u8 : Value).ownBlock) u9 x9_2) := ⟨by rw [← hq_]; exact (zO HO_9)⟩; have n2_ : Aside0 (wr.heap[gb947]? = some (.cells #[.int .i64 a0_0, .int .i64 a0_1, .int .i64 a0_2] 23 (0, 0))) := ⟨by rw [← hq_]; exact (zK BK947)⟩; have n3_ : Aside0 (Below w.heap.size w wr) := ⟨by rw [← hq_]; exact zB⟩; clear HO_8 HO_9 BK947 HB hq_; have HO_8 := n0_; have HO_9 := n1_; have BK947 := n2_; have HB := n3_; clear n0_ n1_ n2_ n3_))
             replace HO_8 := Aside0.mk (Kd.R_drew HO_8.out)
             replace HO_9 := Aside0.mk (Kd.R_drew HO_9.out)
             replace BK947 := Aside0.mk (blk_drew BK947.out)
             replace HB := Aside0.mk (below_drew1 HB.out)
             have p956 : 0 ≤ (x34_2 : Int) := of_decide_eq_true (by first | (with_reducible assumption) | assumption)
             have q956 : x34_2 < (l2.length : Int) := of_decide_eq_true (by first | (with_reducible assumption) | assumption)
             obtain ⟨ad956, e956, hx956_0⟩ := Kd.at_int HR2.out x34_2 p956 q956
             have hw956_0 := hx956_0
             cases e956
             replace hx956_0 := (HB.out.cell (World.block_lt_of_cell? w _ hx956_0)).trans hx956_0
             replace p956 := eq_true p956
             replace q956 := eq_true q956
             obtain ⟨Ao39, co39, eo39⟩ := Kd.R_slice HO_8.out
             (first | subst eo39 | (injection eo39 with f1_ f2_ f3_; have f4_ := f1_.symm; have f5_ := f3_.symm; clear f1_ f2_ f3_; subst f4_; subst f5_))
             refine start_ (n := 11) (S := fun w' => w'.cell? ⟨gb947, 0, none⟩ = some (.int .i64 a0_0) ∧ w'.cell? ⟨gb947, 1, none⟩ = some (.int .i64 a0_1) ∧ w'.cell? ⟨gb947, 2, none⟩ = some (.int .i64 a0_2) ∧ w'.cell? (ad956.add (x34_2).toNat) = some (.int .i64 (rd l2 x34_2))) (ds := []) #[false, false, false, false, false, false, false, false, false, false, false] (by kernel_rfl) rfl rfl ⟨(blk_cell BK947.out 0).trans rfl, (blk_cell BK947.out 1).trans rfl, (blk_cell BK947.out 2).trans rfl, ((HB.out.cell (World.block_lt_of_cell? w _ hw956_0)).trans hw956_0)⟩ (fun hHeld => ?_); refine with_tabW polynomial_Interpolate.tab12 polynomial_Interpolate.bits12 (fun HT_ HW_ => ?_)
             generalize wr.drew = w38 at HO_8 HO_9 BK947 HB hx956_0 hHeld ⊢
             refine pU 1 (some 45) ?_
             refine pU 2 (some 46) ?_
             refine pU 3 (some 47) ?_
             refine pU 6 (some 50) ?_
             refine pU 7 (some 51) ?_
             refine tU 0 (some 44) hHeld ?_
             refine tU 4 (some 48) hHeld ?_
             refine tU 5 (some 49) hHeld ?_
             refine oU 8 (some 52) (fun K hK => ?_)
             refine goes_ Try.func101 (by kernel_rfl) rfl #[.agg #[.int .i64 a0_0, .int .i64 a0_1, .int .i64 a0_2], .slice Ao39 x8_2.length co39, .int .i64 (rd l1 x34_2)] (by rfl) rfl rfl zM ?_
             with_reducible refine (polynomial_value.calls k2 a0_0 a0_1 a0_2 _ _ x8_2 (rd l1 x34_2) t957 _ ?side1 ?side2 A28.out).mono ?_
             (case side1 => exact zN HO_8)
             (case side2 => exact (Kd.R_reads' HO_8.out).2.1)
             rintro e w40 ⟨rfl, hb⟩
             refine ⟨_, rfl, ?_⟩
             replace HO_8 := Aside0.mk (Kd.R_below (zO HO_8) hb)
             replace HO_9 := Aside0.mk (Kd.R_below (zO HO_9) hb)
             replace BK947 := bB BK947 hb
             replace HB := bS hb
             (try clear hb)
             (try clear hb2)
             (try clear hk)
             (try clear hi)
             refine hK.out _ _ ⟨(blk_cell BK947.out 0).trans rfl, (blk_cell BK947.out 1).trans rfl, (blk_cell BK947.out 2).trans rfl, ((HB.out.cell (World.block_lt_of_cell? w _ hw956_0)).trans hw956_0)⟩ (fun hHeld => ?_)
             clear hK K
             refine nU ?_
             refine oU 9 (some 53) (fun K hK => ?_)
             refine goes_ Try.func113 (by kernel_rfl) rfl #[.agg #[.int .i64 a0_0, .int .i64 a0_1, .int .i64 a0_2], .int .i64 (rd l2 x34_2), .int .i64 t957] (by rfl) rfl rfl zM ?_
             with_reducible refine (polynomial_sub.calls a0_0 a0_1 a0_2 (rd l2 x34_2) t957 t958 _ A29.out).mono ?_
             rintro e w41 ⟨rfl, hb⟩
             refine ⟨_, rfl, ?_⟩
             replace HO_8 := Aside0.mk (Kd.R_below (zO HO_8) hb)
             replace HO_9 := Aside0.mk (Kd.R_below (zO HO_9) hb)
             replace BK947 := bB BK947 hb
             replace HB := bS hb
             (try clear hb)
             (try clear hb2)
             (try clear hk)
             (try clear hi)
             refine hK.out _ _ ⟨(blk_cell BK947.out 0).trans rfl, (blk_cell BK947.out 1).trans rfl, (blk_cell BK947.out 2).trans rfl, ((HB.out.cell (World.block_lt_of_cell? w _ hw956_0)).trans hw956_0)⟩ (fun hHeld => ?_)
             clear hK K
             refine nU ?_
             refine pU 10 (some 12) ?_
             refine dU ?_
             try go_wp2
             replace HO_8 := Aside0.mk (Kd.R_drew HO_8.out)
             replace HO_9 := Aside0.mk (Kd.R_drew HO_9.out)
             replace BK947 := Aside0.mk (blk_drew BK947.out)
             replace HB := Aside0.mk (below_drew1 HB.out)
             obtain ⟨Ao43, co43, eo43⟩ := Kd.R_slice HO_9.out
             (first | subst eo43 | (injection eo43 with f1_ f2_ f3_; have f4_ := f1_.symm; have f5_ := f3_.symm; clear f1_ f2_ f3_; subst f4_; subst f5_))
             refine start_ (n := 10) (S := fun w' => w'.cell? ⟨gb947, 0, none⟩ = some (.int .i64 a0_0) ∧ w'.cell? ⟨gb947, 1, none⟩ = some (.int .i64 a0_1) ∧ w'.cell? ⟨gb947, 2, none⟩ = some (.int .i64 a0_2)) (ds := []) #[false, false, false, false, false, false, false, false, false, false] (by kernel_rfl) rfl rfl zS (fun hHeld => ?_); refine with_tabW polynomial_Interpolate.tab13 polynomial_Interpolate.bits13 (fun HT_ HW_ => ?_)
             generalize w41.drew = w42 at HO_8 HO_9 BK947 HB hHeld ⊢
             refine pU 1 (some 55) ?_
             refine pU 4 (some 58) ?_
             refine pU 5 (some 59) ?_
             refine tU 0 (some 54) hHeld ?_
             refine tU 2 (some 56) hHeld ?_
             refine tU 3 (some 57) hHeld ?_
             refine oU 6 (some 60) (fun K hK => ?_)
             refine goes_ Try.func101 (by kernel_rfl) rfl #[.agg #[.int .i64 a0_0, .int .i64 a0_1, .int .i64 a0_2], .slice Ao43 x9_2.length co43, .int .i64 (rd l1 x34_2)] (by rfl) rfl rfl zM ?_
             with_reducible refine (polynomial_value.calls k2 a0_0 a0_1 a0_2 _ _ x9_2 (rd l1 x34_2) t959 _ ?side1 ?side2 A30.out).mono ?_
             (case side1 => exact zN HO_9)
             (case side2 => exact (Kd.R_reads' HO_9.out).2.1)
             rintro e w44 ⟨rfl, hb⟩
             refine ⟨_, rfl, ?_⟩
             replace HO_8 := Aside0.mk (Kd.R_below (zO HO_8) hb)
             replace HO_9 := Aside0.mk (Kd.R_below (zO HO_9) hb)
             replace BK947 := bB BK947 hb
             replace HB := bS hb
             (try clear hb)
             (try clear hb2)
             (try clear hk)
             (try clear hi)
             refine hK.out _ _ zS (fun hHeld => ?_)
             clear hK K
             refine nU ?_
             refine oU 7 (some 61) (fun K hK => ?_)
             refine goes_ Try.func115 (by kernel_rfl) rfl #[.agg #[.int .i64 a0_0, .int .i64 a0_1, .int .i64 a0_2], .int .i64 t959] (by rfl) rfl rfl zM ?_
             with_reducible refine (polynomial_inverse.calls k2 a0_0 a0_1 a0_2 t959 t960 _ A31.out).mono ?_
             rintro e w45 ⟨rfl, hb⟩
             refine ⟨_, rfl, ?_⟩
             replace HO_8 := Aside0.mk (Kd.R_below (zO HO_8) hb)
             replace HO_9 := Aside0.mk (Kd.R_below (zO HO_9) hb)
             replace BK947 := bB BK947 hb
             replace HB := bS hb
             (try clear hb)
             (try clear hb2)
             (try clear hk)
             (try clear hi)
             refine hK.out _ _ zS (fun hHeld => ?_)
             clear hK K
             refine nU ?_
             refine oU 8 (some 62) (fun K hK => ?_)
             refine goes_ Try.func114 (by kernel_rfl) rfl #[.agg #[.int .i64 a0_0, .int .i64 a0_1, .int .i64 a0_2], .int .i64 t958, .int .i64 t960] (by rfl) rfl rfl zM ?_
             with_reducible refine (polynomial_mul.calls k2 a0_0 a0_1 a0_2 t958 t960 t961 _ A32.out).mono ?_
             rintro e w46 ⟨rfl, hb⟩
             refine ⟨_, rfl, ?_⟩
             replace HO_8 := Aside0.mk (Kd.R_below (zO HO_8) hb)
             replace HO_9 := Aside0.mk (Kd.R_below (zO HO_9) hb)
             replace BK947 := bB BK947 hb
             replace HB := bS hb
             (try clear hb)
             (try clear hb2)
             (try clear hk)
             (try clear hi)
             refine hK.out _ _ zS (fun hHeld => ?_)
             clear hK K
             refine nU ?_
             refine pU 9 (some 13) ?_
             refine dU ?_
             try go_wp2
             replace HO_8 := Aside0.mk (Kd.R_drew HO_8.out)
             replace HO_9 := Aside0.mk (Kd.R_drew HO_9.out)
             replace BK947 := Aside0.mk (blk_drew BK947.out)
             replace HB := Aside0.mk (below_drew1 HB.out)
             refine start_ (n := 8) (S := fun w' => w'.cell? ⟨gb947, 0, none⟩ = some (.int .i64 a0_0) ∧ w'.cell? ⟨gb947, 1, none⟩ = some (.int .i64 a0_1) ∧ w'.cell? ⟨gb947, 2, none⟩ = some (.int .i64 a0_2)) (ds := []) #[false, false, false, false, false, false, false, false] (by kernel_rfl) rfl rfl zS (fun hHeld => ?_); refine with_tabW polynomial_Interpolate.tab14 polynomial_Interpolate.bits14 (fun HT_ HW_ => ?_)
             generalize w46.drew = w47 at HO_8 HO_9 BK947 HB hHeld ⊢
             refine pU 1 (some 64) ?_
             refine pU 3 (some 66) ?_
             refine pU 4 (some 67) ?_
             refine tU 0 (some 63) hHeld ?_
             refine tU 2 (some 65) hHeld ?_
             refine oU 5 (some 68) (fun K hK => ?_)
             refine goes_ Try.func117 (by kernel_rfl) rfl #[.agg #[.int .i64 a0_0, .int .i64 a0_1, .int .i64 a0_2], .slice Ao43 x9_2.length co43, .int .i64 t961] (by rfl) rfl rfl zM ?_
             with_reducible refine (polynomial_scaled.calls k2 a0_0 a0_1 a0_2 _ _ x9_2 t961 t962 _ ?side1 ?side2 A33.out).mono ?_
             (case side1 => exact zN HO_9)
             (case side2 => exact (Kd.R_reads' HO_9.out).2.1)
             rintro e w48 ⟨v963, rfl, ho0, hb⟩
             refine ⟨_, rfl, ?_⟩
             have HO964 := Aside0.mk (Kd.R_lower (Kd.R_new' (Kd.R_new' ho0 (Kd.R_lt (zO HO_8))) (Kd.R_lt (zO HO_9))) (below_size zB))
             replace HO_8 := Aside0.mk (Kd.R_elder' (zO HO_8) (Kd.R_base ho0) hb)
             replace HO_9 := Aside0.mk (Kd.R_elder' (zO HO_9) (Kd.R_base ho0) hb)
             replace BK947 := bB BK947 hb
             replace HB := bS hb
             (try clear hb)
             (try clear hb2)
             (try clear hk)
             (try clear hi)
             (try clear ho0)
             obtain ⟨Ao49, co49, eo49⟩ := Kd.R_slice HO964.out
             (first | subst eo49 | (injection eo49 with f1_ f2_ f3_; have f4_ := f1_.symm; have f5_ := f3_.symm; clear f1_ f2_ f3_; subst f4_; subst f5_))
             refine hK.out _ _ zS (fun hHeld => ?_)
             clear hK K
             refine nU ?_
             refine oU 6 (some 69) (fun K hK => ?_)
             refine goes_ Try.func116 (by kernel_rfl) rfl #[.agg #[.int .i64 a0_0, .int .i64 a0_1, .int .i64 a0_2], .slice Ao39 x8_2.length co39, .slice Ao49 t962.length co49] (by rfl) rfl rfl zM ?_
             with_reducible refine (polynomial_sum.calls k2 a0_0 a0_1 a0_2 _ _ x8_2 _ _ t962 t965 _ ?side1 ?side2 ?side3 ?side4 A34.out).mono ?_
             (case side1 => exact zN HO_8)
             (case side2 => exact (Kd.R_reads' HO_8.out).2.1)
             (case side3 => exact zN HO964)
             (case side4 => exact (Kd.R_reads' HO964.out).2.1)
             rintro e w50 ⟨v966, rfl, ho0, hb⟩
             refine ⟨_, rfl, ?_⟩
             have HO967 := Aside0.mk (Kd.R_lower (Kd.R_new' (Kd.R_new' (Kd.R_new' ho0 (Kd.R_lt (zO HO_8))) (Kd.R_lt (zO HO_9))) (Kd.R_lt (zO HO964))) (below_size zB))
             replace HO_8 := Aside0.mk (Kd.R_elder' (zO HO_8) (Kd.R_base ho0) hb)
             replace HO_9 := Aside0.mk (Kd.R_elder' (zO HO_9) (Kd.R_base ho0) hb)
             replace HO964 := Aside0.mk (Kd.R_elder' (zO HO964) (Kd.R_base ho0) hb)
             replace BK947 := bB BK947 hb
             replace HB := bS hb
             (try clear hb)
             (try clear hb2)
             (try clear hk)
             (try clear hi)
             (try clear ho0)
             refine hK.out _ _ zS (fun hHeld => ?_)
             clear hK K
             refine nU ?_
             refine pU 7 (some 8) ?_
             refine dU ?_
             try go_wp2
             replace HO_8 := Aside0.mk (Kd.R_drew HO_8.out)
             replace HO_9 := Aside0.mk (Kd.R_drew HO_9.out)
             replace HO964 := Aside0.mk (Kd.R_drew HO964.out)
             replace HO967 := Aside0.mk (Kd.R_drew HO967.out)
             replace BK947 := Aside0.mk (blk_drew BK947.out)
             replace HB := Aside0.mk (below_drew1 HB.out)
             refine start_ (n := 8) (S := fun w' => w'.cell? ⟨gb947, 0, none⟩ = some (.int .i64 a0_0) ∧ w'.cell? ⟨gb947, 1, none⟩ = some (.int .i64 a0_1) ∧ w'.cell? ⟨gb947, 2, none⟩ = some (.int .i64 a0_2)) (ds := []) #[false, false, false, false, false, false, false, false] (by kernel_rfl) rfl rfl zS (fun hHeld => ?_); refine with_tabW polynomial_Interpolate.tab15 polynomial_Interpolate.bits15 (fun HT_ HW_ => ?_)
             generalize w50.drew = w51 at HO_8 HO_9 HO964 HO967 BK947 HB hHeld ⊢
             refine pU 1 (some 71) ?_
             refine pU 3 (some 73) ?_
             refine tU 0 (some 70) hHeld ?_
             refine tU 2 (some 72) hHeld ?_
             refine oU 4 (some 74) (fun K hK => ?_)
             refine goes_ Try.func113 (by kernel_rfl) rfl #[.agg #[.int .i64 a0_0, .int .i64 a0_1, .int .i64 a0_2], .int .i64 0, .int .i64 (rd l1 x34_2)] (by rfl) rfl rfl zM ?_
             with_reducible refine (polynomial_sub.calls a0_0 a0_1 a0_2 0 (rd l1 x34_2) t968 _ A35.out).mono ?_
             rintro e w52 ⟨rfl, hb⟩
             refine ⟨_, rfl, ?_⟩
             replace HO_8 := Aside0.mk (Kd.R_below (zO HO_8) hb)
             replace HO_9 := Aside0.mk (Kd.R_below (zO HO_9) hb)
             replace HO964 := Aside0.mk (Kd.R_below (zO HO964) hb)
             replace HO967 := Aside0.mk (Kd.R_below (zO HO967) hb)
             replace BK947 := bB BK947 hb
             replace HB := bS hb
             (try clear hb)
             (try clear hb2)
             (try clear hk)
             (try clear hi)
             refine hK.out _ _ zS (fun hHeld => ?_)
             clear hK K
             refine nU ?_
             refine oU 5 (some 75) (fun K hK => ?_)
             refine Kd.R_lit_step (Kd.int .i64) _ 3 ?hg (N := 75) ?hd (xs := ([t968, 1] : List Int)) (inner := [.int .i64 t968, .int .i64 1]) (ok := fun _ => True) (okp := fun _ => True) ?hr ?hp (fun _ hk => hk) trivial (Below.refl _ _) (Nat.le_refl _) (by simp) ?_; (case hd => rfl); (case hg => rfl); (case hr => first | (go_simp; done) | (go_simp; rfl)); (case hp => exact (Reps.one (show Kd.M (Kd.int .i64) _ _ _ t968 [.int .i64 t968] from rfl) (Reps.one (show Kd.M (Kd.int .i64) _ _ _ 1 [.int .i64 1] from rfl) (Reps.none _ _))))
             intro v970 w53 ho54 hb hg_ hnew_
             clear hg_ hnew_
             (first | rw [← Ny969.out] at ho54 | (simp only [Int.reduceToNat] at ho54; rw [← Ny969.out] at ho54))
             have HO971 := Aside0.mk (Kd.R_lower (Kd.R_new' (Kd.R_new' (Kd.R_new' (Kd.R_new' ho54 (Kd.R_lt (zO HO_8))) (Kd.R_lt (zO HO_9))) (Kd.R_lt (zO HO964))) (Kd.R_lt (zO HO967))) (below_size zB))
             replace HO_8 := Aside0.mk (Kd.R_elder' (zO HO_8) (Kd.R_base ho54) hb)
             replace HO_9 := Aside0.mk (Kd.R_elder' (zO HO_9) (Kd.R_base ho54) hb)
             replace HO964 := Aside0.mk (Kd.R_elder' (zO HO964) (Kd.R_base ho54) hb)
             replace HO967 := Aside0.mk (Kd.R_elder' (zO HO967) (Kd.R_base ho54) hb)
             replace BK947 := bB BK947 hb
             replace HB := bS hb
             clear hb ho54
             obtain ⟨Ao55, co55, eo55⟩ := Kd.R_slice HO971.out
             (first | subst eo55 | (injection eo55 with f1_ f2_ f3_; have f4_ := f1_.symm; have f5_ := f3_.symm; clear f1_ f2_ f3_; subst f4_; subst f5_))
             refine hK.out _ _ zS (fun hHeld => ?_)
             clear hK K
             refine nU ?_
             refine oU 6 (some 76) (fun K hK => ?_)
             refine goes_ Try.func109 (by kernel_rfl) rfl #[.agg #[.int .i64 a0_0, .int .i64 a0_1, .int .i64 a0_2], .slice Ao43 x9_2.length co43, .slice Ao55 y969.length co55] (by rfl) rfl rfl zM ?_
             with_reducible refine (polynomial_product.calls k2 a0_0 a0_1 a0_2 _ _ x9_2 _ _ y969 t972 _ ?side1 ?side2 ?side3 ?side4 A36.out).mono ?_
             (case side1 => exact zN HO_9)
             (case side2 => exact (Kd.R_reads' HO_9.out).2.1)
             (case side3 => exact zN HO971)
             (case side4 => exact (Kd.R_reads' HO971.out).2.1)
             rintro e w56 ⟨v973, rfl, ho0, hb⟩
             refine ⟨_, rfl, ?_⟩
             have HO974 := Aside0.mk (Kd.R_lower (Kd.R_new' (Kd.R_new' (Kd.R_new' (Kd.R_new' (Kd.R_new' ho0 (Kd.R_lt (zO HO_8))) (Kd.R_lt (zO HO_9))) (Kd.R_lt (zO HO964))) (Kd.R_lt (zO HO967))) (Kd.R_lt (zO HO971))) (below_size zB))
             replace HO_8 := Aside0.mk (Kd.R_elder' (zO HO_8) (Kd.R_base ho0) hb)
             replace HO_9 := Aside0.mk (Kd.R_elder' (zO HO_9) (Kd.R_base ho0) hb)
             replace HO964 := Aside0.mk (Kd.R_elder' (zO HO964) (Kd.R_base ho0) hb)
             replace HO967 := Aside0.mk (Kd.R_elder' (zO HO967) (Kd.R_base ho0) hb)
             replace HO971 := Aside0.mk (Kd.R_elder' (zO HO971) (Kd.R_base ho0) hb)
             replace BK947 := bB BK947 hb
             replace HB := bS hb
             (try clear hb)
             (try clear hb2)
             (try clear hk)
             (try clear hi)
             (try clear ho0)
             refine hK.out _ _ zS (fun hHeld => ?_)
             clear hK K
             refine nU ?_
             refine pU 7 (some 9) ?_
             refine dU ?_
             try go_wp2
             go_roundg k2
             case measure => have := HJ3.out; have := HK2.out; omega
             case rel => exact ⟨(t965), (t972), (wrap64 (x34_2 + 1)), zR, H', ⟨by have := HJ3.out; have := HK2.out; omega⟩, ⟨by (with_reducible repeat (first | apply Kd.R_alloc | apply Kd.R_drewN | apply Kd.R_drew)); exact Kd.R_mono HO967.out (fun _ hk => hk.2)⟩, ⟨by (with_reducible repeat (first | apply Kd.R_alloc | apply Kd.R_drewN | apply Kd.R_drew)); exact Kd.R_mono HO974.out (fun _ hk => hk.1.2)⟩, ⟨zK BK947⟩, ⟨zB⟩⟩
            ·rw [if_neg c27] at H
             exact absurd H (by simp)
          ·rw [if_neg c23] at H
           exact absurd H (by simp)
         ·rw [if_neg c21] at H
          exact absurd H (by simp)
        ·rw [if_neg c20] at H
         exact absurd H (by simp)
       ·rw [if_neg c19] at H
        have c19b0 : decide (x34_2 < (l1.length : Int)) = false := decide_eq_false c19
        clear c19
        simp only [Option.some.injEq, Prod.mk.injEq] at H
        obtain ⟨rfl, rfl⟩ := H
        go_wp2
        go_ret2
        exact ⟨_, zE, by (with_reducible repeat (first | apply Kd.R_alloc | apply Kd.R_drewN | apply Kd.R_drew)); exact Kd.R_mono HO_8.out (fun _ hk => trivial), zB⟩
    ·rw [if_neg c16] at H
     have c16b0 := beq_eq_false_iff_ne.mpr c16
     have c16b1 := bne_iff_ne.mpr c16
     have c16b2 : (l1.length == l2.length) = false := by first | simpa using c16 | (simp at c16 ⊢; omega)
     simp only [Option.some.injEq, Prod.mk.injEq] at H
     obtain ⟨rfl, rfl⟩ := H
     go_wp2
     go_ret2
     exact ⟨_, zE, by first | exact Kd.R_nil _ _ _ _ _ | exact Kd.N_nil _ _ _ _ _ | exact Kd.V_nil _ _ _ _ _ | exact Kd.Q_nil _ _ _ _ _ | exact Kd.S_nil _ _ _ _ _, zB⟩
/-! ### polynomial_division: function 121 -/
mutual
def polynomial_division.l0 : Nat → List Int → Int → Int → List Int → List Int → Int → Int → Int → Int → Option (List Int × List Int)
 | 0, _, _, _, _, _, _, _, _, _ => none
 | k + 1, x2, x8, x9, x10, x11, x12, x976000, x976001, x976002 => if x12 ≥ x8 then (if 0 ≤ x12 then (if x12 < (x10.length : Int) then ((polynomial_mul.f k x976000 x976001 x976002 (rd x10 x12) x9).bind fun t991 => (if 0 ≤ (wrap64 (x12 - x8)) then (if (wrap64 (x12 - x8)) < (x11.length : Int) then (polynomial_division.l1 k x2 x8 x9 x10 (x11.set ((wrap64 (x12 - x8)) : Int).toNat t991) x12 t991 x2 (x2.length : Int) 0 x976000 x976001 x976002) else (none)) else (none))) else (none)) else (none)) else ((polynomial_trimmed_int.f k x11).bind fun t984 => ((polynomial_trimmed_int.f k x10).bind fun t987 => (some (t984, t987))))
def polynomial_division.l1 : Nat → List Int → Int → Int → List Int → List Int → Int → Int → List Int → Int → Int → Int → Int → Int → Option (List Int × List Int)
 | 0, _, _, _, _, _, _, _, _, _, _, _, _, _ => none
 | k + 1, x2, x8, x9, x10, x11, x12, x13, x54, x55, x56, x976000, x976001, x976002 => if x56 < x55 then (if 0 ≤ x56 then (if x56 < (x54.length : Int) then (if 0 ≤ (wrap64 ((wrap64 (x12 - x8)) + x56)) then (if (wrap64 ((wrap64 (x12 - x8)) + x56)) < (x10.length : Int) then ((polynomial_mul.f k x976000 x976001 x976002 x13 (rd x54 x56)).bind fun t995 => ((polynomial_sub.f x976000 x976001 x976002 (rd x10 (wrap64 ((wrap64 (x12 - x8)) + x56))) t995).bind fun t996 => (polynomial_division.l1 k x2 x8 x9 (x10.set ((wrap64 ((wrap64 (x12 - x8)) + x56)) : Int).toNat t996) x11 x12 x13 x54 x55 (wrap64 (x56 + 1)) x976000 x976001 x976002))) else (none)) else (none)) else (none)) else (none)) else (polynomial_division.l0 k x2 x8 x9 x10 x11 (wrap64 (x12 - 1)) x976000 x976001 x976002)
end
def polynomial_division.f (k : Nat) (a0_0 : Int) (a0_1 : Int) (a0_2 : Int) (l1 : List Int) (l2 : List Int) : Option (List Int × List Int) := if 0 ≤ (wrap64 ((l2.length : Int) - 1)) then (if (wrap64 ((l2.length : Int) - 1)) < (l2.length : Int) then ((polynomial_inverse.f k a0_0 a0_1 a0_2 (rd l2 (wrap64 ((l2.length : Int) - 1)))).bind fun t977 => ((slices_Clone_int_int.f l1).bind fun t978 => (if 0 ≤ (mx 0 (wrap64 ((l1.length : Int) - (wrap64 ((l2.length : Int) - 1))))) then (if (mx 0 (wrap64 ((l1.length : Int) - (wrap64 ((l2.length : Int) - 1)))) : Int).toNat ≤ 35184372088832 then (polynomial_division.l0 k l2 (wrap64 ((l2.length : Int) - 1)) t977 t978 (List.replicate (mx 0 (wrap64 ((l1.length : Int) - (wrap64 ((l2.length : Int) - 1)))) : Int).toNat 0) (wrap64 ((l1.length : Int) - 1)) a0_0 a0_1 a0_2) else (none)) else (none)))) else (none)) else (none)
theorem polynomial_division.mono_l : ∀ k, (∀ y0 y1 y2 y3 y4 y5 y6 y7 y8, LeO (polynomial_division.l0 k y0 y1 y2 y3 y4 y5 y6 y7 y8) (polynomial_division.l0 (k + 1) y0 y1 y2 y3 y4 y5 y6 y7 y8)) ∧ (∀ y0 y1 y2 y3 y4 y5 y6 y7 y8 y9 y10 y11 y12, LeO (polynomial_division.l1 k y0 y1 y2 y3 y4 y5 y6 y7 y8 y9 y10 y11 y12) (polynomial_division.l1 (k + 1) y0 y1 y2 y3 y4 y5 y6 y7 y8 y9 y10 y11 y12))
 | 0 => ⟨fun _ _ _ _ _ _ _ _ _ r h => by simp [polynomial_division.l0] at h, fun _ _ _ _ _ _ _ _ _ _ _ _ _ r h => by simp [polynomial_division.l1] at h⟩
 | k + 1 => by
  obtain ⟨ih0, ih1⟩ := polynomial_division.mono_l k
  refine ⟨?_, ?_⟩
  ·intro y0 y1 y2 y3 y4 y5 y6 y7 y8
   unfold polynomial_division.l0
   have m0_ := @polynomial_inverse.mono
   have m1_ := @polynomial_mul.mono
   have m2_ := @polynomial_trimmed_int.mono
   exact zMo
  ·intro y0 y1 y2 y3 y4 y5 y6 y7 y8 y9 y10 y11 y12
   unfold polynomial_division.l1
   have m0_ := @polynomial_inverse.mono
   have m1_ := @polynomial_mul.mono
   have m2_ := @polynomial_trimmed_int.mono
   exact zMo
theorem polynomial_division.mono : ∀ a0 a1 a2 a3 a4 k, LeO (polynomial_division.f k a0 a1 a2 a3 a4) (polynomial_division.f (k + 1) a0 a1 a2 a3 a4) := by
 intro a0 a1 a2 a3 a4 k
 obtain ⟨ih0, ih1⟩ := polynomial_division.mono_l k
 unfold polynomial_division.f
 have m0_ := @polynomial_inverse.mono
 have m1_ := @polynomial_mul.mono
 have m2_ := @polynomial_trimmed_int.mono
 exact zMo
def polynomial_division.T8 : Bool × List (List Nat × List Nat) := (true, [([], []), ([], []), ([], []), ([1, 2], [1, 2]), ([3], [3]), ([], []), ([0, 4, 5], [0, 4, 5]), ([6, 6, 0, 1, 2, 3, 4, 5, 6], [6])])
def polynomial_division.B8 : List Nat := [0, 0, 0, 6, 14, 0, 63, 127]
theorem polynomial_division.tab8 : rtab .any (opsOf Try.f121 8) = polynomial_division.T8 := by kernel_rfl
theorem polynomial_division.bits8 : waitsOk polynomial_division.T8.2 polynomial_division.B8 = true := by kernel_rfl
def polynomial_division.T13 : Bool × List (List Nat × List Nat) := (true, [([], []), ([], []), ([], []), ([1, 2], [1, 2]), ([], []), ([3, 4], [3, 4]), ([], []), ([], []), ([], []), ([], []), ([8, 9], [8, 9]), ([], []), ([10, 11], [10, 11]), ([7, 12], [7, 12]), ([13], [13]), ([], []), ([], []), ([], []), ([15, 16, 17], [15, 16, 17]), ([6, 14, 18, 18], [6, 14, 18]), ([0, 5, 0, 1, 2, 3, 4, 5, 6, 7, 8, 9, 10, 11, 12, 13, 14, 15, 16, 17, 18, 19], [0, 5]), ([20, 19, 19, 0, 1, 2, 3, 4, 5, 6, 7, 8, 9, 10, 11, 12, 13, 14, 15, 16, 17, 18, 19], [19, 20])])
def polynomial_division.B13 : List Nat := [0, 0, 0, 6, 0, 30, 0, 0, 0, 0, 768, 0, 3840, 8064, 16256, 0, 0, 0, 229376, 524224, 1048575, 2097151]
theorem polynomial_division.tab13 : rtab .any (opsOf Try.f121 13) = polynomial_division.T13 := by kernel_rfl
theorem polynomial_division.bits13 : waitsOk polynomial_division.T13.2 polynomial_division.B13 = true := by kernel_rfl
theorem polynomial_division.calls (k : Nat) (a0_0 : Int) (a0_1 : Int) (a0_2 : Int) (A1 : Option Addr) (c1 : Nat) (l1 : List Int) (A2 : Option Addr) (c2 : Nat) (l2 : List Int) (r1 : List Int) (r2 : List Int) (w : World) (hr1 : Kd.C (Kd.int .i64) w A1 l1.length l1) (hc1 : l1.length ≤ c1) (hr2 : Kd.C (Kd.int .i64) w A2 l2.length l2) (hc2 : l2.length ≤ c2) (h : polynomial_division.f k a0_0 a0_1 a0_2 l1 l2 = some (r1, r2)) :
  Calls Try.prog 121 #[.agg #[.int .i64 a0_0, .int .i64 a0_1, .int .i64 a0_2], .slice A1 l1.length c1, .slice A2 l2.length c2] w fun e w' => ∃ v0_ v1_ : Value, e = .returned (.tuple #[v0_, v1_]) ∧ Kd.R (Kd.int .i64) 3 w' w.heap.size (fun k_ => some k_ ≠ (v1_ : Value).ownBlock) v0_ r1 ∧ Kd.R (Kd.int .i64) 3 w' w.heap.size (fun k_ => some k_ ≠ (v0_ : Value).ownBlock) v1_ r2 ∧ Below w.heap.size w w' := by
 have hu23 := Try.underlying23
 have HR1 := Aside0.mk hr1
 have HC1 := Aside0.mk hc1
 clear hr1 hc1
 have HR2 := Aside0.mk hr2
 have HC2 := Aside0.mk hc2
 clear hr2 hc2
 have HB := Aside0.mk (Below.refl w.heap.size w)
 have H := h
 unfold polynomial_division.f at H
 clear h
 obtain ⟨ji4, hji4⟩ : ∃ j_ : Int, (wrap64 ((l2.length : Int) - 1)) = j_ := ⟨_, rfl⟩
 first | rw [hji4] at H | simp only [hji4] at H
 have hji4w : (IntKind.i64.wrap ((l2.length : Int) - 1)) = ji4 := (i64_w _).trans hji4
 by_cases c5 : 0 ≤ (ji4)
 ·rw [if_pos c5] at H
  have c5b0 : decide (0 ≤ (ji4)) = true := decide_eq_true c5
  clear c5
  by_cases c6 : (ji4) < (l2.length : Int)
  ·rw [if_pos c6] at H
   have c6b0 : decide ((ji4) < (l2.length : Int)) = true := decide_eq_true c6
   clear c6
   obtain ⟨t977, A7, H⟩ := zD H
   obtain ⟨t978, A8, H⟩ := zD H
   obtain ⟨ji9, hji9⟩ : ∃ j_ : Int, (mx 0 (wrap64 ((l1.length : Int) - (ji4)))) = j_ := ⟨_, rfl⟩
   first | rw [hji9] at H | simp only [hji9] at H
   (try rw [hji9] at A7)
   (try rw [hji9] at A8)
   have hji9_ : (if 0 < (wrap64 ((l1.length : Int) - (ji4))) then (wrap64 ((l1.length : Int) - (ji4))) else 0) = ji9 := hji9
   by_cases c10 : 0 ≤ (ji9)
   ·rw [if_pos c10] at H
    have c10b0 := eq_true c10
    have c10b1 : decide (0 ≤ (ji9)) = true := decide_eq_true c10
    clear c10
    by_cases c11 : (ji9 : Int).toNat ≤ 35184372088832
    ·rw [if_pos c11] at H
     have c11b0 := eq_true c11
     have c11b1 : decide ((ji9 : Int).toNat ≤ 35184372088832) = true := decide_eq_true c11
     clear c11
     obtain ⟨y981, hy981⟩ : ∃ y_ : List Int, y_ = (List.replicate (ji9 : Int).toNat 0) := ⟨_, rfl⟩
     replace H : (polynomial_division.l0 k l2 ji4 t977 t978 y981 (wrap64 ((l1.length : Int) - 1)) a0_0 a0_1 a0_2) = some (r1, r2) := by first | (rw [hy981]; with_reducible exact H) | (have H2_ := (Option.bind_some _ _).symm.trans H; rw [hy981]; with_reducible exact H2_) | (have H2_ := (Option.bind_some _ _).symm.trans H; with_reducible exact H2_) | with_reducible exact H | (rw [hy981]; exact H) | exact H
     have Ny981 := Aside0.mk hy981
     clear hy981
     have H' := zA H
     clear H
     go_enter Try.func121, Try.ntmps121
     try go_wp2_with (first | ((with_reducible refine gate_dst (N := 3) rfl ?_); refine zBox 3 #[.int .i64 a0_0, .int .i64 a0_1, .int .i64 a0_2] 23 ?_; clear HB; intro gb975 w12 BK975 GE975 HB))
     replace BK975 := Aside0.mk (blk_drew BK975.out)
     replace HB := Aside0.mk (below_drew1 HB.out)
     have p976 : 0 ≤ ((ji4) : Int) := of_decide_eq_true (by first | (with_reducible assumption) | assumption)
     have q976 : (ji4) < (l2.length : Int) := of_decide_eq_true (by first | (with_reducible assumption) | assumption)
     obtain ⟨ad976, e976, hx976_0⟩ := Kd.at_int HR2.out (ji4) p976 q976
     have hw976_0 := hx976_0
     cases e976
     replace hx976_0 := (HB.out.cell (World.block_lt_of_cell? w _ hx976_0)).trans hx976_0
     replace p976 := eq_true p976
     replace q976 := eq_true q976
     refine start_ (n := 7) (S := fun w' => w'.cell? ⟨gb975, 0, none⟩ = some (.int .i64 a0_0) ∧ w'.cell? ⟨gb975, 1, none⟩ = some (.int .i64 a0_1) ∧ w'.cell? ⟨gb975, 2, none⟩ = some (.int .i64 a0_2) ∧ w'.cell? (ad976.add ((ji4)).toNat) = some (.int .i64 (rd l2 (ji4)))) (ds := []) #[false, false, false, false, false, false, false] (by kernel_rfl) rfl rfl ⟨(blk_cell BK975.out 0).trans rfl, (blk_cell BK975.out 1).trans rfl, (blk_cell BK975.out 2).trans rfl, ((HB.out.cell (World.block_lt_of_cell? w _ hw976_0)).trans hw976_0)⟩ (fun hHeld => ?_)
     generalize w12.drew = w13 at BK975 HB hx976_0 hHeld ⊢
     refine pU 1 (some 20) ?_
     refine pU 2 (some 21) ?_
     refine pU 3 (some 22) ?_
     refine tU 0 (some 19) hHeld ?_
     refine tU 4 (some 23) hHeld ?_
     refine oU 5 (some 24) (fun K hK => ?_)
     refine goes_ Try.func115 (by kernel_rfl) rfl #[.agg #[.int .i64 a0_0, .int .i64 a0_1, .int .i64 a0_2], .int .i64 (rd l2 (ji4))] (by rfl) rfl rfl (by (try simp only [List.map_toArray, List.map_cons, List.map_nil]); first | done | (simp only [hji4]; rfl) | rfl | (simp only [List.length_drop, List.length_take]; rfl)) ?_
     with_reducible refine (polynomial_inverse.calls k a0_0 a0_1 a0_2 (rd l2 (ji4)) t977 _ A7.out).mono ?_
     rintro e w14 ⟨rfl, hb⟩
     refine ⟨_, rfl, ?_⟩
     replace BK975 := bB BK975 hb
     replace HB := bS hb
     (try clear hb)
     (try clear hb2)
     (try clear hk)
     (try clear hi)
     refine hK.out _ _ ⟨(blk_cell BK975.out 0).trans rfl, (blk_cell BK975.out 1).trans rfl, (blk_cell BK975.out 2).trans rfl, ((HB.out.cell (World.block_lt_of_cell? w _ hw976_0)).trans hw976_0)⟩ (fun hHeld => ?_)
     clear hK K
     refine nU ?_
     refine pU 6 (some 9) ?_
     refine dU ?_
     try go_wp2_with (first | ((with_reducible refine gate_callee (f := 136) rfl ?_); refine gL (some 26) Try.func136 #[.slice A1 l1.length c1] ?_; (with_reducible refine (slices_Clone_int_int.calls _ _ l1 t978 _ ?side1 ?side2 A8.out).mono ?_); (case side1 => exact zN HR1); (case side2 => exact HC1.out); rintro e w15 ⟨v979, rfl, ho0, hb⟩; refine ⟨_, rfl, ?_⟩; have HO980 := Aside0.mk (Kd.R_lower ho0 (below_size zB)); replace BK975 := bB BK975 hb; replace HB := bS hb; (try clear hb); (try clear ho0)) | ((with_reducible refine gate_dst (N := 32) rfl ?_); refine Kd.R_make (Kd.int .i64) _ 3 rfl (N := 32) rfl 45 _ _ rfl ji9 rfl rfl Try.underlying45 (.int .i64 0) 8 info3 rfl (by decide) (by omega) 0 (ok := fun _ => True) (okp := fun _ => True) rfl (fun _ hk => hk) trivial (of_decide_eq_true (by first | (with_reducible assumption) | assumption)) (Nat.le_trans (Nat.mul_le_mul_right _ (of_decide_eq_true (by first | (with_reducible assumption) | assumption) : ji9.toNat ≤ 35184372088832)) (by omega)) (Below.refl _ _) (Nat.le_refl _) ?_; intro v982 w16 ho17 hb hg_ hnew_; clear hg_ hnew_; (first | rw [← Ny981.out] at ho17 | (simp only [Int.reduceToNat] at ho17; rw [← Ny981.out] at ho17)); have HO983 := Aside0.mk (Kd.R_lower (Kd.R_new' ho17 (Kd.R_lt (zO HO980))) (below_size zB)); replace HO980 := Aside0.mk (Kd.R_elder' (zO HO980) (Kd.R_base ho17) hb); replace BK975 := bB BK975 hb; replace HB := bS hb; clear hb ho17))
     go_loopg [12] k (fun kq v12 w' => ∃ (x10_1 : List Int) (x11_1 : List Int) (x12_1 : Int), v12 = .int .i64 x12_1 ∧ Aside0 (polynomial_division.l0 kq l2 ji4 t977 x10_1 x11_1 x12_1 a0_0 a0_1 a0_2 = some (r1, r2)) ∧ Aside0 (kq ≤ k) ∧ Aside0 (Kd.R (Kd.int .i64) 3 w' w.heap.size (fun k_ => some k_ ≠ (v982 : Value).ownBlock) v979 x10_1) ∧ Aside0 (Kd.R (Kd.int .i64) 3 w' w.heap.size (fun k_ => some k_ ≠ (v979 : Value).ownBlock) v982 x11_1) ∧ Aside0 (w'.heap[gb975]? = some (.cells #[.int .i64 a0_0, .int .i64 a0_1, .int .i64 a0_2] 23 (0, 0))) ∧ Aside0 (Below w.heap.size w w'))
     case atStart => exact ⟨(t978), (y981), (wrap64 ((l1.length : Int) - 1)), zR, H', ⟨Nat.le_refl _⟩, ⟨by (with_reducible repeat (first | apply Kd.R_alloc | apply Kd.R_drewN | apply Kd.R_drew)); exact Kd.R_mono HO980.out (fun _ hk => hk.2)⟩, ⟨by (with_reducible repeat (first | apply Kd.R_alloc | apply Kd.R_drewN | apply Kd.R_drew)); exact Kd.R_mono HO983.out (fun _ hk => hk.2)⟩, ⟨zK BK975⟩, ⟨zB⟩⟩
     case round =>
      clear H'
      try clear c1
      try clear c2
      try clear p2
      try clear c5
      try clear c5b0
      try clear c6
      try clear c6b0
      try clear p6
      try clear p9
      try clear q9
      try clear hx9
      try clear c10
      try clear c10b0
      try clear c10b1
      try clear c11
      try clear c11b0
      try clear c11b1
      try clear c12
      try clear c13
      try clear hx976_0
      try clear p976
      try clear q976
      obtain ⟨x10_1, x11_1, x12_1, rfl, HA, HK1, HO_10, HO_11, BK975, HB⟩ := hrel
      cases gk with
      | zero => exact absurd HA.out (by simp [polynomial_division.l0])
      | succ k1 =>
       have H := HA.out
       clear HA
       simp only [polynomial_division.l0] at H
       by_cases c18 : x12_1 ≥ ji4
       ·rw [if_pos c18] at H
        have c18b0 : decide (ji4 ≤ x12_1) = true := decide_eq_true c18
        clear c18
        by_cases c19 : 0 ≤ x12_1
        ·rw [if_pos c19] at H
         have c19b0 : decide (0 ≤ x12_1) = true := decide_eq_true c19
         clear c19
         by_cases c20 : x12_1 < (x10_1.length : Int)
         ·rw [if_pos c20] at H
          have c20b0 : decide (x12_1 < (x10_1.length : Int)) = true := decide_eq_true c20
          clear c20
          obtain ⟨t991, A21, H⟩ := zD H
          obtain ⟨ji22, hji22⟩ : ∃ j_ : Int, (wrap64 (x12_1 - ji4)) = j_ := ⟨_, rfl⟩
          first | rw [hji22] at H | simp only [hji22] at H
          (try rw [hji22] at A21)
          have hji22w : (IntKind.i64.wrap (x12_1 - ji4)) = ji22 := (i64_w _).trans hji22
          by_cases c23 : 0 ≤ (ji22)
          ·rw [if_pos c23] at H
           have c23b0 : decide (0 ≤ (ji22)) = true := decide_eq_true c23
           clear c23
           by_cases c24 : (ji22) < (x11_1.length : Int)
           ·rw [if_pos c24] at H
            have c24b0 : decide ((ji22) < (x11_1.length : Int)) = true := decide_eq_true c24
            clear c24
            obtain ⟨y992, hy992⟩ : ∃ y_ : List Int, y_ = (x11_1.set ((ji22) : Int).toNat t991) := ⟨_, rfl⟩
            replace H : (polynomial_division.l1 k1 l2 ji4 t977 x10_1 y992 x12_1 t991 l2 (l2.length : Int) 0 a0_0 a0_1 a0_2) = some (r1, r2) := by first | (rw [hy992]; with_reducible exact H) | (have H2_ := (Option.bind_some _ _).symm.trans H; rw [hy992]; with_reducible exact H2_) | (have H2_ := (Option.bind_some _ _).symm.trans H; with_reducible exact H2_) | with_reducible exact H | (rw [hy992]; exact H) | exact H
            have Ny992 := Aside0.mk hy992
            clear hy992
            have H' := zA H
            clear H
            try go_wp2
            replace HO_10 := Aside0.mk (Kd.R_drew HO_10.out)
            replace HO_11 := Aside0.mk (Kd.R_drew HO_11.out)
            replace BK975 := Aside0.mk (blk_drew BK975.out)
            replace HB := Aside0.mk (below_drew1 HB.out)
            obtain ⟨Ao27, co27, eo27⟩ := Kd.R_slice HO_10.out
            (first | subst eo27 | (injection eo27 with f1_ f2_ f3_; have f4_ := f1_.symm; have f5_ := f3_.symm; clear f1_ f2_ f3_; subst f4_; subst f5_))
            have p990 : 0 ≤ (x12_1 : Int) := of_decide_eq_true (by first | (with_reducible assumption) | assumption)
            have q990 : x12_1 < (x10_1.length : Int) := of_decide_eq_true (by first | (with_reducible assumption) | assumption)
            obtain ⟨ad990, e990, hx990_0⟩ := Kd.at_int (Kd.R_reads' HO_10.out).2.2 x12_1 p990 q990
            cases e990
            replace p990 := eq_true p990
            replace q990 := eq_true q990
            refine start_ (n := 8) (S := fun w' => w'.cell? ⟨gb975, 0, none⟩ = some (.int .i64 a0_0) ∧ w'.cell? ⟨gb975, 1, none⟩ = some (.int .i64 a0_1) ∧ w'.cell? ⟨gb975, 2, none⟩ = some (.int .i64 a0_2) ∧ w'.cell? (ad990.add (x12_1).toNat) = some (.int .i64 (rd x10_1 x12_1))) (ds := []) #[false, false, false, false, false, false, false, false] (by kernel_rfl) rfl rfl ⟨(blk_cell BK975.out 0).trans rfl, (blk_cell BK975.out 1).trans rfl, (blk_cell BK975.out 2).trans rfl, hx990_0⟩ (fun hHeld => ?_); refine with_tabW polynomial_division.tab8 polynomial_division.bits8 (fun HT_ HW_ => ?_)
            generalize wr.drew = w26 at HO_10 HO_11 BK975 HB hx990_0 hHeld ⊢
            refine pU 1 (some 42) ?_
            refine pU 2 (some 43) ?_
            refine pU 3 (some 44) ?_
            refine pU 5 (some 46) ?_
            refine tU 0 (some 41) hHeld ?_
            refine tU 4 (some 45) hHeld ?_
            refine oU 6 (some 47) (fun K hK => ?_)
            refine goes_ Try.func114 (by kernel_rfl) rfl #[.agg #[.int .i64 a0_0, .int .i64 a0_1, .int .i64 a0_2], .int .i64 (rd x10_1 x12_1), .int .i64 t977] (by rfl) rfl rfl zM ?_
            with_reducible refine (polynomial_mul.calls k1 a0_0 a0_1 a0_2 (rd x10_1 x12_1) t977 t991 _ A21.out).mono ?_
            rintro e w28 ⟨rfl, hb⟩
            have HS3_ := (hb.cell (World.block_lt_of_cell? _ _ (hHeld.2.2.2))).trans (hHeld.2.2.2)
            refine ⟨_, rfl, ?_⟩
            replace HO_10 := Aside0.mk (Kd.R_below (zO HO_10) hb)
            replace HO_11 := Aside0.mk (Kd.R_below (zO HO_11) hb)
            replace BK975 := bB BK975 hb
            replace HB := bS hb
            (try clear hb)
            (try clear hb2)
            (try clear hk)
            (try clear hi)
            refine hK.out _ _ ⟨(blk_cell BK975.out 0).trans rfl, (blk_cell BK975.out 1).trans rfl, (blk_cell BK975.out 2).trans rfl, HS3_⟩ (fun hHeld => ?_)
            clear hK K
            refine nU ?_
            refine pU 7 (some 13) ?_
            refine dU ?_
            have p25 : 0 ≤ ((ji22) : Int) := of_decide_eq_true (by first | (with_reducible assumption) | assumption)
            have q25 : ((ji22) : Int) < ((x11_1.length : Int) : Int) := of_decide_eq_true (by first | (with_reducible assumption) | assumption)
            obtain ⟨go25, co25, eo25, gb25, gl25, cl25, HG25⟩ := Kd.R_form HO_11.out (by omega)
            (first | cases eo25 | (injection eo25 with ea_ en_ ec_; (first | subst ea_ | (injection ea_ with ea_; subst ea_)); subst ec_; clear en_))
            have GB25 := Aside0.mk gb25
            have GG25 := Aside0.mk HG25
            clear gb25 gl25 HG25
            obtain ⟨hx25_0, hf25_0⟩ := Kd.R_celln 0 HO_11.out ((ji22) : Int) p25 q25
            replace p25 := eq_true p25
            replace q25 := eq_true q25
            obtain ⟨hy29_, hz29_⟩ := Kd.R_celln 0 HO_11.out ((ji22) : Int) (of_decide_eq_true (by first | (with_reducible assumption) | assumption)) (of_decide_eq_true (by first | (with_reducible assumption) | assumption))
            have HP29 := Kd.R_putg HO_11.out ((ji22) : Int) t991
            try go_wp2_with (first | ((with_reducible refine gate_store (t := 3) (p := 53) rfl ?_); refine store_event (t := 3) (p := 53) (v := ?vo_w30) (w1 := (w28.setCell ⟨go25, ((ji22) : Int).toNat, none⟩ (.int .i64 t991))) ?hg ?ho ?hn ?hr ?_; (case ho => rfl); (case hg => rfl); (case hn => rfl); (case hr => first | (go_simp; done) | (go_simp; rfl)); intro w30 hw; have hg : w28.grownBy w30 (some go25) := (by rw [hw]; exact HP29.2); have hp_ : Kd.R (Kd.int .i64) 3 w30 w.heap.size (fun k_ => some k_ ≠ (.slice (some ad990) x10_1.length co27 : Value).ownBlock) (.slice (some ⟨go25, 0, none⟩) x11_1.length co25) y992 := (by rw [hw, Ny992.out]; exact HP29.1); clear HP29; replace HO_10 := Aside0.mk (Kd.R_after (v := (.slice (some ⟨go25, 0, none⟩) x11_1.length co25)) (v1 := (.slice (some ⟨go25, 0, none⟩) x11_1.length co25)) (ok := (fun _ => True)) (by (with_reducible repeat (first | apply Kd.R_alloc | apply Kd.R_drewN | apply Kd.R_drew)); exact Kd.R_mono HO_10.out (fun _ hk => ⟨trivial, hk⟩)) hg (.inl rfl)); replace BK975 := Aside0.mk (blk_grown (g := gb975) (o := .cells #[.int .i64 a0_0, .int .i64 a0_1, .int .i64 a0_2] 23 (0, 0)) (zK BK975) hg (Kd.R_ne HO_11.out BK975.out (by decide))); replace HO_11 := Aside0.mk (hp_); replace HB := Aside0.mk ((by rw [hw]; exact below_set (HB.out) GB25.out : Below w.heap.size w w30)); clear hg hw hp_))
            generalize (Value.pointer (some (ad990.add x12_1.toNat))) = vQ_ -- addr0_
            go_loopg [56] k1 (fun kq v56 w' => ∃ (x10_2 : List Int) (x56_2 : Int), v56 = .int .i64 x56_2 ∧ Aside0 (polynomial_division.l1 kq l2 ji4 t977 x10_2 y992 x12_1 t991 l2 (l2.length : Int) x56_2 a0_0 a0_1 a0_2 = some (r1, r2)) ∧ Aside0 (kq ≤ k1) ∧ Aside0 (Kd.R (Kd.int .i64) 3 w' w.heap.size (fun k_ => some k_ ≠ ((.slice (some ⟨go25, 0, none⟩) x11_1.length co25) : Value).ownBlock) (.slice (some ad990) x10_1.length co27) x10_2) ∧ Aside0 (Kd.R (Kd.int .i64) 3 w' w.heap.size (fun k_ => some k_ ≠ ((.slice (some ad990) x10_1.length co27) : Value).ownBlock) (.slice (some ⟨go25, 0, none⟩) x11_1.length co25) y992) ∧ Aside0 (w'.heap[gb975]? = some (.cells #[.int .i64 a0_0, .int .i64 a0_1, .int .i64 a0_2] 23 (0, 0))) ∧ Aside0 (Below w.heap.size w w'))
            case atStart => exact ⟨(x10_1), (0), zR, H', ⟨Nat.le_refl _⟩, ⟨by (with_reducible repeat (first | apply Kd.R_alloc | apply Kd.R_drewN | apply Kd.R_drew)); exact Kd.R_mono HO_10.out (fun _ hk => hk.2)⟩, ⟨zO HO_11⟩, ⟨zK BK975⟩, ⟨zB⟩⟩
            case round =>
             clear H'
             try clear c1
             try clear c2
             try clear p2
             try clear q2
             try clear hx2
             try clear c5
             try clear c5b0
             try clear c6
             try clear c6b0
             try clear p6
             try clear p9
             try clear q9
             try clear hx9
             try clear c10
             try clear c10b0
             try clear c10b1
             try clear c11
             try clear c11b0
             try clear c11b1
             try clear c12
             try clear c13
             try clear c18
             try clear c18b0
             try clear c19
             try clear c19b0
             try clear c20
             try clear c20b0
             try clear c23
             try clear c23b0
             try clear c24
             try clear c24b0
             try clear p25
             try clear q25
             try clear hx25
             try clear hf25
             try clear hx25_0
             try clear hx976_0
             try clear hx990_0
             try clear p2
             try clear p25
             try clear p6
             try clear p9
             try clear p976
             try clear p990
             try clear q25
             try clear q9
             try clear q976
             try clear q990
             obtain ⟨x10_2, x56_2, rfl, HA, HK2, HO_10, HO_11, BK975, HB⟩ := hrel
             have hl10_2 := (Kd.R_reads' HO_10.out).1
             rw [hl10_2] at HO_10
             (try simp only [hl10_2])
             (try simp only [hl10_2] at BK975)
             (try simp only [hl10_2] at HO_11)
             have hl11_2 := (Kd.R_reads' HO_11.out).1
             rw [hl11_2] at HO_11
             (try simp only [hl11_2])
             (try simp only [hl11_2] at BK975)
             (try simp only [hl11_2] at HO_10)
             cases gk with
             | zero => exact absurd HA.out (by simp [polynomial_division.l1])
             | succ k2 =>
              have H := HA.out
              clear HA
              simp only [polynomial_division.l1] at H
              by_cases c31 : x56_2 < (l2.length : Int)
              ·rw [if_pos c31] at H
               have c31b0 : decide (x56_2 < (l2.length : Int)) = true := decide_eq_true c31
               clear c31
               by_cases c32 : 0 ≤ x56_2
               ·rw [if_pos c32] at H
                have c32b0 : decide (0 ≤ x56_2) = true := decide_eq_true c32
                clear c32
                by_cases c33 : x56_2 < (l2.length : Int)
                ·rw [if_pos c33] at H
                 have c33b0 : decide (x56_2 < (l2.length : Int)) = true := decide_eq_true c33
                 clear c33
                 obtain ⟨ji34, hji34⟩ : ∃ j_ : Int, (wrap64 ((wrap64 (x12_1 - ji4)) + x56_2)) = j_ := ⟨_, rfl⟩
                 first | rw [hji34] at H | simp only [hji34] at H
                 have hji34w : (IntKind.i64.wrap ((wrap64 (x12_1 - ji4)) + x56_2)) = ji34 := (i64_w _).trans hji34
                 (try rw [hji22] at hji34) /- nested_ -/
                 (try rw [hji22] at hji34w)
                 by_cases c35 : 0 ≤ (ji34)
                 ·rw [if_pos c35] at H
                  have c35b0 : decide (0 ≤ (ji34)) = true := decide_eq_true c35
                  clear c35
                  by_cases c36 : (ji34) < (x10_2.length : Int)
                  ·rw [if_pos c36] at H
                   have c36b0 : decide ((ji34) < (x10_2.length : Int)) = true := decide_eq_true c36
                   clear c36
                   obtain ⟨t995, A37, H⟩ := zD H
                   obtain ⟨t996, A38, H⟩ := zD H
                   obtain ⟨y997, hy997⟩ : ∃ y_ : List Int, y_ = (x10_2.set ((ji34) : Int).toNat t996) := ⟨_, rfl⟩
                   replace H : (polynomial_division.l1 k2 l2 ji4 t977 y997 y992 x12_1 t991 l2 (l2.length : Int) (wrap64 (x56_2 + 1)) a0_0 a0_1 a0_2) = some (r1, r2) := by first | (rw [hy997]; with_reducible exact H) | (have H2_ := (Option.bind_some _ _).symm.trans H; rw [hy997]; with_reducible exact H2_) | (have H2_ := (Option.bind_some _ _).symm.trans H; with_reducible exact H2_) | with_reducible exact H | (rw [hy997]; exact H) | exact H
                   have Ny997 := Aside0.mk hy997
                   clear hy997
                   have H' := zA H
                   clear H
                   have p993 : 0 ≤ (x56_2 : Int) := of_decide_eq_true (by first | (with_reducible assumption) | assumption)
                   have q993 : x56_2 < (l2.length : Int) := of_decide_eq_true (by first | (with_reducible assumption) | assumption)
                   obtain ⟨ad993, e993, hx993_0⟩ := Kd.at_int HR2.out x56_2 p993 q993
                   obtain rfl : ad976 = ad993 := (by injection e993)
                   replace hx993_0 := (HB.out.cell (World.block_lt_of_cell? w _ hx993_0)).trans hx993_0
                   replace p993 := eq_true p993
                   replace q993 := eq_true q993
                   try go_wp2
                   replace HO_10 := Aside0.mk (Kd.R_drew HO_10.out)
                   replace HO_11 := Aside0.mk (Kd.R_drew HO_11.out)
                   replace BK975 := Aside0.mk (blk_drew BK975.out)
                   replace HB := Aside0.mk (below_drew1 HB.out)
                   have p994 : 0 ≤ ((ji34) : Int) := of_decide_eq_true (by first | (with_reducible assumption) | assumption)
                   have q994 : (ji34) < (x10_2.length : Int) := of_decide_eq_true (by first | (with_reducible assumption) | assumption)
                   obtain ⟨ad994, e994, hx994_0⟩ := Kd.at_int (Kd.R_reads' HO_10.out).2.2 (ji34) p994 q994
                   obtain rfl : ad990 = ad994 := (by injection e994)
                   replace p994 := eq_true p994
                   replace q994 := eq_true q994
                   refine start_ (n := 22) (S := fun w' => w'.cell? ⟨gb975, 0, none⟩ = some (.int .i64 a0_0) ∧ w'.cell? ⟨gb975, 1, none⟩ = some (.int .i64 a0_1) ∧ w'.cell? ⟨gb975, 2, none⟩ = some (.int .i64 a0_2) ∧ w'.cell? (ad990.add ((ji34)).toNat) = some (.int .i64 (rd x10_2 (ji34)))) (ds := [21]) #[false, false, false, false, false, false, false, false, false, false, false, false, false, false, false, false, false, false, false, false, false, false] (by kernel_rfl) rfl rfl ⟨(blk_cell BK975.out 0).trans rfl, (blk_cell BK975.out 1).trans rfl, (blk_cell BK975.out 2).trans rfl, hx994_0⟩ (fun hHeld => ?_); refine with_tabW polynomial_division.tab13 polynomial_division.bits13 (fun HT_ HW_ => ?_)
                   generalize wr.drew = w40 at HO_10 HO_11 BK975 HB hx994_0 hHeld ⊢
                   refine pU 0 (some 61) ?_
                   refine pU 1 (some 62) ?_
                   refine pU 2 (some 63) ?_
                   refine pU 3 (some 64) ?_
                   refine pU 4 (some 65) ?_
                   refine pU 5 (some 66) ?_
                   refine pU 7 (some 68) ?_
                   refine pU 8 (some 69) ?_
                   refine pU 9 (some 70) ?_
                   refine pU 10 (some 71) ?_
                   refine pU 11 (some 72) ?_
                   refine pU 12 (some 73) ?_
                   refine pU 13 (some 74) ?_
                   refine pU 16 (some 77) ?_
                   refine pU 17 (some 78) ?_
                   refine tU 6 (some 67) hHeld ?_
                   refine tU 14 (some 75) hHeld ?_
                   refine tU 15 (some 76) hHeld ?_
                   refine oU 18 (some 79) (fun K hK => ?_)
                   refine goes_ Try.func114 (by kernel_rfl) rfl #[.agg #[.int .i64 a0_0, .int .i64 a0_1, .int .i64 a0_2], .int .i64 t991, .int .i64 (rd l2 x56_2)] (by rfl) rfl rfl zM ?_
                   with_reducible refine (polynomial_mul.calls k2 a0_0 a0_1 a0_2 t991 (rd l2 x56_2) t995 _ A37.out).mono ?_
                   rintro e w41 ⟨rfl, hb⟩
                   have HS3_ := (hb.cell (World.block_lt_of_cell? _ _ (hHeld.2.2.2))).trans (hHeld.2.2.2)
                   refine ⟨_, rfl, ?_⟩
                   replace HO_10 := Aside0.mk (Kd.R_below (zO HO_10) hb)
                   replace HO_11 := Aside0.mk (Kd.R_below (zO HO_11) hb)
                   replace BK975 := bB BK975 hb
                   replace HB := bS hb
                   (try clear hb)
                   (try clear hb2)
                   (try clear hk)
                   (try clear hi)
                   refine hK.out _ _ ⟨(blk_cell BK975.out 0).trans rfl, (blk_cell BK975.out 1).trans rfl, (blk_cell BK975.out 2).trans rfl, HS3_⟩ (fun hHeld => ?_)
                   clear hK K
                   refine nU ?_
                   refine oU 19 (some 80) (fun K hK => ?_)
                   refine goes_ Try.func113 (by kernel_rfl) rfl #[.agg #[.int .i64 a0_0, .int .i64 a0_1, .int .i64 a0_2], .int .i64 (rd x10_2 (ji34)), .int .i64 t995] (by rfl) rfl rfl (by (try simp only [List.map_toArray, List.map_cons, List.map_nil]); first | done | (simp only [hji34]; rfl) | rfl | (simp only [List.length_drop, List.length_take]; rfl)) ?_
                   with_reducible refine (polynomial_sub.calls a0_0 a0_1 a0_2 (rd x10_2 (ji34)) t995 t996 _ A38.out).mono ?_
                   rintro e w42 ⟨rfl, hb⟩
                   have HS3_ := (hb.cell (World.block_lt_of_cell? _ _ (hHeld.2.2.2))).trans (hHeld.2.2.2)
                   refine ⟨_, rfl, ?_⟩
                   replace HO_10 := Aside0.mk (Kd.R_below (zO HO_10) hb)
                   replace HO_11 := Aside0.mk (Kd.R_below (zO HO_11) hb)
                   replace BK975 := bB BK975 hb
                   replace HB := bS hb
                   (try clear hb)
                   (try clear hb2)
                   (try clear hk)
                   (try clear hi)
                   have p39 : 0 ≤ ((ji34) : Int) := of_decide_eq_true (by first | (with_reducible assumption) | assumption)
                   have q39 : ((ji34) : Int) < ((x10_2.length : Int) : Int) := of_decide_eq_true (by first | (with_reducible assumption) | assumption)
                   obtain ⟨go39, co39, eo39, gb39, gl39, cl39, HG39⟩ := Kd.R_form HO_10.out (by omega)
                   (first | cases eo39 | (injection eo39 with ea_ en_ ec_; (first | subst ea_ | (injection ea_ with ea_; subst ea_)); subst ec_; clear en_))
                   have GB39 := Aside0.mk gb39
                   have GG39 := Aside0.mk HG39
                   clear gb39 gl39 HG39
                   (first | simp only [add_plain] at hx990_0 | skip)
                   (first | simp only [add_plain] at hx994_0 | skip)
                   obtain ⟨hx39_0, hf39_0⟩ := Kd.R_celln 0 HO_10.out ((ji34) : Int) p39 q39
                   replace p39 := eq_true p39
                   replace q39 := eq_true q39
                   have HP43 := Kd.R_putn HO_10.out ((ji34) : Int) t996
                   rw [← Ny997.out] at HP43
                   have HQ43 := Aside0.mk HP43
                   clear HP43
                   refine hK.out _ _ ⟨(blk_cell BK975.out 0).trans rfl, (blk_cell BK975.out 1).trans rfl, (blk_cell BK975.out 2).trans rfl, HS3_⟩ (fun hHeld => ?_)
                   clear hK K
                   refine nU ?_
                   refine pU 20 (some 81) ?_
                   refine last_ (i := 21) (N := none) #[true, true, true, true, true, true, true, true, true, true, true, true, true, true, true, true, true, true, true, true, true, true] rfl rfl (one_of HT_.out (by kernel_rfl)) (by decide) (fun K hK => ?_)
                   refine skip_ (w1 := ?_) (by rfl) rfl ?_ ?_
                   rotate_left
                   ·go_simp
                    rfl
                   refine hK.out _ _ ?_
                   clear hK K
                   refine dU ?_
                   try go_wp2
                   (try simp only [← hl10_2, ← hl11_2])
                   go_roundg k2
                   case measure => have := HK1.out; have := HK2.out; omega
                   case rel => exact ⟨(y997), (wrap64 (x56_2 + 1)), zR, H', ⟨by have := HK1.out; have := HK2.out; omega⟩, ⟨by (try simp only [hl10_2]); (try simp only [hl11_2]); (with_reducible repeat (first | apply Kd.R_alloc | apply Kd.R_drewN | apply Kd.R_drew)); exact HQ43.out⟩, ⟨by (try simp only [hl10_2]); (try simp only [hl11_2]); (with_reducible repeat (first | apply Kd.R_alloc | apply Kd.R_drewN | apply Kd.R_drew)); exact Kd.R_mono (Kd.R_far (p := ⟨go39, ((ji34) : Int).toNat, none⟩) (Kd.R_mono HO_11.out (fun k_ hk => (⟨hk, fun e_ => hk (by rw [e_]; rfl)⟩ : _ ∧ k_ ≠ go39))) (fun _ hk => hk.2) (.int .i64 t996)) (fun _ hk => hk.1)⟩, ⟨by (try simp only [hl10_2]); (try simp only [hl11_2]); (with_reducible repeat (first | refine blk_drewN ?_ _ | refine blk_drew ?_ | refine blk_alloc ?_ _)); refine blk_far ?_ (by have h_ := Kd.R_ne HO_10.out BK975.out (by decide); intro e_; exact h_ (by rw [e_]; rfl)) _; (with_reducible repeat (first | refine blk_drewN ?_ _ | refine blk_drew ?_ | refine blk_alloc ?_ _)); exact BK975.out⟩, ⟨by repeat (first | (with_reducible first | exact HB.out | apply below_alloc | apply pw_below_drewN | apply below_drew1 | refine below_set ?_ GB39.out | refine zSet ?_ (by assumption)) | exact HB.out)⟩⟩
                  ·rw [if_neg c36] at H
                   exact absurd H (by simp)
                 ·rw [if_neg c35] at H
                  exact absurd H (by simp)
                ·rw [if_neg c33] at H
                 exact absurd H (by simp)
               ·rw [if_neg c32] at H
                exact absurd H (by simp)
              ·rw [if_neg c31] at H
               have c31b0 : decide (x56_2 < (l2.length : Int)) = false := decide_eq_false c31
               clear c31
               have H' := zA H
               clear H
               go_wp2
               (try simp only [← hl10_2, ← hl11_2])
               go_roundg k2
               case measure => have := HK1.out; have := HK2.out; omega
               case rel => exact ⟨(x10_2), (y992), (wrap64 (x12_1 - 1)), zR, H', ⟨by have := HK1.out; have := HK2.out; omega⟩, ⟨by (try simp only [hl10_2]); (try simp only [hl11_2]); (with_reducible repeat (first | apply Kd.R_alloc | apply Kd.R_drewN | apply Kd.R_drew)); exact HO_10.out⟩, ⟨by (try simp only [hl10_2]); (try simp only [hl11_2]); (with_reducible repeat (first | apply Kd.R_alloc | apply Kd.R_drewN | apply Kd.R_drew)); exact HO_11.out⟩, ⟨by (try simp only [hl10_2]); (try simp only [hl11_2]); (with_reducible repeat (first | refine blk_drewN ?_ _ | refine blk_drew ?_ | refine blk_alloc ?_ _)); exact BK975.out⟩, ⟨zB⟩⟩
           ·rw [if_neg c24] at H
            exact absurd H (by simp)
          ·rw [if_neg c23] at H
           exact absurd H (by simp)
         ·rw [if_neg c20] at H
          exact absurd H (by simp)
        ·rw [if_neg c19] at H
         exact absurd H (by simp)
       ·rw [if_neg c18] at H
        have c18b0 : decide (ji4 ≤ x12_1) = false := decide_eq_false c18
        clear c18
        obtain ⟨t984, A44, H⟩ := zD H
        obtain ⟨t987, A45, H⟩ := zD H
        simp only [Option.some.injEq, Prod.mk.injEq] at H
        obtain ⟨rfl, rfl⟩ := H
        obtain ⟨Ao46, co46, eo46⟩ := Kd.R_slice HO_11.out
        subst eo46
        go_wp2_with (first | ((with_reducible refine gate_callee (f := 124) rfl ?_); refine gL (some 84) Try.func124 #[.slice Ao46 x11_1.length co46] ?_; (with_reducible refine (polynomial_trimmed_int.calls k1 (fun k_ => some k_ = (.slice Ao46 x11_1.length co46 : Value).ownBlock) _ _ x11_1 t984 _ ?side1 A44.out).mono ?_); (case side1 => exact Kd.R_V (Kd.R_tight rfl (Kd.R_types (HO_11.out) BK975.out (by decide)))); rintro e w47 ⟨v985, rfl, ho0, hb⟩; refine ⟨_, rfl, ?_⟩; have HO986 := Aside0.mk (Kd.R_lower (Kd.R_new' (Kd.R_new' (Kd.R_mono (ok' := fun k_ => True) ho0 (fun _ hk_ => trivial)) (Kd.R_lt (zO HO_10))) (Kd.R_lt (zO HO_11))) (below_size zB)); replace HO_10 := Aside0.mk (Kd.R_elder' (zO HO_10) (Kd.R_base ho0) hb); replace HO_11 := Aside0.mk (Kd.R_elder' (zO HO_11) (Kd.R_base ho0) hb); replace BK975 := bB BK975 hb; replace HB := bS hb; (try clear hb); (try clear ho0); obtain ⟨Ao48, co48, eo48⟩ := Kd.R_slice HO_10.out; subst eo48) | ((with_reducible refine gate_callee (f := 124) rfl ?_); refine gL (some 86) Try.func124 #[.slice Ao48 x10_1.length co48] ?_; (with_reducible refine (polynomial_trimmed_int.calls k1 (fun k_ => some k_ = (.slice Ao48 x10_1.length co48 : Value).ownBlock) _ _ x10_1 t987 _ ?side1 A45.out).mono ?_); (case side1 => exact Kd.R_V (Kd.R_tight rfl (Kd.R_types (HO_10.out) BK975.out (by decide)))); rintro e w49 ⟨v988, rfl, ho0, hb⟩; refine ⟨_, rfl, ?_⟩; have HO989 := Aside0.mk (Kd.R_lower (Kd.R_new' (Kd.R_new' (Kd.R_new' (Kd.R_mono (ok' := fun k_ => True) ho0 (fun _ hk_ => trivial)) (Kd.R_lt (zO HO_10))) (Kd.R_lt (zO HO_11))) (Kd.R_lt (zO HO986))) (below_size zB)); replace HO_10 := Aside0.mk (Kd.R_elder' (zO HO_10) (Kd.R_base ho0) hb); replace HO_11 := Aside0.mk (Kd.R_elder' (zO HO_11) (Kd.R_base ho0) hb); replace HO986 := Aside0.mk (Kd.R_elder' (zO HO986) (Kd.R_base ho0) hb); replace BK975 := bB BK975 hb; replace HB := bS hb; (try clear hb); (try clear ho0)))
        go_ret2
        exact ⟨_, _, by first | rfl | (simp [errW_none, errW_some] <;> rfl) | (simp only [← hji4, ← hji9]; first | rfl | (simp [errW_none, errW_some] <;> rfl)) | (simp [*, errW_none, errW_some] <;> rfl), by (with_reducible repeat (first | apply Kd.R_alloc | apply Kd.R_drewN | apply Kd.R_drew)); exact Kd.R_mono HO986.out (fun _ hk => hk.2), by (with_reducible repeat (first | apply Kd.R_alloc | apply Kd.R_drewN | apply Kd.R_drew)); exact Kd.R_mono HO989.out (fun _ hk => hk.2), zB⟩
    ·rw [if_neg c11] at H
     exact absurd H (by simp)
   ·rw [if_neg c10] at H
    exact absurd H (by simp)
  ·rw [if_neg c6] at H
   exact absurd H (by simp)
 ·rw [if_neg c5] at H
  exact absurd H (by simp)
/-! ### polynomial_monic: function 122 -/
def polynomial_monic.f (k : Nat) (a0_0 : Int) (a0_1 : Int) (a0_2 : Int) (l1 : List Int) : Option (List Int) := if (l1.length : Int) = 0 then (some ([] : List Int)) else (if 0 ≤ (wrap64 ((l1.length : Int) - 1)) then (if (wrap64 ((l1.length : Int) - 1)) < (l1.length : Int) then ((polynomial_inverse.f k a0_0 a0_1 a0_2 (rd l1 (wrap64 ((l1.length : Int) - 1)))).bind fun t1000 => ((polynomial_scaled.f k a0_0 a0_1 a0_2 l1 t1000).bind fun t1001 => (some t1001))) else (none)) else (none))
theorem polynomial_monic.mono : ∀ a0 a1 a2 a3 k, LeO (polynomial_monic.f k a0 a1 a2 a3) (polynomial_monic.f (k + 1) a0 a1 a2 a3) := by
 intro a0 a1 a2 a3 k
 unfold polynomial_monic.f
 have m0_ := @polynomial_inverse.mono
 have m1_ := @polynomial_scaled.mono
 exact zMo
def polynomial_monic.T3 : Bool × List (List Nat × List Nat) := (true, [([], []), ([], []), ([], []), ([], []), ([], []), ([4], [4]), ([5], [5]), ([3, 6], [3, 6]), ([7], [7]), ([2, 8], [2, 8]), ([0, 1, 9, 9], [0, 1, 9]), ([10, 10, 0, 1, 2, 3, 4, 5, 6, 7, 8, 9, 10], [10])])
def polynomial_monic.B3 : List Nat := [0, 0, 0, 0, 0, 16, 48, 120, 248, 508, 1023, 2047]
theorem polynomial_monic.tab3 : rtab .any (opsOf Try.f122 3) = polynomial_monic.T3 := by kernel_rfl
theorem polynomial_monic.bits3 : waitsOk polynomial_monic.T3.2 polynomial_monic.B3 = true := by kernel_rfl
theorem polynomial_monic.calls (k : Nat) (a0_0 : Int) (a0_1 : Int) (a0_2 : Int) (A1 : Option Addr) (c1 : Nat) (l1 : List Int) (r : List Int) (w : World) (hr1 : Kd.C (Kd.int .i64) w A1 l1.length l1) (hc1 : l1.length ≤ c1) (h : polynomial_monic.f k a0_0 a0_1 a0_2 l1 = some r) :
  Calls Try.prog 122 #[.agg #[.int .i64 a0_0, .int .i64 a0_1, .int .i64 a0_2], .slice A1 l1.length c1] w fun e w' => ∃ v0_ : Value, e = .returned (v0_) ∧ Kd.R (Kd.int .i64) 3 w' w.heap.size (fun _ => True) v0_ r ∧ Below w.heap.size w w' := by
 have hu23 := Try.underlying23
 have HR1 := Aside0.mk hr1
 have HC1 := Aside0.mk hc1
 clear hr1 hc1
 have HB := Aside0.mk (Below.refl w.heap.size w)
 have H := h
 unfold polynomial_monic.f at H
 clear h
 by_cases c3 : (l1.length : Int) = 0
 ·rw [if_pos c3] at H
  have c3b0 := beq_iff_eq.mpr c3
  have c3b1 := bne_eq_false_iff_eq.mpr c3
  clear c3
  obtain rfl := Option.some.inj H
  go_enter Try.func122, Try.ntmps122
  go_wp2_with (first | ((with_reducible refine gate_dst (N := 2) rfl ?_); refine zBox 2 #[.int .i64 a0_0, .int .i64 a0_1, .int .i64 a0_2] 23 ?_; clear HB; intro gb998 w4 BK998 GE998 HB))
  go_ret
  exact ⟨_, zE, by first | exact Kd.R_nil _ _ _ _ _ | exact Kd.N_nil _ _ _ _ _ | exact Kd.V_nil _ _ _ _ _ | exact Kd.Q_nil _ _ _ _ _ | exact Kd.S_nil _ _ _ _ _, zB⟩
 ·rw [if_neg c3] at H
  have c3b0 := beq_eq_false_iff_ne.mpr c3
  have c3b1 := bne_iff_ne.mpr c3
  have c3b2 : ¬ (l1 = []) := fun h_ => c3 (by rw [h_]; rfl)
  obtain ⟨ji5, hji5⟩ : ∃ j_ : Int, (wrap64 ((l1.length : Int) - 1)) = j_ := ⟨_, rfl⟩
  first | rw [hji5] at H | simp only [hji5] at H
  have hji5w : (IntKind.i64.wrap ((l1.length : Int) - 1)) = ji5 := (i64_w _).trans hji5
  by_cases c6 : 0 ≤ (ji5)
  ·rw [if_pos c6] at H
   have c6b0 : decide (0 ≤ (ji5)) = true := decide_eq_true c6
   clear c6
   by_cases c7 : (ji5) < (l1.length : Int)
   ·rw [if_pos c7] at H
    have c7b0 : decide ((ji5) < (l1.length : Int)) = true := decide_eq_true c7
    clear c7
    obtain ⟨t1000, A8, H⟩ := zD H
    obtain ⟨t1001, A9, H⟩ := zD H
    obtain rfl := Option.some.inj H
    go_enter Try.func122, Try.ntmps122
    try go_wp2_with (first | ((with_reducible refine gate_dst (N := 2) rfl ?_); refine zBox 2 #[.int .i64 a0_0, .int .i64 a0_1, .int .i64 a0_2] 23 ?_; clear HB; intro gb998 w10 BK998 GE998 HB))
    replace BK998 := Aside0.mk (blk_drew BK998.out)
    replace HB := Aside0.mk (below_drew1 HB.out)
    have p999 : 0 ≤ ((ji5) : Int) := of_decide_eq_true (by first | (with_reducible assumption) | assumption)
    have q999 : (ji5) < (l1.length : Int) := of_decide_eq_true (by first | (with_reducible assumption) | assumption)
    obtain ⟨ad999, e999, hx999_0⟩ := Kd.at_int HR1.out (ji5) p999 q999
    have hw999_0 := hx999_0
    cases e999
    replace hx999_0 := (HB.out.cell (World.block_lt_of_cell? w _ hx999_0)).trans hx999_0
    replace p999 := eq_true p999
    replace q999 := eq_true q999
    refine start_ (n := 12) (S := fun w' => w'.cell? ⟨gb998, 0, none⟩ = some (.int .i64 a0_0) ∧ w'.cell? ⟨gb998, 1, none⟩ = some (.int .i64 a0_1) ∧ w'.cell? ⟨gb998, 2, none⟩ = some (.int .i64 a0_2) ∧ w'.cell? (ad999.add ((ji5)).toNat) = some (.int .i64 (rd l1 (ji5)))) (ds := []) #[false, false, false, false, false, false, false, false, false, false, false, false] (by kernel_rfl) rfl rfl ⟨(blk_cell BK998.out 0).trans rfl, (blk_cell BK998.out 1).trans rfl, (blk_cell BK998.out 2).trans rfl, ((HB.out.cell (World.block_lt_of_cell? w _ hw999_0)).trans hw999_0)⟩ (fun hHeld => ?_); refine with_tabW polynomial_monic.tab3 polynomial_monic.bits3 (fun HT_ HW_ => ?_)
    generalize w10.drew = w11 at BK998 HB hx999_0 hHeld ⊢
    refine pU 1 (some 9) ?_
    refine pU 3 (some 11) ?_
    refine pU 4 (some 12) ?_
    refine pU 5 (some 13) ?_
    refine pU 6 (some 14) ?_
    refine pU 7 (some 15) ?_
    refine tU 0 (some 8) hHeld ?_
    refine tU 2 (some 10) hHeld ?_
    refine tU 8 (some 16) hHeld ?_
    refine oU 9 (some 17) (fun K hK => ?_)
    refine goes_ Try.func115 (by kernel_rfl) rfl #[.agg #[.int .i64 a0_0, .int .i64 a0_1, .int .i64 a0_2], .int .i64 (rd l1 (ji5))] (by rfl) rfl rfl (by (try simp only [List.map_toArray, List.map_cons, List.map_nil]); first | done | (simp only [hji5]; rfl) | rfl | (simp only [List.length_drop, List.length_take]; rfl)) ?_
    with_reducible refine (polynomial_inverse.calls k a0_0 a0_1 a0_2 (rd l1 (ji5)) t1000 _ A8.out).mono ?_
    rintro e w12 ⟨rfl, hb⟩
    refine ⟨_, rfl, ?_⟩
    replace BK998 := bB BK998 hb
    replace HB := bS hb
    (try clear hb)
    (try clear hb2)
    (try clear hk)
    (try clear hi)
    refine hK.out _ _ ⟨(blk_cell BK998.out 0).trans rfl, (blk_cell BK998.out 1).trans rfl, (blk_cell BK998.out 2).trans rfl, ((HB.out.cell (World.block_lt_of_cell? w _ hw999_0)).trans hw999_0)⟩ (fun hHeld => ?_)
    clear hK K
    refine nU ?_
    refine oU 10 (some 18) (fun K hK => ?_)
    refine goes_ Try.func117 (by kernel_rfl) rfl #[.agg #[.int .i64 a0_0, .int .i64 a0_1, .int .i64 a0_2], .slice (some ad999) l1.length c1, .int .i64 t1000] (by rfl) rfl rfl zM ?_
    with_reducible refine (polynomial_scaled.calls k a0_0 a0_1 a0_2 _ _ l1 t1000 t1001 _ ?side1 ?side2 A9.out).mono ?_
    (case side1 => exact zN HR1)
    (case side2 => exact HC1.out)
    rintro e w13 ⟨v1002, rfl, ho0, hb⟩
    refine ⟨_, rfl, ?_⟩
    have HO1003 := Aside0.mk (Kd.R_lower ho0 (below_size zB))
    replace BK998 := bB BK998 hb
    replace HB := bS hb
    (try clear hb)
    (try clear hb2)
    (try clear hk)
    (try clear hi)
    (try clear ho0)
    refine hK.out _ _ ⟨(blk_cell BK998.out 0).trans rfl, (blk_cell BK998.out 1).trans rfl, (blk_cell BK998.out 2).trans rfl, ((HB.out.cell (World.block_lt_of_cell? w _ hw999_0)).trans hw999_0)⟩ (fun hHeld => ?_)
    clear hK K
    refine nU ?_
    refine pU 11 (some 4) ?_
    refine dU ?_
    try go_wp2
    go_ret
    exact ⟨_, by first | rfl | (simp [errW_none, errW_some] <;> rfl) | (simp only [← hji5]; first | rfl | (simp [errW_none, errW_some] <;> rfl)) | (simp [*, errW_none, errW_some] <;> rfl), by (with_reducible repeat (first | apply Kd.R_alloc | apply Kd.R_drewN | apply Kd.R_drew)); exact HO1003.out, zB⟩
   ·rw [if_neg c7] at H
    exact absurd H (by simp)
  ·rw [if_neg c6] at H
   exact absurd H (by simp)
/-! ### polynomial_GCD: function 68 -/
mutual
def polynomial_GCD.j0 : Nat → List Int → List Int → Bool → Int → Int → Int → Option (List Int × Int)
 | 0, _, _, _, _, _, _ => none
 | k + 1, x1, x2, x19, x1005000, x1005001, x1005002 => if x19 = true then (some (([] : List Int), 1)) else (polynomial_GCD.l0 k x1 x2 x1005000 x1005001 x1005002)
def polynomial_GCD.l0 : Nat → List Int → List Int → Int → Int → Int → Option (List Int × Int)
 | 0, _, _, _, _, _ => none
 | k + 1, x1, x2, x1005000, x1005001, x1005002 => if (x2.length : Int) > 0 then ((polynomial_division.f k x1005000 x1005001 x1005002 x1 x2).bind fun bt1007 => (polynomial_GCD.l0 k x2 bt1007.2 x1005000 x1005001 x1005002)) else ((polynomial_monic.f k x1005000 x1005001 x1005002 x1).bind fun t1013 => (some (t1013, 0)))
end
def polynomial_GCD.f (k : Nat) (a0_0 : Int) (a0_1 : Int) (a0_2 : Int) (l1 : List Int) (l2 : List Int) : Option (List Int × Int) := (polynomial_Valid.f k a0_0 a0_1 a0_2 l1).bind fun t1005 => (if t1005 = true then ((polynomial_Valid.f k a0_0 a0_1 a0_2 l2).bind fun t1006 => (polynomial_GCD.j0 k l1 l2 (!t1006) a0_0 a0_1 a0_2)) else (polynomial_GCD.j0 k l1 l2 true a0_0 a0_1 a0_2))
theorem polynomial_GCD.mono_l : ∀ k, (∀ y0 y1 y2 y3 y4 y5, LeO (polynomial_GCD.j0 k y0 y1 y2 y3 y4 y5) (polynomial_GCD.j0 (k + 1) y0 y1 y2 y3 y4 y5)) ∧ (∀ y0 y1 y2 y3 y4, LeO (polynomial_GCD.l0 k y0 y1 y2 y3 y4) (polynomial_GCD.l0 (k + 1) y0 y1 y2 y3 y4))
 | 0 => ⟨fun _ _ _ _ _ _ r h => by simp [polynomial_GCD.j0] at h, fun _ _ _ _ _ r h => by simp [polynomial_GCD.l0] at h⟩
 | k + 1 => by
  obtain ⟨ih0, ih1⟩ := polynomial_GCD.mono_l k
  refine ⟨?_, ?_⟩
  ·intro y0 y1 y2 y3 y4 y5
   unfold polynomial_GCD.j0
   have m0_ := @polynomial_Valid.mono
   have m1_ := @polynomial_division.mono
   have m2_ := @polynomial_monic.mono
   exact zMo
  ·intro y0 y1 y2 y3 y4
   unfold polynomial_GCD.l0
   have m0_ := @polynomial_Valid.mono
   have m1_ := @polynomial_division.mono
   have m2_ := @polynomial_monic.mono
   exact zMo
theorem polynomial_GCD.mono : ∀ a0 a1 a2 a3 a4 k, LeO (polynomial_GCD.f k a0 a1 a2 a3 a4) (polynomial_GCD.f (k + 1) a0 a1 a2 a3 a4) := by
 intro a0 a1 a2 a3 a4 k
 obtain ⟨ih0, ih1⟩ := polynomial_GCD.mono_l k
 unfold polynomial_GCD.f
 have m0_ := @polynomial_Valid.mono
 have m1_ := @polynomial_division.mono
 have m2_ := @polynomial_monic.mono
 exact zMo
theorem polynomial_GCD.calls (k : Nat) (a0_0 : Int) (a0_1 : Int) (a0_2 : Int) (P1_ : Nat → Prop) (A1 : Option Addr) (c1 : Nat) (l1 : List Int) (P2_ : Nat → Prop) (A2 : Option Addr) (c2 : Nat) (l2 : List Int) (r1 : List Int) (r2 : Int) (w : World) (hs1 : Kd.V (Kd.int .i64) 3 w w.heap.size (fun k_ => P1_ k_) (.slice A1 l1.length c1) l1) (hs2 : Kd.V (Kd.int .i64) 3 w w.heap.size (fun k_ => P2_ k_) (.slice A2 l2.length c2) l2) (h : polynomial_GCD.f k a0_0 a0_1 a0_2 l1 l2 = some (r1, r2)) :
  Calls Try.prog 68 #[.agg #[.int .i64 a0_0, .int .i64 a0_1, .int .i64 a0_2], .slice A1 l1.length c1, .slice A2 l2.length c2] w fun e w' => ∃ v0_ : Value, e = .returned (.tuple #[v0_, .int .i64 r2]) ∧ Kd.R (Kd.int .i64) 3 w' w.heap.size (fun k_ => (w.heap.size ≤ k_)) v0_ r1 ∧ Below w.heap.size w w' := by
 have hu23 := Try.underlying23
 have HO1 := Aside0.mk (show Kd.V (Kd.int .i64) 3 w w.heap.size (fun k_ => ((P1_ k_ ∨ P2_ k_) ∨ w.heap.size ≤ k_)) (.slice A1 l1.length c1) l1 from Kd.V_mono hs1 (fun k_ hk => .inl (.inl hk)))
 have HO2 := Aside0.mk (show Kd.V (Kd.int .i64) 3 w w.heap.size (fun k_ => ((P1_ k_ ∨ P2_ k_) ∨ w.heap.size ≤ k_)) (.slice A2 l2.length c2) l2 from Kd.V_mono hs2 (fun k_ hk => .inl (.inr hk)))
 have HB := Aside0.mk (Below.refl w.heap.size w)
 have H := h
 unfold polynomial_GCD.f at H
 clear h
 have HC4 := Aside0.mk H
 clear H
 go_enter Try.func68, Try.ntmps68
 go_upto_region 1 with (first | ((with_reducible refine gate_dst (N := 3) rfl ?_); refine box_event ?hg (N := 3) ?hd (cs := #[.int .i64 a0_0, .int .i64 a0_1, .int .i64 a0_2]) (t := 23) ?hr ?_; (case hd => rfl); (case hg => rfl); (case hr => first | (go_simp; done) | (go_simp; rfl)); intro gb1004 hg w5 hbox hb; replace HO1 := Aside0.mk (Kd.V_below (Kd.V_elderB (by (with_reducible repeat (first | apply Kd.V_alloc | apply Kd.V_drewN | apply Kd.V_drew)); exact HO1.out) gb1004 (Nat.le_of_eq hg.symm)) hb); replace HO2 := Aside0.mk (Kd.V_below (Kd.V_elderB (by (with_reducible repeat (first | apply Kd.V_alloc | apply Kd.V_drewN | apply Kd.V_drew)); exact HO2.out) gb1004 (Nat.le_of_eq hg.symm)) hb); have BK1004 := Aside0.mk (hbox); have GE1004 := gE hg; replace HB := bS hb; clear hb hbox hg))
 (try simp only [Act.put, List.setIfInBounds_toArray, List.set_cons_zero, List.set_cons_succ])
 go_cut [19] (fun v19 wc => ∃ (kq : Nat) (x19_3 : Bool), v19 = .bool x19_3 ∧ Aside0 (polynomial_GCD.j0 kq l1 l2 x19_3 a0_0 a0_1 a0_2 = some (r1, r2)) ∧ Aside0 (kq ≤ k) ∧ Aside0 (Kd.V (Kd.int .i64) 3 wc w.heap.size (fun k_ => ((P1_ k_ ∨ P2_ k_) ∨ w.heap.size ≤ k_) ∧ k_ ≠ gb1004) (.slice A1 l1.length c1) l1) ∧ Aside0 (Kd.V (Kd.int .i64) 3 wc w.heap.size (fun k_ => ((P1_ k_ ∨ P2_ k_) ∨ w.heap.size ≤ k_) ∧ k_ ≠ gb1004) (.slice A2 l2.length c2) l2) ∧ Aside0 (wc.heap[gb1004]? = some (.cells #[.int .i64 a0_0, .int .i64 a0_1, .int .i64 a0_2] 23 (0, 0))) ∧ Aside0 (Below w.heap.size w wc))
 case first =>
  have H := HC4.out
  clear HC4
  obtain ⟨t1005, A6, H⟩ := zD H
  by_cases c7 : t1005 = true
  ·subst c7
   rw [if_pos rfl] at H
   obtain ⟨t1006, A8, H⟩ := zD H
   have H' := zA H
   clear H
   (try clear z1004_0 z1004_1 z1004_2 f1004_0 f1004_1 f1004_2)
   obtain ⟨z1004_0, z1004_1, z1004_2, f1004_0, f1004_1, f1004_2⟩ := cz3 BK1004
   go_wp2_with (first | ((with_reducible refine gate_callee (f := 81) rfl ?_); refine gL (some 12) Try.func81 #[.agg #[.int .i64 a0_0, .int .i64 a0_1, .int .i64 a0_2], .slice A1 l1.length c1] ?_; (with_reducible refine zCall (polynomial_Valid.calls k a0_0 a0_1 a0_2 _ _ l1 true _ ?side1 ?side2 A6.out) ?_); (case side1 => repeat (first | exact (Kd.V_reads' HO1.out).2.2 | (with_reducible refine Kd.C_alloc ?_ _) | (with_reducible refine Kd.C_drewN ?_ _) | (with_reducible refine Kd.C_drew ?_))); (case side2 => exact (Kd.V_reads' HO1.out).2.1); intro w10 hb; replace HO1 := Aside0.mk (Kd.V_below (by (with_reducible repeat (first | apply Kd.V_alloc | apply Kd.V_drewN | apply Kd.V_drew)); exact HO1.out) hb); replace HO2 := Aside0.mk (Kd.V_below (by (with_reducible repeat (first | apply Kd.V_alloc | apply Kd.V_drewN | apply Kd.V_drew)); exact HO2.out) hb); replace BK1004 := bB BK1004 hb; replace HB := bS hb; (try clear hb); (try clear z1004_0 z1004_1 z1004_2 f1004_0 f1004_1 f1004_2); obtain ⟨z1004_0, z1004_1, z1004_2, f1004_0, f1004_1, f1004_2⟩ := cz3 BK1004) | (go_at_call 81; (with_reducible refine (polynomial_Valid.calls k a0_0 a0_1 a0_2 _ _ l2 t1006 _ ?side1 ?side2 A8.out).mono ?_); (case side1 => repeat (first | exact (Kd.V_reads' HO2.out).2.2 | (with_reducible refine Kd.C_alloc ?_ _) | (with_reducible refine Kd.C_drewN ?_ _) | (with_reducible refine Kd.C_drew ?_))); (case side2 => exact (Kd.V_reads' HO2.out).2.1); rintro e w12 ⟨rfl, hb⟩; replace HO1 := Aside0.mk (Kd.V_below (by (with_reducible repeat (first | apply Kd.V_alloc | apply Kd.V_drewN | apply Kd.V_drew)); exact HO1.out) hb); replace HO2 := Aside0.mk (Kd.V_below (by (with_reducible repeat (first | apply Kd.V_alloc | apply Kd.V_drewN | apply Kd.V_drew)); exact HO2.out) hb); replace BK1004 := bB BK1004 hb; replace HB := bS hb; (try clear hb)))
   go_meet
   case rel => exact ⟨_, (!t1006), zR, H', zL, ⟨by (with_reducible repeat (first | apply Kd.V_alloc | apply Kd.V_drewN | apply Kd.V_drew)); exact HO1.out⟩, ⟨by (with_reducible repeat (first | apply Kd.V_alloc | apply Kd.V_drewN | apply Kd.V_drew)); exact HO2.out⟩, ⟨zK BK1004⟩, ⟨zB⟩⟩
  ·replace c7 := Bool.eq_false_iff.mpr c7
   subst c7
   rw [if_neg (show ¬ (false = true) by decide)] at H
   have H' := zA H
   clear H
   (try clear z1004_0 z1004_1 z1004_2 f1004_0 f1004_1 f1004_2)
   obtain ⟨z1004_0, z1004_1, z1004_2, f1004_0, f1004_1, f1004_2⟩ := cz3 BK1004
   go_wp2_with (first | ((with_reducible refine gate_callee (f := 81) rfl ?_); refine gL (some 12) Try.func81 #[.agg #[.int .i64 a0_0, .int .i64 a0_1, .int .i64 a0_2], .slice A1 l1.length c1] ?_; (with_reducible refine zCall (polynomial_Valid.calls k a0_0 a0_1 a0_2 _ _ l1 false _ ?side1 ?side2 A6.out) ?_); (case side1 => repeat (first | exact (Kd.V_reads' HO1.out).2.2 | (with_reducible refine Kd.C_alloc ?_ _) | (with_reducible refine Kd.C_drewN ?_ _) | (with_reducible refine Kd.C_drew ?_))); (case side2 => exact (Kd.V_reads' HO1.out).2.1); intro w14 hb; replace HO1 := Aside0.mk (Kd.V_below (by (with_reducible repeat (first | apply Kd.V_alloc | apply Kd.V_drewN | apply Kd.V_drew)); exact HO1.out) hb); replace HO2 := Aside0.mk (Kd.V_below (by (with_reducible repeat (first | apply Kd.V_alloc | apply Kd.V_drewN | apply Kd.V_drew)); exact HO2.out) hb); replace BK1004 := bB BK1004 hb; replace HB := bS hb; (try clear hb)))
   go_meet
   case rel => exact ⟨_, (true), zR, H', zL, ⟨by (with_reducible repeat (first | apply Kd.V_alloc | apply Kd.V_drewN | apply Kd.V_drew)); exact HO1.out⟩, ⟨by (with_reducible repeat (first | apply Kd.V_alloc | apply Kd.V_drewN | apply Kd.V_drew)); exact HO2.out⟩, ⟨zK BK1004⟩, ⟨zB⟩⟩
 case rest =>
  clear HC4
  try clear c1
  try clear c2
  try clear p2
  try clear c6
  try clear c7
  try clear c8
  try clear z1004_0 z1004_1 z1004_2 f1004_0 f1004_1 f1004_2
  obtain ⟨kq, x19_3, rfl, HA, HJ3, HO_1, HO_2, BK1004, HB⟩ := hcut
  cases kq with
  | zero => exact absurd HA.out (by simp [polynomial_GCD.j0])
  | succ kj3 =>
   have H := HA.out
   clear HA
   simp only [polynomial_GCD.j0] at H
   by_cases c15 : x19_3 = true
   ·subst c15
    rw [if_pos rfl] at H
    simp only [Option.some.injEq, Prod.mk.injEq] at H
    obtain ⟨rfl, rfl⟩ := H
    go_wp2
    go_ret2
    exact ⟨_, zE, by first | exact Kd.R_nil _ _ _ _ _ | exact Kd.N_nil _ _ _ _ _ | exact Kd.V_nil _ _ _ _ _ | exact Kd.Q_nil _ _ _ _ _ | exact Kd.S_nil _ _ _ _ _, zB⟩
   ·replace c15 := Bool.eq_false_iff.mpr c15
    subst c15
    rw [if_neg (show ¬ (false = true) by decide)] at H
    have H' := zA H
    clear H
    go_wp2
    go_loopg [1, 2] kj3 (fun kq v1 v2 w' => ∃ (x1_2 : List Int) (x2_2 : List Int), Aside0 (polynomial_GCD.l0 kq x1_2 x2_2 a0_0 a0_1 a0_2 = some (r1, r2)) ∧ Aside0 (kq ≤ kj3) ∧ Aside0 (Kd.V (Kd.int .i64) 3 w' w.heap.size (fun k_ => ((P1_ k_ ∨ P2_ k_) ∨ w.heap.size ≤ k_) ∧ k_ ≠ gb1004) v1 x1_2) ∧ Aside0 (Kd.V (Kd.int .i64) 3 w' w.heap.size (fun k_ => ((P1_ k_ ∨ P2_ k_) ∨ w.heap.size ≤ k_) ∧ k_ ≠ gb1004) v2 x2_2) ∧ Aside0 (w'.heap[gb1004]? = some (.cells #[.int .i64 a0_0, .int .i64 a0_1, .int .i64 a0_2] 23 (0, 0))) ∧ Aside0 (Below w.heap.size w w'))
    case atStart => exact ⟨(l1), (l2), H', ⟨Nat.le_refl _⟩, ⟨by (with_reducible repeat (first | apply Kd.V_alloc | apply Kd.V_drewN | apply Kd.V_drew)); exact HO_1.out⟩, ⟨by (with_reducible repeat (first | apply Kd.V_alloc | apply Kd.V_drewN | apply Kd.V_drew)); exact HO_2.out⟩, ⟨zK BK1004⟩, ⟨zB⟩⟩
    case round =>
     clear H'
     try clear c1
     try clear c2
     try clear p2
     try clear c6
     try clear c7
     try clear c8
     try clear c15
     try clear z1004_0 z1004_1 z1004_2 f1004_0 f1004_1 f1004_2
     try clear p2
     obtain ⟨x1_2, x2_2, HA, HK2, HO_1, HO_2, BK1004, HB⟩ := hrel
     cases gk with
     | zero => exact absurd HA.out (by simp [polynomial_GCD.l0])
     | succ k2 =>
      have H := HA.out
      clear HA
      simp only [polynomial_GCD.l0] at H
      by_cases c16 : (x2_2.length : Int) > 0
      ·rw [if_pos c16] at H
       have c16b0 : decide (0 < (x2_2.length : Int)) = true := decide_eq_true c16
       have c16b1 : decide (0 < x2_2.length) = true := decide_eq_true (by omega)
       clear c16
       obtain ⟨⟨t1007, t1010⟩, A17, H⟩ := zD H
       dsimp only at H
       have H' := zA H
       clear H
       obtain ⟨Ao18, co18, eo18⟩ := Kd.V_slice HO_2.out
       subst eo18
       (try clear z1004_0 z1004_1 z1004_2 f1004_0 f1004_1 f1004_2)
       obtain ⟨z1004_0, z1004_1, z1004_2, f1004_0, f1004_1, f1004_2⟩ := cz3 BK1004
       obtain ⟨Ao20, co20, eo20⟩ := Kd.V_slice HO_1.out
       subst eo20
       go_wp2_with (first | ((with_reducible refine gate_callee (f := 121) rfl ?_); refine gL (some 27) Try.func121 #[.agg #[.int .i64 a0_0, .int .i64 a0_1, .int .i64 a0_2], .slice Ao20 x1_2.length co20, .slice Ao18 x2_2.length co18] ?_; (with_reducible refine (polynomial_division.calls k2 a0_0 a0_1 a0_2 _ _ x1_2 _ _ x2_2 t1007 t1010 _ ?side1 ?side2 ?side3 ?side4 A17.out).mono ?_); (case side1 => repeat (first | exact (Kd.V_reads' HO_1.out).2.2 | (with_reducible refine Kd.C_alloc ?_ _) | (with_reducible refine Kd.C_drewN ?_ _) | (with_reducible refine Kd.C_drew ?_))); (case side2 => exact (Kd.V_reads' HO_1.out).2.1); (case side3 => repeat (first | exact (Kd.V_reads' HO_2.out).2.2 | (with_reducible refine Kd.C_alloc ?_ _) | (with_reducible refine Kd.C_drewN ?_ _) | (with_reducible refine Kd.C_drew ?_))); (case side4 => exact (Kd.V_reads' HO_2.out).2.1); rintro e w21 ⟨v1008, v1011, rfl, ho0, ho1, hb⟩; refine ⟨_, rfl, ?_⟩; replace HO_1 := Aside0.mk (Kd.V_mono (Kd.V_told (Kd.V_told (Kd.V_old (by (with_reducible repeat (first | apply Kd.V_alloc | apply Kd.V_drewN | apply Kd.V_drew)); exact HO_1.out) hb) (Kd.R_base ho0)) (Kd.R_base ho1)) (fun _ h_ => h_.1)); replace HO_2 := Aside0.mk (Kd.V_mono (Kd.V_told (Kd.V_told (Kd.V_old (by (with_reducible repeat (first | apply Kd.V_alloc | apply Kd.V_drewN | apply Kd.V_drew)); exact HO_2.out) hb) (Kd.R_base ho0)) (Kd.R_base ho1)) (fun _ h_ => h_.1)); have HO1009 := Aside0.mk (Kd.R_lower (Kd.R_newM (M := fun k_ => (w.heap.size ≤ k_)) ho0 (below_size zB) (fun k_ h_ => h_)) (below_size zB)); have HO1012 := Aside0.mk (Kd.R_lower (Kd.R_newM (M := fun k_ => (w.heap.size ≤ k_)) ho1 (below_size zB) (fun k_ h_ => h_)) (below_size zB)); replace BK1004 := bB BK1004 hb; replace HB := bS hb; (try clear hb); (try clear ho0); (try clear ho1)))
       go_roundg k2
       case measure => have := HJ3.out; have := HK2.out; omega
       case rel => exact ⟨(x2_2), (t1010), H', ⟨by have := HJ3.out; have := HK2.out; omega⟩, ⟨by (with_reducible repeat (first | apply Kd.V_alloc | apply Kd.V_drewN | apply Kd.V_drew)); exact Kd.V_mono HO_2.out (fun _ hk => ⟨hk.1.1.1, hk.1.1.2⟩)⟩, ⟨Kd.V_mono (Kd.R_V (by (with_reducible repeat (first | apply Kd.R_alloc | apply Kd.R_drewN | apply Kd.R_drew)); exact Kd.R_mono (ok' := fun k_ => w.heap.size ≤ k_ ∧ k_ ≠ gb1004) (Kd.R_types HO1012.out BK1004.out (by decide)) (fun _ hk => ⟨hk.1.1, hk.2⟩))) (fun k_ hk => by first | exact ⟨(.inr (hk.1)), hk.2⟩ | exact (.inr (hk)))⟩, ⟨zK BK1004⟩, ⟨zB⟩⟩
      ·rw [if_neg c16] at H
       have c16b0 : decide (0 < (x2_2.length : Int)) = false := decide_eq_false c16
       have c16b1 : decide (0 < x2_2.length) = false := decide_eq_false (by omega)
       clear c16
       obtain ⟨t1013, A22, H⟩ := zD H
       simp only [Option.some.injEq, Prod.mk.injEq] at H
       obtain ⟨rfl, rfl⟩ := H
       obtain ⟨Ao23, co23, eo23⟩ := Kd.V_slice HO_2.out
       subst eo23
       (try clear z1004_0 z1004_1 z1004_2 f1004_0 f1004_1 f1004_2)
       obtain ⟨z1004_0, z1004_1, z1004_2, f1004_0, f1004_1, f1004_2⟩ := cz3 BK1004
       obtain ⟨Ao25, co25, eo25⟩ := Kd.V_slice HO_1.out
       subst eo25
       go_wp2_with (first | ((with_reducible refine gate_callee (f := 122) rfl ?_); refine gL (some 34) Try.func122 #[.agg #[.int .i64 a0_0, .int .i64 a0_1, .int .i64 a0_2], .slice Ao25 x1_2.length co25] ?_; (with_reducible refine (polynomial_monic.calls k2 a0_0 a0_1 a0_2 _ _ x1_2 t1013 _ ?side1 ?side2 A22.out).mono ?_); (case side1 => repeat (first | exact (Kd.V_reads' HO_1.out).2.2 | (with_reducible refine Kd.C_alloc ?_ _) | (with_reducible refine Kd.C_drewN ?_ _) | (with_reducible refine Kd.C_drew ?_))); (case side2 => exact (Kd.V_reads' HO_1.out).2.1); rintro e w26 ⟨v1014, rfl, ho0, hb⟩; refine ⟨_, rfl, ?_⟩; replace HO_1 := Aside0.mk (Kd.V_elder' (by (with_reducible repeat (first | apply Kd.V_alloc | apply Kd.V_drewN | apply Kd.V_drew)); exact HO_1.out) (Kd.R_base ho0) hb); replace HO_2 := Aside0.mk (Kd.V_elder' (by (with_reducible repeat (first | apply Kd.V_alloc | apply Kd.V_drewN | apply Kd.V_drew)); exact HO_2.out) (Kd.R_base ho0) hb); have HO1015 := Aside0.mk (Kd.R_lower (Kd.R_newM (M := fun k_ => (w.heap.size ≤ k_)) ho0 (below_size zB) (fun k_ h_ => h_)) (below_size zB)); replace BK1004 := bB BK1004 hb; replace HB := bS hb; (try clear hb); (try clear ho0)))
       go_ret2
       exact ⟨_, zE, by (with_reducible repeat (first | apply Kd.R_alloc | apply Kd.R_drewN | apply Kd.R_drew)); exact Kd.R_mono HO1015.out (fun _ hk => hk.1), zB⟩
end Go.Proofs.Ytlhaclammaaabaa.Pg
