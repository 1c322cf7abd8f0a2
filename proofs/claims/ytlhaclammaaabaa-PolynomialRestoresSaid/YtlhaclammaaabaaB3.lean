-- Written by a program of this session over the print of the kit.
import Derived.Test.YtlhaclammaaabaaY
import Derived.Test.YtlhaclammaaabaaB1
import Derived.Test.YtlhaclammaaabaaHClone
import Derived.Test.YtlhaclammaaabaaHEls
import Derived.Test.YtlhaclammaaabaaHVal
namespace Go.Proofs.Ytlhaclammaaabaa.Pg
open Go.RowKit Go.Proofs.YtlhaclammaaabaaW.PrintWords Go.Proofs.YtlhaclammaaabaaW.PrintLast Go.Proofs.YtlhaclammaaabaaW.PrintMore
attribute [local go_sem] max2_int min2_int max_two min_two max_three min_three max_four min_four
set_option linter.unusedVariables false
set_option maxHeartbeats 8000000
set_option maxRecDepth 100000
set_option linter.unusedSimpArgs false
/-! ### polynomial_Valid: function 81 -/
def polynomial_Valid.f (k : Nat) (a0_0 : Int) (a0_1 : Int) (a0_2 : Int) (l1 : List Int) : Option (Bool) := if (l1.length : Int) ≤ 4097 then (if (l1.length : Int) = 0 then ((polynomial_elements.f k a0_0 a0_1 a0_2 l1).bind fun t865 => (some t865)) else (if 0 ≤ (wrap64 ((l1.length : Int) - 1)) then (if (wrap64 ((l1.length : Int) - 1)) < (l1.length : Int) then (if (rd l1 (wrap64 ((l1.length : Int) - 1))) = 0 then (some false) else ((polynomial_elements.f k a0_0 a0_1 a0_2 l1).bind fun t867 => (some t867))) else (none)) else (none))) else (some false)
theorem polynomial_Valid.mono : ∀ a0 a1 a2 a3 k, LeO (polynomial_Valid.f k a0 a1 a2 a3) (polynomial_Valid.f (k + 1) a0 a1 a2 a3) := by
 intro a0 a1 a2 a3 k
 unfold polynomial_Valid.f
 have m0_ := @polynomial_elements.mono
 exact zMo
theorem polynomial_Valid.calls (k : Nat) (a0_0 : Int) (a0_1 : Int) (a0_2 : Int) (A1 : Option Addr) (c1 : Nat) (l1 : List Int) (r : Bool) (w : World) (hr1 : Kd.C (Kd.int .i64) w A1 l1.length l1) (hc1 : l1.length ≤ c1) (h : polynomial_Valid.f k a0_0 a0_1 a0_2 l1 = some r) :
  Calls Try.prog 81 #[.agg #[.int .i64 a0_0, .int .i64 a0_1, .int .i64 a0_2], .slice A1 l1.length c1] w fun e w' => e = .returned (.bool r) ∧ Below w.heap.size w w' := by
 have hu23 := Try.underlying23
 have HR1 := Aside0.mk hr1
 have HC1 := Aside0.mk hc1
 clear hr1 hc1
 have HB := Aside0.mk (Below.refl w.heap.size w)
 have H := h
 unfold polynomial_Valid.f at H
 clear h
 by_cases c3 : (l1.length : Int) ≤ 4097
 ·rw [if_pos c3] at H
  have c3b0 : decide ((l1.length : Int) ≤ 4097) = true := decide_eq_true c3
  have c3b1 : decide (l1.length ≤ 4097) = true := decide_eq_true (by omega)
  clear c3
  by_cases c4 : (l1.length : Int) = 0
  ·rw [if_pos c4] at H
   have c4b0 := beq_iff_eq.mpr c4
   have c4b1 := bne_eq_false_iff_eq.mpr c4
   clear c4
   obtain ⟨t865, A5, H⟩ := zD H
   obtain rfl := Option.some.inj H
   go_enter Try.func81, Try.ntmps81
   go_wp2_with (first | ((with_reducible refine gate_dst (N := 2) rfl ?_); refine zBox 2 #[.int .i64 a0_0, .int .i64 a0_1, .int .i64 a0_2] 23 ?_; clear HB; intro gb864 w6 BK864 GE864 HB; (try clear z864_0 z864_1 z864_2 f864_0 f864_1 f864_2); obtain ⟨z864_0, z864_1, z864_2, f864_0, f864_1, f864_2⟩ := cz3 BK864) | (go_at_call 102; (with_reducible refine (polynomial_elements.calls k a0_0 a0_1 a0_2 _ _ l1 t865 _ ?side1 ?side2 A5.out).mono ?_); (case side1 => exact zN HR1); (case side2 => exact HC1.out); rintro e w8 ⟨rfl, hb⟩; replace BK864 := bB BK864 hb; replace HB := bS hb; (try clear hb)))
   go_ret
   exact ⟨zE, zB⟩
  ·rw [if_neg c4] at H
   have c4b0 := beq_eq_false_iff_ne.mpr c4
   have c4b1 := bne_iff_ne.mpr c4
   have c4b2 : ¬ (l1 = []) := fun h_ => c4 (by rw [h_]; rfl)
   obtain ⟨ji9, hji9⟩ : ∃ j_ : Int, (wrap64 ((l1.length : Int) - 1)) = j_ := ⟨_, rfl⟩
   first | rw [hji9] at H | simp only [hji9] at H
   have hji9w : (IntKind.i64.wrap ((l1.length : Int) - 1)) = ji9 := (i64_w _).trans hji9
   by_cases c10 : 0 ≤ (ji9)
   ·rw [if_pos c10] at H
    have c10b0 : decide (0 ≤ (ji9)) = true := decide_eq_true c10
    clear c10
    by_cases c11 : (ji9) < (l1.length : Int)
    ·rw [if_pos c11] at H
     have c11b0 : decide ((ji9) < (l1.length : Int)) = true := decide_eq_true c11
     clear c11
     by_cases c12 : (rd l1 (ji9)) = 0
     ·rw [if_pos c12] at H
      have c12b0 := beq_iff_eq.mpr c12
      have c12b1 := bne_eq_false_iff_eq.mpr c12
      clear c12
      obtain rfl := Option.some.inj H
      go_enter Try.func81, Try.ntmps81
      go_wp2_with (first | ((with_reducible refine gate_dst (N := 2) rfl ?_); refine zBox 2 #[.int .i64 a0_0, .int .i64 a0_1, .int .i64 a0_2] 23 ?_; clear HB; intro gb864 w13 BK864 GE864 HB; have p866 : 0 ≤ ((ji9) : Int) := of_decide_eq_true (by first | (with_reducible assumption) | assumption); have q866 : (ji9) < (l1.length : Int) := of_decide_eq_true (by first | (with_reducible assumption) | assumption); obtain ⟨ad866, e866, hx866_0⟩ := Kd.at_int HR1.out (ji9) p866 q866; cases e866; replace hx866_0 := (HB.out.cell (World.block_lt_of_cell? w _ hx866_0)).trans hx866_0; replace p866 := eq_true p866; replace q866 := eq_true q866))
      go_ret
      exact ⟨by first | rfl | (simp [errW_none, errW_some] <;> rfl) | (simp only [← hji9]; first | rfl | (simp [errW_none, errW_some] <;> rfl)) | (simp [*, errW_none, errW_some] <;> rfl), zB⟩
     ·rw [if_neg c12] at H
      have c12b0 := beq_eq_false_iff_ne.mpr c12
      have c12b1 := bne_iff_ne.mpr c12
      obtain ⟨t867, A14, H⟩ := zD H
      obtain rfl := Option.some.inj H
      go_enter Try.func81, Try.ntmps81
      go_wp2_with (first | ((with_reducible refine gate_dst (N := 2) rfl ?_); refine zBox 2 #[.int .i64 a0_0, .int .i64 a0_1, .int .i64 a0_2] 23 ?_; clear HB; intro gb864 w15 BK864 GE864 HB; have p866 : 0 ≤ ((ji9) : Int) := of_decide_eq_true (by first | (with_reducible assumption) | assumption); have q866 : (ji9) < (l1.length : Int) := of_decide_eq_true (by first | (with_reducible assumption) | assumption); obtain ⟨ad866, e866, hx866_0⟩ := Kd.at_int HR1.out (ji9) p866 q866; cases e866; replace hx866_0 := (HB.out.cell (World.block_lt_of_cell? w _ hx866_0)).trans hx866_0; replace p866 := eq_true p866; replace q866 := eq_true q866; (try clear z864_0 z864_1 z864_2 f864_0 f864_1 f864_2); obtain ⟨z864_0, z864_1, z864_2, f864_0, f864_1, f864_2⟩ := cz3 BK864) | (go_at_call 102; (with_reducible refine (polynomial_elements.calls k a0_0 a0_1 a0_2 _ _ l1 t867 _ ?side1 ?side2 A14.out).mono ?_); (case side1 => exact zN HR1); (case side2 => exact HC1.out); rintro e w17 ⟨rfl, hb⟩; replace BK864 := bB BK864 hb; replace HB := bS hb; (try clear hb)))
      go_ret
      exact ⟨by first | rfl | (simp [errW_none, errW_some] <;> rfl) | (simp only [← hji9]; first | rfl | (simp [errW_none, errW_some] <;> rfl)) | (simp [*, errW_none, errW_some] <;> rfl), zB⟩
    ·rw [if_neg c11] at H
     exact absurd H (by simp)
   ·rw [if_neg c10] at H
    exact absurd H (by simp)
 ·rw [if_neg c3] at H
  have c3b0 : decide ((l1.length : Int) ≤ 4097) = false := decide_eq_false c3
  have c3b1 : decide (l1.length ≤ 4097) = false := decide_eq_false (by omega)
  clear c3
  obtain rfl := Option.some.inj H
  go_enter Try.func81, Try.ntmps81
  go_wp2_with (first | ((with_reducible refine gate_dst (N := 2) rfl ?_); refine zBox 2 #[.int .i64 a0_0, .int .i64 a0_1, .int .i64 a0_2] 23 ?_; clear HB; intro gb864 w18 BK864 GE864 HB))
  go_ret
  exact ⟨zE, zB⟩
/-! ### polynomial_Roots: function 49 -/
def polynomial_Roots.l0 : Nat → List Int → List Int → Int → Int → Int → Int → Int → Option (List Int × Int)
 | 0, _, _, _, _, _, _, _ => none
 | k + 1, x1, x6, x18, x19, x874000, x874001, x874002 => if x19 < x18 then ((polynomial_value.f k x874000 x874001 x874002 x1 x19).bind fun t875 => (if t875 = 0 then (if x6.length < 17592186044416 then (polynomial_Roots.l0 k x1 (x6 ++ [x19]) x18 (wrap64 (x19 + 1)) x874000 x874001 x874002) else (none)) else (polynomial_Roots.l0 k x1 x6 x18 (wrap64 (x19 + 1)) x874000 x874001 x874002))) else (some (x6, 0))
def polynomial_Roots.f (k : Nat) (a0_0 : Int) (a0_1 : Int) (a0_2 : Int) (l1 : List Int) : Option (List Int × Int) := (polynomial_Valid.f k a0_0 a0_1 a0_2 l1).bind fun t874 => (if t874 = true then (if (l1.length : Int) = 0 then (some (([] : List Int), 12)) else (polynomial_Roots.l0 k l1 ([] : List Int) a0_1 0 a0_0 a0_1 a0_2)) else (some (([] : List Int), 1)))
theorem polynomial_Roots.mono_l : ∀ k, (∀ y0 y1 y2 y3 y4 y5 y6, LeO (polynomial_Roots.l0 k y0 y1 y2 y3 y4 y5 y6) (polynomial_Roots.l0 (k + 1) y0 y1 y2 y3 y4 y5 y6))
 | 0 => fun _ _ _ _ _ _ _ r h => by simp [polynomial_Roots.l0] at h
 | k + 1 => by
  have ih0 := polynomial_Roots.mono_l k
  ·intro y0 y1 y2 y3 y4 y5 y6
   unfold polynomial_Roots.l0
   have m0_ := @polynomial_Valid.mono
   have m1_ := @polynomial_value.mono
   exact zMo
theorem polynomial_Roots.mono : ∀ a0 a1 a2 a3 k, LeO (polynomial_Roots.f k a0 a1 a2 a3) (polynomial_Roots.f (k + 1) a0 a1 a2 a3) := by
 intro a0 a1 a2 a3 k
 have ih0 := polynomial_Roots.mono_l k
 unfold polynomial_Roots.f
 have m0_ := @polynomial_Valid.mono
 have m1_ := @polynomial_value.mono
 exact zMo
theorem polynomial_Roots.calls (k : Nat) (a0_0 : Int) (a0_1 : Int) (a0_2 : Int) (A1 : Option Addr) (c1 : Nat) (l1 : List Int) (r1 : List Int) (r2 : Int) (w : World) (hr1 : Kd.C (Kd.int .i64) w A1 l1.length l1) (hc1 : l1.length ≤ c1) (h : polynomial_Roots.f k a0_0 a0_1 a0_2 l1 = some (r1, r2)) :
  Calls Try.prog 49 #[.agg #[.int .i64 a0_0, .int .i64 a0_1, .int .i64 a0_2], .slice A1 l1.length c1] w fun e w' => ∃ v0_ : Value, e = .returned (.tuple #[v0_, .int .i64 r2]) ∧ Kd.R (Kd.int .i64) 3 w' w.heap.size (fun _ => True) v0_ r1 ∧ Below w.heap.size w w' := by
 have hu23 := Try.underlying23
 have HR1 := Aside0.mk hr1
 have HC1 := Aside0.mk hc1
 clear hr1 hc1
 have HB := Aside0.mk (Below.refl w.heap.size w)
 have H := h
 unfold polynomial_Roots.f at H
 clear h
 obtain ⟨t874, A3, H⟩ := zD H
 by_cases c4 : t874 = true
 ·subst c4
  rw [if_pos rfl] at H
  by_cases c5 : (l1.length : Int) = 0
  ·rw [if_pos c5] at H
   have c5b0 := beq_iff_eq.mpr c5
   have c5b1 := bne_eq_false_iff_eq.mpr c5
   clear c5
   simp only [Option.some.injEq, Prod.mk.injEq] at H
   obtain ⟨rfl, rfl⟩ := H
   go_enter Try.func49, Try.ntmps49
   go_wp2_with (first | ((with_reducible refine gate_dst (N := 2) rfl ?_); refine zBox 2 #[.int .i64 a0_0, .int .i64 a0_1, .int .i64 a0_2] 23 ?_; clear HB; intro gb873 w6 BK873 GE873 HB; (try clear z873_0 z873_1 z873_2 f873_0 f873_1 f873_2); obtain ⟨z873_0, z873_1, z873_2, f873_0, f873_1, f873_2⟩ := cz3 BK873) | ((with_reducible refine gate_callee (f := 81) rfl ?_); refine gL (some 11) Try.func81 #[.agg #[.int .i64 a0_0, .int .i64 a0_1, .int .i64 a0_2], .slice A1 l1.length c1] ?_; (with_reducible refine zCall (polynomial_Valid.calls k a0_0 a0_1 a0_2 _ _ l1 true _ ?side1 ?side2 A3.out) ?_); (case side1 => exact zN HR1); (case side2 => exact HC1.out); intro w8 hb; replace BK873 := bB BK873 hb; replace HB := bS hb; (try clear hb)))
   go_ret2
   exact ⟨_, zE, by first | exact Kd.R_nil _ _ _ _ _ | exact Kd.N_nil _ _ _ _ _ | exact Kd.V_nil _ _ _ _ _ | exact Kd.Q_nil _ _ _ _ _ | exact Kd.S_nil _ _ _ _ _, zB⟩
  ·rw [if_neg c5] at H
   have c5b0 := beq_eq_false_iff_ne.mpr c5
   have c5b1 := bne_iff_ne.mpr c5
   have c5b2 : ¬ (l1 = []) := fun h_ => c5 (by rw [h_]; rfl)
   have H' := zA H
   clear H
   go_enter Try.func49, Try.ntmps49
   go_wp2_with (first | ((with_reducible refine gate_dst (N := 2) rfl ?_); refine zBox 2 #[.int .i64 a0_0, .int .i64 a0_1, .int .i64 a0_2] 23 ?_; clear HB; intro gb873 w9 BK873 GE873 HB; (try clear z873_0 z873_1 z873_2 f873_0 f873_1 f873_2); obtain ⟨z873_0, z873_1, z873_2, f873_0, f873_1, f873_2⟩ := cz3 BK873) | ((with_reducible refine gate_callee (f := 81) rfl ?_); refine gL (some 11) Try.func81 #[.agg #[.int .i64 a0_0, .int .i64 a0_1, .int .i64 a0_2], .slice A1 l1.length c1] ?_; (with_reducible refine zCall (polynomial_Valid.calls k a0_0 a0_1 a0_2 _ _ l1 true _ ?side1 ?side2 A3.out) ?_); (case side1 => exact zN HR1); (case side2 => exact HC1.out); intro w11 hb; replace BK873 := bB BK873 hb; replace HB := bS hb; (try clear hb); (try clear z873_0 z873_1 z873_2 f873_0 f873_1 f873_2); obtain ⟨z873_0, z873_1, z873_2, f873_0, f873_1, f873_2⟩ := cz3 BK873))
   go_loopg [6, 19] k (fun kq v6 v19 w' => ∃ (x6_1 : List Int) (x19_1 : Int), v19 = .int .i64 x19_1 ∧ Aside0 (polynomial_Roots.l0 kq l1 x6_1 a0_1 x19_1 a0_0 a0_1 a0_2 = some (r1, r2)) ∧ Aside0 (kq ≤ k) ∧ Aside0 (Kd.R (Kd.int .i64) 3 w' w.heap.size (fun _ => True) v6 x6_1) ∧ Aside0 (w'.heap[gb873]? = some (.cells #[.int .i64 a0_0, .int .i64 a0_1, .int .i64 a0_2] 23 (0, 0))) ∧ Aside0 (Below w.heap.size w w'))
   case atStart => exact ⟨(([] : List Int)), (0), zR, H', ⟨Nat.le_refl _⟩, ⟨by first | exact Kd.R_nil _ _ _ _ _ | exact Kd.N_nil _ _ _ _ _ | exact Kd.V_nil _ _ _ _ _ | exact Kd.Q_nil _ _ _ _ _ | exact Kd.S_nil _ _ _ _ _⟩, ⟨zK BK873⟩, ⟨zB⟩⟩
   case round =>
    clear H'
    try clear c1
    try clear p2
    try clear c4
    try clear c5
    try clear c5b0
    try clear c5b1
    try clear c5b2
    try clear c8
    try clear z873_0 z873_1 z873_2 f873_0 f873_1 f873_2
    obtain ⟨x6_1, x19_1, rfl, HA, HK1, HO_6, BK873, HB⟩ := hrel
    cases gk with
    | zero => exact absurd HA.out (by simp [polynomial_Roots.l0])
    | succ k1 =>
     have H := HA.out
     clear HA
     simp only [polynomial_Roots.l0] at H
     by_cases c13 : x19_1 < a0_1
     ·rw [if_pos c13] at H
      have c13b0 : decide (x19_1 < a0_1) = true := decide_eq_true c13
      clear c13
      obtain ⟨t875, A14, H⟩ := zD H
      by_cases c15 : t875 = 0
      ·rw [if_pos c15] at H
       have c15b0 := beq_iff_eq.mpr c15
       have c15b1 := bne_eq_false_iff_eq.mpr c15
       clear c15
       by_cases c16 : x6_1.length < 17592186044416
       ·rw [if_pos c16] at H
        have LMc16 := Aside0.mk c16
        clear c16
        obtain ⟨y876, hy876⟩ : ∃ y_ : List Int, y_ = (x6_1 ++ [x19_1]) := ⟨_, rfl⟩
        replace H : (polynomial_Roots.l0 k1 l1 y876 a0_1 (wrap64 (x19_1 + 1)) a0_0 a0_1 a0_2) = some (r1, r2) := by first | (rw [hy876]; with_reducible exact H) | (have H2_ := (Option.bind_some _ _).symm.trans H; rw [hy876]; with_reducible exact H2_) | (have H2_ := (Option.bind_some _ _).symm.trans H; with_reducible exact H2_) | with_reducible exact H | (rw [hy876]; exact H) | exact H
        have Ny876 := Aside0.mk hy876
        clear hy876
        have H' := zA H
        clear H
        (try clear z873_0 z873_1 z873_2 f873_0 f873_1 f873_2)
        obtain ⟨z873_0, z873_1, z873_2, f873_0, f873_1, f873_2⟩ := cz3 BK873
        go_wp2_with (first | ((with_reducible refine gate_callee (f := 101) rfl ?_); refine gL (some 25) Try.func101 #[.agg #[.int .i64 a0_0, .int .i64 a0_1, .int .i64 a0_2], .slice A1 l1.length c1, .int .i64 x19_1] ?_; (with_reducible refine zCall (polynomial_value.calls k1 a0_0 a0_1 a0_2 _ _ l1 x19_1 t875 _ ?side1 ?side2 A14.out) ?_); (case side1 => exact zN HR1); (case side2 => exact HC1.out); intro w18 hb; replace HO_6 := Aside0.mk (Kd.R_below (zO HO_6) hb); replace BK873 := bB BK873 hb; replace HB := bS hb; (try clear hb)) | ((with_reducible refine gate_builtin (b := .append) (xs := #[.tmp 27, .tmp 29]) rfl ?_); at_builtin; refine Kd.R_append (Kd.int .i64) (w0 := w) w.heap.size rfl (.tmp 27) (.tmp 29) 45 3 (.int .i64 0) 8 rfl Try.underlying45 info3 rfl (by decide) (by omega) u6 x6_1 x19_1 [.int .i64 x19_1] (fun _ => True) (fun _ => False) rfl rfl ?aP (fun _ hk => hk.elim) ?aF ?aO ?aB ?aS ?aL ?_; (case aP => exact rfl); (case aB => exact zB); (case aF => exact (fun _ _ => trivial)); (case aO => exact (zO HO_6)); (case aS => exact (below_size zB)); (case aL => have := LMc16.out; omega); intro v877 w19 ho hb hg hat; rw [← Ny876.out] at ho; replace BK873 := Aside0.mk (blk_grown (g := gb873) (o := .cells #[.int .i64 a0_0, .int .i64 a0_1, .int .i64 a0_2] 23 (0, 0)) (zK BK873) hg (Kd.R_ne HO_6.out BK873.out (by decide))); replace HB := Aside0.mk (hb); have HO878 := Aside0.mk (ho); clear HO_6; clear ho hb hg hat))
        go_roundg k1
        case measure => have := HK1.out; omega
        case rel => exact ⟨(y876), (wrap64 (x19_1 + 1)), zR, H', zH, ⟨zO HO878⟩, ⟨zK BK873⟩, ⟨zB⟩⟩
       ·rw [if_neg c16] at H
        exact absurd H (by simp)
      ·rw [if_neg c15] at H
       have c15b0 := beq_eq_false_iff_ne.mpr c15
       have c15b1 := bne_iff_ne.mpr c15
       have H' := zA H
       clear H
       (try clear z873_0 z873_1 z873_2 f873_0 f873_1 f873_2)
       obtain ⟨z873_0, z873_1, z873_2, f873_0, f873_1, f873_2⟩ := cz3 BK873
       go_wp2_with (first | ((with_reducible refine gate_callee (f := 101) rfl ?_); refine gL (some 25) Try.func101 #[.agg #[.int .i64 a0_0, .int .i64 a0_1, .int .i64 a0_2], .slice A1 l1.length c1, .int .i64 x19_1] ?_; (with_reducible refine zCall (polynomial_value.calls k1 a0_0 a0_1 a0_2 _ _ l1 x19_1 t875 _ ?side1 ?side2 A14.out) ?_); (case side1 => exact zN HR1); (case side2 => exact HC1.out); intro w21 hb; replace HO_6 := Aside0.mk (Kd.R_below (zO HO_6) hb); replace BK873 := bB BK873 hb; replace HB := bS hb; (try clear hb)))
       go_roundg k1
       case measure => have := HK1.out; omega
       case rel => exact ⟨(x6_1), (wrap64 (x19_1 + 1)), zR, H', zH, ⟨zO HO_6⟩, ⟨zK BK873⟩, ⟨zB⟩⟩
     ·rw [if_neg c13] at H
      have c13b0 : decide (x19_1 < a0_1) = false := decide_eq_false c13
      clear c13
      simp only [Option.some.injEq, Prod.mk.injEq] at H
      obtain ⟨rfl, rfl⟩ := H
      go_wp2
      go_ret2
      exact ⟨_, zE, by (with_reducible repeat (first | apply Kd.R_alloc | apply Kd.R_drewN | apply Kd.R_drew)); exact HO_6.out, zB⟩
 ·replace c4 := Bool.eq_false_iff.mpr c4
  subst c4
  rw [if_neg (show ¬ (false = true) by decide)] at H
  simp only [Option.some.injEq, Prod.mk.injEq] at H
  obtain ⟨rfl, rfl⟩ := H
  go_enter Try.func49, Try.ntmps49
  go_wp2_with (first | ((with_reducible refine gate_dst (N := 2) rfl ?_); refine zBox 2 #[.int .i64 a0_0, .int .i64 a0_1, .int .i64 a0_2] 23 ?_; clear HB; intro gb873 w22 BK873 GE873 HB; (try clear z873_0 z873_1 z873_2 f873_0 f873_1 f873_2); obtain ⟨z873_0, z873_1, z873_2, f873_0, f873_1, f873_2⟩ := cz3 BK873) | ((with_reducible refine gate_callee (f := 81) rfl ?_); refine gL (some 11) Try.func81 #[.agg #[.int .i64 a0_0, .int .i64 a0_1, .int .i64 a0_2], .slice A1 l1.length c1] ?_; (with_reducible refine zCall (polynomial_Valid.calls k a0_0 a0_1 a0_2 _ _ l1 false _ ?side1 ?side2 A3.out) ?_); (case side1 => exact zN HR1); (case side2 => exact HC1.out); intro w24 hb; replace BK873 := bB BK873 hb; replace HB := bS hb; (try clear hb)))
  go_ret2
  exact ⟨_, zE, by first | exact Kd.R_nil _ _ _ _ _ | exact Kd.N_nil _ _ _ _ _ | exact Kd.V_nil _ _ _ _ _ | exact Kd.Q_nil _ _ _ _ _ | exact Kd.S_nil _ _ _ _ _, zB⟩
/-! ### polynomial_trimmed_int: function 124 -/
def polynomial_trimmed_int.l0 : Nat → List Int → Int → Option (List Int)
 | 0, _, _ => none
 | k + 1, x0, x3 => if (x0.length : Int) > 0 then (if 0 ≤ (wrap64 ((x0.length : Int) - 1)) then (if (wrap64 ((x0.length : Int) - 1)) < (x0.length : Int) then (if (rd x0 (wrap64 ((x0.length : Int) - 1))) = x3 then (if (wrap64 ((x0.length : Int) - 1)) ≤ (x0.length : Int) then (polynomial_trimmed_int.l0 k (x0.take ((wrap64 ((x0.length : Int) - 1)) : Int).toNat) x3) else (none)) else ((slices_Clone_int_int.f x0).bind fun t888 => (some t888))) else (none)) else (none)) else ((slices_Clone_int_int.f x0).bind fun t891 => (some t891))
def polynomial_trimmed_int.f (k : Nat) (l0 : List Int) : Option (List Int) := polynomial_trimmed_int.l0 k l0 0
theorem polynomial_trimmed_int.mono_l : ∀ k, (∀ y0 y1, LeO (polynomial_trimmed_int.l0 k y0 y1) (polynomial_trimmed_int.l0 (k + 1) y0 y1))
 | 0 => fun _ _ r h => by simp [polynomial_trimmed_int.l0] at h
 | k + 1 => by
  have ih0 := polynomial_trimmed_int.mono_l k
  ·intro y0 y1
   unfold polynomial_trimmed_int.l0
   exact zMo
theorem polynomial_trimmed_int.mono : ∀ a0 k, LeO (polynomial_trimmed_int.f k a0) (polynomial_trimmed_int.f (k + 1) a0) := by
 intro a0 k
 have ih0 := polynomial_trimmed_int.mono_l k
 unfold polynomial_trimmed_int.f
 exact zMo
theorem polynomial_trimmed_int.calls (k : Nat) (P0_ : Nat → Prop) (A0 : Option Addr) (c0 : Nat) (l0 : List Int) (r : List Int) (w : World) (hs0 : Kd.V (Kd.int .i64) 3 w w.heap.size (fun k_ => P0_ k_) (.slice A0 l0.length c0) l0) (h : polynomial_trimmed_int.f k l0 = some r) :
  Calls Try.prog 124 #[.slice A0 l0.length c0] w fun e w' => ∃ v0_ : Value, e = .returned (v0_) ∧ Kd.R (Kd.int .i64) 3 w' w.heap.size (fun k_ => (w.heap.size ≤ k_)) v0_ r ∧ Below w.heap.size w w' := by
 have HO0 := Aside0.mk (show Kd.V (Kd.int .i64) 3 w w.heap.size (fun k_ => (P0_ k_ ∨ w.heap.size ≤ k_)) (.slice A0 l0.length c0) l0 from Kd.V_mono hs0 (fun k_ hk => .inl hk))
 have HB := Aside0.mk (Below.refl w.heap.size w)
 have H := h
 unfold polynomial_trimmed_int.f at H
 clear h
 have H' := zA H
 clear H
 go_enter Try.func124, Try.ntmps124
 go_wp2
 go_loopg [0] k (fun kq v0 w' => ∃ (x0_1 : List Int), Aside0 (polynomial_trimmed_int.l0 kq x0_1 0 = some r) ∧ Aside0 (kq ≤ k) ∧ Aside0 (Kd.V (Kd.int .i64) 3 w' w.heap.size (fun k_ => (P0_ k_ ∨ w.heap.size ≤ k_)) v0 x0_1) ∧ Aside0 (Below w.heap.size w w'))
 case atStart => exact ⟨(l0), H', ⟨Nat.le_refl _⟩, ⟨by (with_reducible repeat (first | apply Kd.V_alloc | apply Kd.V_drewN | apply Kd.V_drew)); exact HO0.out⟩, ⟨zB⟩⟩
 case round =>
  clear H'
  try clear c1
  obtain ⟨x0_1, HA, HK1, HO_0, HB⟩ := hrel
  cases gk with
  | zero => exact absurd HA.out (by simp [polynomial_trimmed_int.l0])
  | succ k1 =>
   have H := HA.out
   clear HA
   simp only [polynomial_trimmed_int.l0] at H
   by_cases c2 : (x0_1.length : Int) > 0
   ·rw [if_pos c2] at H
    have c2b0 : decide (0 < (x0_1.length : Int)) = true := decide_eq_true c2
    have c2b1 : decide (0 < x0_1.length) = true := decide_eq_true (by omega)
    clear c2
    obtain ⟨ji3, hji3⟩ : ∃ j_ : Int, (wrap64 ((x0_1.length : Int) - 1)) = j_ := ⟨_, rfl⟩
    first | rw [hji3] at H | simp only [hji3] at H
    have hji3w : (IntKind.i64.wrap ((x0_1.length : Int) - 1)) = ji3 := (i64_w _).trans hji3
    by_cases c4 : 0 ≤ (ji3)
    ·rw [if_pos c4] at H
     have c4b0 : decide (0 ≤ (ji3)) = true := decide_eq_true c4
     clear c4
     by_cases c5 : (ji3) < (x0_1.length : Int)
     ·rw [if_pos c5] at H
      have c5b0 : decide ((ji3) < (x0_1.length : Int)) = true := decide_eq_true c5
      clear c5
      by_cases c6 : (rd x0_1 (ji3)) = 0
      ·rw [if_pos c6] at H
       have c6b0 := beq_iff_eq.mpr c6
       have c6b1 := bne_eq_false_iff_eq.mpr c6
       clear c6
       have c7b0 := eq_true (of_decide_eq_true (by first | (with_reducible assumption) | assumption) : 0 ≤ (ji3))
       by_cases c8 : (ji3) ≤ (x0_1.length : Int)
       ·rw [if_pos c8] at H
        have c8b0 := eq_true c8
        have c8b1 : decide ((ji3) ≤ (x0_1.length : Int)) = true := decide_eq_true c8
        clear c8
        obtain ⟨y883, hy883⟩ : ∃ y_ : List Int, y_ = (x0_1.take ((ji3) : Int).toNat) := ⟨_, rfl⟩
        replace H : (polynomial_trimmed_int.l0 k1 y883 0) = some r := by first | (rw [hy883]; with_reducible exact H) | (have H2_ := (Option.bind_some _ _).symm.trans H; rw [hy883]; with_reducible exact H2_) | (have H2_ := (Option.bind_some _ _).symm.trans H; with_reducible exact H2_) | with_reducible exact H | (rw [hy883]; exact H) | exact H
        have Ny883 := Aside0.mk hy883
        clear hy883
        have H' := zA H
        clear H
        obtain ⟨Ao9, co9, eo9⟩ := Kd.V_slice HO_0.out
        subst eo9
        have p882 : 0 ≤ ((ji3) : Int) := of_decide_eq_true (by first | (with_reducible assumption) | assumption)
        have q882 : (ji3) < (x0_1.length : Int) := of_decide_eq_true (by first | (with_reducible assumption) | assumption)
        obtain ⟨ad882, e882, hx882_0⟩ := Kd.at_int (Kd.V_reads' HO_0.out).2.2 (ji3) p882 q882
        cases e882
        replace p882 := eq_true p882
        replace q882 := eq_true q882
        have q10 : ((ji3) : Int) ≤ ((x0_1.length : Int) : Int) := of_decide_eq_true (by first | (with_reducible assumption) | assumption)
        obtain ⟨i010, hi010, _, hsz10, _⟩ := info_parts info3
        have hroom10 : x0_1.length ≤ co9 := (Kd.V_reads' HO_0.out).2.1
        have hC10 : Kd.F (Kd.int .i64) _ _ (some ad882) x0_1.length x0_1 := (Kd.V_at (base := w.heap.size) HO_0.out).2.2
        have hcut10 := cut_to (P := Try.prog) 45 3 .i64 Try.underlying45 hi010 (some ad882) x0_1.length co9 (ji3) (of_decide_eq_true (by first | (with_reducible assumption) | assumption)) q10 hroom10
        have hr10 := Kd.F_take (m := ((ji3) : Int).toNat) hC10 (by omega)
        have hy10 : y883.length = ((ji3) : Int).toNat := (by rw [Ny883.out, List.length_take]; omega)
        rw [← Ny883.out] at hr10
        rw [← hy10] at hcut10
        have HO887 := Aside0.mk (show Kd.V (Kd.int .i64) 3 _ w.heap.size _ (.slice (some ad882) y883.length co9) y883 from Kd.V_mk (by omega) hr10)
        have HC887 := Aside0.mk (show y883.length ≤ co9 from by omega)
        clear hr10 hC10 hroom10 hi010 hsz10
        have KY10 := Aside0.mk hy10
        clear hy10
        replace q10 := eq_true q10
        go_wp2
        go_roundg k1
        case measure => have := HK1.out; omega
        case rel => exact ⟨(y883), H', zH, ⟨by (with_reducible repeat (first | apply Kd.V_alloc | apply Kd.V_drewN | apply Kd.V_drew)); exact HO887.out⟩, ⟨zB⟩⟩
       ·rw [if_neg c8] at H
        exact absurd H (by simp)
      ·rw [if_neg c6] at H
       have c6b0 := beq_eq_false_iff_ne.mpr c6
       have c6b1 := bne_iff_ne.mpr c6
       obtain ⟨t888, A11, H⟩ := zD H
       obtain rfl := Option.some.inj H
       obtain ⟨Ao12, co12, eo12⟩ := Kd.V_slice HO_0.out
       subst eo12
       have p882 : 0 ≤ ((ji3) : Int) := of_decide_eq_true (by first | (with_reducible assumption) | assumption)
       have q882 : (ji3) < (x0_1.length : Int) := of_decide_eq_true (by first | (with_reducible assumption) | assumption)
       obtain ⟨ad882, e882, hx882_0⟩ := Kd.at_int (Kd.V_reads' HO_0.out).2.2 (ji3) p882 q882
       cases e882
       replace p882 := eq_true p882
       replace q882 := eq_true q882
       go_wp2_with (first | ((with_reducible refine gate_callee (f := 136) rfl ?_); refine gL (some 23) Try.func136 #[.slice (some ad882) x0_1.length co12] ?_; (with_reducible refine (slices_Clone_int_int.calls _ _ x0_1 t888 _ ?side1 ?side2 A11.out).mono ?_); (case side1 => repeat (first | exact (Kd.V_reads' HO_0.out).2.2 | (with_reducible refine Kd.C_alloc ?_ _) | (with_reducible refine Kd.C_drewN ?_ _) | (with_reducible refine Kd.C_drew ?_))); (case side2 => exact (Kd.V_reads' HO_0.out).2.1); rintro e w13 ⟨v889, rfl, ho0, hb⟩; refine ⟨_, rfl, ?_⟩; replace HO_0 := Aside0.mk (Kd.V_elder' (by (with_reducible repeat (first | apply Kd.V_alloc | apply Kd.V_drewN | apply Kd.V_drew)); exact HO_0.out) (Kd.R_base ho0) hb); have HO890 := Aside0.mk (Kd.R_lower (Kd.R_newM (M := fun k_ => (w.heap.size ≤ k_)) ho0 (below_size zB) (fun k_ h_ => h_)) (below_size zB)); replace HB := bS hb; (try clear hb); (try clear ho0)))
       go_ret
       exact ⟨_, by first | rfl | (simp [errW_none, errW_some] <;> rfl) | (simp only [← hji3]; first | rfl | (simp [errW_none, errW_some] <;> rfl)) | (simp [*, errW_none, errW_some] <;> rfl), by (with_reducible repeat (first | apply Kd.R_alloc | apply Kd.R_drewN | apply Kd.R_drew)); exact Kd.R_mono HO890.out (fun _ hk => hk.1), zB⟩
     ·rw [if_neg c5] at H
      exact absurd H (by simp)
    ·rw [if_neg c4] at H
     exact absurd H (by simp)
   ·rw [if_neg c2] at H
    have c2b0 : decide (0 < (x0_1.length : Int)) = false := decide_eq_false c2
    have c2b1 : decide (0 < x0_1.length) = false := decide_eq_false (by omega)
    clear c2
    obtain ⟨t891, A14, H⟩ := zD H
    obtain rfl := Option.some.inj H
    obtain ⟨Ao15, co15, eo15⟩ := Kd.V_slice HO_0.out
    subst eo15
    go_wp2_with (first | ((with_reducible refine gate_callee (f := 136) rfl ?_); refine gL (some 23) Try.func136 #[.slice Ao15 x0_1.length co15] ?_; (with_reducible refine (slices_Clone_int_int.calls _ _ x0_1 t891 _ ?side1 ?side2 A14.out).mono ?_); (case side1 => repeat (first | exact (Kd.V_reads' HO_0.out).2.2 | (with_reducible refine Kd.C_alloc ?_ _) | (with_reducible refine Kd.C_drewN ?_ _) | (with_reducible refine Kd.C_drew ?_))); (case side2 => exact (Kd.V_reads' HO_0.out).2.1); rintro e w16 ⟨v892, rfl, ho0, hb⟩; refine ⟨_, rfl, ?_⟩; replace HO_0 := Aside0.mk (Kd.V_elder' (by (with_reducible repeat (first | apply Kd.V_alloc | apply Kd.V_drewN | apply Kd.V_drew)); exact HO_0.out) (Kd.R_base ho0) hb); have HO893 := Aside0.mk (Kd.R_lower (Kd.R_newM (M := fun k_ => (w.heap.size ≤ k_)) ho0 (below_size zB) (fun k_ h_ => h_)) (below_size zB)); replace HB := bS hb; (try clear hb); (try clear ho0)))
    go_ret
    exact ⟨_, zE, by (with_reducible repeat (first | apply Kd.R_alloc | apply Kd.R_drewN | apply Kd.R_drew)); exact Kd.R_mono HO893.out (fun _ hk => hk.1), zB⟩
/-! ### polynomial_product: function 109 -/
mutual
def polynomial_product.j0 : Nat → List Int → List Int → Bool → Int → Int → Int → Option (List Int)
 | 0, _, _, _, _, _, _ => none
 | k + 1, x1, x2, x19, x895000, x895001, x895002 => if x19 = true then (some ([] : List Int)) else (if 0 ≤ (wrap64 ((wrap64 ((x1.length : Int) + (x2.length : Int))) - 1)) then (if (wrap64 ((wrap64 ((x1.length : Int) + (x2.length : Int))) - 1) : Int).toNat ≤ 35184372088832 then (polynomial_product.l0 k x2 (List.replicate (wrap64 ((wrap64 ((x1.length : Int) + (x2.length : Int))) - 1) : Int).toNat 0) x1 (x1.length : Int) 0 x895000 x895001 x895002) else (none)) else (none))
def polynomial_product.l0 : Nat → List Int → List Int → List Int → Int → Int → Int → Int → Int → Option (List Int)
 | 0, _, _, _, _, _, _, _, _ => none
 | k + 1, x2, x7, x27, x28, x29, x895000, x895001, x895002 => if x29 < x28 then (if 0 ≤ x29 then (if x29 < (x27.length : Int) then (polynomial_product.l1 k x2 x7 x29 (rd x27 x29) x27 x28 x29 x2 (x2.length : Int) 0 x895000 x895001 x895002) else (none)) else (none)) else ((polynomial_trimmed_int.f k x7).bind fun t898 => (some t898))
def polynomial_product.l1 : Nat → List Int → List Int → Int → Int → List Int → Int → Int → List Int → Int → Int → Int → Int → Int → Option (List Int)
 | 0, _, _, _, _, _, _, _, _, _, _, _, _, _ => none
 | k + 1, x2, x7, x8, x9, x27, x28, x29, x34, x35, x36, x895000, x895001, x895002 => if x36 < x35 then (if 0 ≤ x36 then (if x36 < (x34.length : Int) then (if 0 ≤ (wrap64 (x8 + x36)) then (if (wrap64 (x8 + x36)) < (x7.length : Int) then ((polynomial_mul.f k x895000 x895001 x895002 x9 (rd x34 x36)).bind fun t904 => ((polynomial_add.f x895000 x895001 x895002 (rd x7 (wrap64 (x8 + x36))) t904).bind fun t905 => (polynomial_product.l1 k x2 (x7.set ((wrap64 (x8 + x36)) : Int).toNat t905) x8 x9 x27 x28 x29 x34 x35 (wrap64 (x36 + 1)) x895000 x895001 x895002))) else (none)) else (none)) else (none)) else (none)) else (polynomial_product.l0 k x2 x7 x27 x28 (wrap64 (x29 + 1)) x895000 x895001 x895002)
end
def polynomial_product.f (k : Nat) (a0_0 : Int) (a0_1 : Int) (a0_2 : Int) (l1 : List Int) (l2 : List Int) : Option (List Int) := if (l1.length : Int) = 0 then (polynomial_product.j0 k l1 l2 true a0_0 a0_1 a0_2) else (polynomial_product.j0 k l1 l2 ((l2.length : Int) == 0) a0_0 a0_1 a0_2)
theorem polynomial_product.mono_l : ∀ k, (∀ y0 y1 y2 y3 y4 y5, LeO (polynomial_product.j0 k y0 y1 y2 y3 y4 y5) (polynomial_product.j0 (k + 1) y0 y1 y2 y3 y4 y5)) ∧ (∀ y0 y1 y2 y3 y4 y5 y6 y7, LeO (polynomial_product.l0 k y0 y1 y2 y3 y4 y5 y6 y7) (polynomial_product.l0 (k + 1) y0 y1 y2 y3 y4 y5 y6 y7)) ∧ (∀ y0 y1 y2 y3 y4 y5 y6 y7 y8 y9 y10 y11 y12, LeO (polynomial_product.l1 k y0 y1 y2 y3 y4 y5 y6 y7 y8 y9 y10 y11 y12) (polynomial_product.l1 (k + 1) y0 y1 y2 y3 y4 y5 y6 y7 y8 y9 y10 y11 y12))
 | 0 => ⟨fun _ _ _ _ _ _ r h => by simp [polynomial_product.j0] at h, fun _ _ _ _ _ _ _ _ r h => by simp [polynomial_product.l0] at h, fun _ _ _ _ _ _ _ _ _ _ _ _ _ r h => by simp [polynomial_product.l1] at h⟩
 | k + 1 => by
  obtain ⟨ih0, ih1, ih2⟩ := polynomial_product.mono_l k
  refine ⟨?_, ?_, ?_⟩
  ·intro y0 y1 y2 y3 y4 y5
   unfold polynomial_product.j0
   have m0_ := @polynomial_mul.mono
   have m1_ := @polynomial_trimmed_int.mono
   exact zMo
  ·intro y0 y1 y2 y3 y4 y5 y6 y7
   unfold polynomial_product.l0
   have m0_ := @polynomial_mul.mono
   have m1_ := @polynomial_trimmed_int.mono
   exact zMo
  ·intro y0 y1 y2 y3 y4 y5 y6 y7 y8 y9 y10 y11 y12
   unfold polynomial_product.l1
   have m0_ := @polynomial_mul.mono
   have m1_ := @polynomial_trimmed_int.mono
   exact zMo
theorem polynomial_product.mono : ∀ a0 a1 a2 a3 a4 k, LeO (polynomial_product.f k a0 a1 a2 a3 a4) (polynomial_product.f (k + 1) a0 a1 a2 a3 a4) := by
 intro a0 a1 a2 a3 a4 k
 obtain ⟨ih0, ih1, ih2⟩ := polynomial_product.mono_l k
 unfold polynomial_product.f
 have m0_ := @polynomial_mul.mono
 have m1_ := @polynomial_trimmed_int.mono
 exact zMo
def polynomial_product.T10 : Bool × List (List Nat × List Nat) := (true, [([], []), ([], []), ([], []), ([1, 2], [1, 2]), ([], []), ([], []), ([], []), ([], []), ([6, 7], [6, 7]), ([5, 8], [5, 8]), ([9], [9]), ([], []), ([], []), ([], []), ([11, 12, 13], [11, 12, 13]), ([4, 10, 14, 14], [4, 10, 14]), ([0, 3, 0, 1, 2, 3, 4, 5, 6, 7, 8, 9, 10, 11, 12, 13, 14, 15], [0, 3]), ([16, 15, 15, 0, 1, 2, 3, 4, 5, 6, 7, 8, 9, 10, 11, 12, 13, 14, 15], [15, 16])])
def polynomial_product.B10 : List Nat := [0, 0, 0, 6, 0, 0, 0, 0, 192, 480, 992, 0, 0, 0, 14336, 32752, 65535, 131071]
theorem polynomial_product.tab10 : rtab .any (opsOf Try.f109 10) = polynomial_product.T10 := by kernel_rfl
theorem polynomial_product.bits10 : waitsOk polynomial_product.T10.2 polynomial_product.B10 = true := by kernel_rfl
theorem polynomial_product.calls (k : Nat) (a0_0 : Int) (a0_1 : Int) (a0_2 : Int) (A1 : Option Addr) (c1 : Nat) (l1 : List Int) (A2 : Option Addr) (c2 : Nat) (l2 : List Int) (r : List Int) (w : World) (hr1 : Kd.C (Kd.int .i64) w A1 l1.length l1) (hc1 : l1.length ≤ c1) (hr2 : Kd.C (Kd.int .i64) w A2 l2.length l2) (hc2 : l2.length ≤ c2) (h : polynomial_product.f k a0_0 a0_1 a0_2 l1 l2 = some r) :
  Calls Try.prog 109 #[.agg #[.int .i64 a0_0, .int .i64 a0_1, .int .i64 a0_2], .slice A1 l1.length c1, .slice A2 l2.length c2] w fun e w' => ∃ v0_ : Value, e = .returned (v0_) ∧ Kd.R (Kd.int .i64) 3 w' w.heap.size (fun _ => True) v0_ r ∧ Below w.heap.size w w' := by
 have hu23 := Try.underlying23
 have HR1 := Aside0.mk hr1
 have HC1 := Aside0.mk hc1
 clear hr1 hc1
 have HR2 := Aside0.mk hr2
 have HC2 := Aside0.mk hc2
 clear hr2 hc2
 have HB := Aside0.mk (Below.refl w.heap.size w)
 have H := h
 unfold polynomial_product.f at H
 clear h
 have HC4 := Aside0.mk H
 clear H
 go_enter Try.func109, Try.ntmps109
 go_upto_region 1 with (first | ((with_reducible refine gate_dst (N := 3) rfl ?_); (try (refine gate_guard (by rfl) ?_; dsimp only)); refine zBox 3 #[.int .i64 a0_0, .int .i64 a0_1, .int .i64 a0_2] 23 ?_; clear HB; intro gb894 w5 BK894 GE894 HB))
 (try simp only [Act.put, List.setIfInBounds_toArray, List.set_cons_zero, List.set_cons_succ])
 go_cut [19] (fun v19 wc => ∃ (kq : Nat) (x19_3 : Bool), v19 = .bool x19_3 ∧ Aside0 (polynomial_product.j0 kq l1 l2 x19_3 a0_0 a0_1 a0_2 = some r) ∧ Aside0 (kq ≤ k) ∧ Aside0 (wc.heap[gb894]? = some (.cells #[.int .i64 a0_0, .int .i64 a0_1, .int .i64 a0_2] 23 (0, 0))) ∧ Aside0 (Below w.heap.size w wc))
 case first =>
  have H := HC4.out
  clear HC4
  by_cases c6 : (l1.length : Int) = 0
  ·rw [if_pos c6] at H
   have c6b0 := beq_iff_eq.mpr c6
   have c6b1 := bne_eq_false_iff_eq.mpr c6
   clear c6
   (first | rw [c6b0] | (simp only [i64_w, i32_w]; rw [c6b0]) | skip)
   have H' := zA H
   clear H
   go_wp2
   go_meet
   case rel => exact ⟨_, (true), zR, H', zL, ⟨zK BK894⟩, ⟨zB⟩⟩
  ·rw [if_neg c6] at H
   have c6b0 := beq_eq_false_iff_ne.mpr c6
   have c6b1 := bne_iff_ne.mpr c6
   have c6b2 : ¬ (l1 = []) := fun h_ => c6 (by rw [h_]; rfl)
   (first | rw [c6b0] | (simp only [i64_w, i32_w]; rw [c6b0]) | skip)
   have H' := zA H
   clear H
   go_wp2
   go_meet
   case rel => exact ⟨_, (((l2.length : Int) == 0)), zR, H', zL, ⟨zK BK894⟩, ⟨zB⟩⟩
 case rest =>
  clear HC4
  try clear c1
  try clear c2
  try clear p2
  try clear c6
  try clear c6b0
  try clear c6b1
  try clear c6b2
  obtain ⟨kq, x19_3, rfl, HA, HJ3, BK894, HB⟩ := hcut
  cases kq with
  | zero => exact absurd HA.out (by simp [polynomial_product.j0])
  | succ kj3 =>
   have H := HA.out
   clear HA
   simp only [polynomial_product.j0] at H
   by_cases c7 : x19_3 = true
   ·subst c7
    rw [if_pos rfl] at H
    obtain rfl := Option.some.inj H
    go_wp2
    go_ret
    exact ⟨_, zE, by first | exact Kd.R_nil _ _ _ _ _ | exact Kd.N_nil _ _ _ _ _ | exact Kd.V_nil _ _ _ _ _ | exact Kd.Q_nil _ _ _ _ _ | exact Kd.S_nil _ _ _ _ _, zB⟩
   ·replace c7 := Bool.eq_false_iff.mpr c7
    subst c7
    rw [if_neg (show ¬ (false = true) by decide)] at H
    obtain ⟨ji8, hji8⟩ : ∃ j_ : Int, (wrap64 ((wrap64 ((l1.length : Int) + (l2.length : Int))) - 1)) = j_ := ⟨_, rfl⟩
    first | rw [hji8] at H | simp only [hji8] at H
    have hji8w : (IntKind.i64.wrap ((wrap64 ((l1.length : Int) + (l2.length : Int))) - 1)) = ji8 := (i64_w _).trans hji8
    by_cases c9 : 0 ≤ (ji8)
    ·rw [if_pos c9] at H
     have c9b0 := eq_true c9
     have c9b1 : decide (0 ≤ (ji8)) = true := decide_eq_true c9
     clear c9
     by_cases c10 : (ji8 : Int).toNat ≤ 35184372088832
     ·rw [if_pos c10] at H
      have c10b0 := eq_true c10
      have c10b1 : decide ((ji8 : Int).toNat ≤ 35184372088832) = true := decide_eq_true c10
      clear c10
      obtain ⟨y895, hy895⟩ : ∃ y_ : List Int, y_ = (List.replicate (ji8 : Int).toNat 0) := ⟨_, rfl⟩
      replace H : (polynomial_product.l0 kj3 l2 y895 l1 (l1.length : Int) 0 a0_0 a0_1 a0_2) = some r := by first | (rw [hy895]; with_reducible exact H) | (have H2_ := (Option.bind_some _ _).symm.trans H; rw [hy895]; with_reducible exact H2_) | (have H2_ := (Option.bind_some _ _).symm.trans H; with_reducible exact H2_) | with_reducible exact H | (rw [hy895]; exact H) | exact H
      have Ny895 := Aside0.mk hy895
      clear hy895
      have H' := zA H
      clear H
      go_wp2_with (first | ((with_reducible refine gate_dst (N := 26) rfl ?_); (try (refine gate_guard (by rfl) ?_; dsimp only)); refine Kd.R_make (Kd.int .i64) _ 3 rfl (N := 26) rfl 45 _ _ rfl ji8 rfl rfl Try.underlying45 (.int .i64 0) 8 info3 rfl (by decide) (by omega) 0 (ok := fun _ => True) (okp := fun _ => True) rfl (fun _ hk => hk) trivial (of_decide_eq_true (by first | (with_reducible assumption) | assumption)) (Nat.le_trans (Nat.mul_le_mul_right _ (of_decide_eq_true (by first | (with_reducible assumption) | assumption) : ji8.toNat ≤ 35184372088832)) (by omega)) (Below.refl _ _) (Nat.le_refl _) ?_; intro v896 w11 ho12 hb hg_ hnew_; clear hg_ hnew_; (first | rw [← Ny895.out] at ho12 | (simp only [Int.reduceToNat] at ho12; rw [← Ny895.out] at ho12)); have HO897 := Aside0.mk (Kd.R_lower ho12 (below_size zB)); replace BK894 := bB BK894 hb; replace HB := bS hb; clear hb ho12))
      go_loopg [29] kj3 (fun kq v29 w' => ∃ (x7_2 : List Int) (x29_2 : Int), v29 = .int .i64 x29_2 ∧ Aside0 (polynomial_product.l0 kq l2 x7_2 l1 (l1.length : Int) x29_2 a0_0 a0_1 a0_2 = some r) ∧ Aside0 (kq ≤ kj3) ∧ Aside0 (Kd.R (Kd.int .i64) 3 w' w.heap.size (fun _ => True) v896 x7_2) ∧ Aside0 (w'.heap[gb894]? = some (.cells #[.int .i64 a0_0, .int .i64 a0_1, .int .i64 a0_2] 23 (0, 0))) ∧ Aside0 (Below w.heap.size w w'))
      case atStart => exact ⟨(y895), (0), zR, H', ⟨Nat.le_refl _⟩, ⟨zO HO897⟩, ⟨zK BK894⟩, ⟨zB⟩⟩
      case round =>
       clear H'
       try clear c1
       try clear c2
       try clear p2
       try clear c6
       try clear c6b0
       try clear c6b1
       try clear c6b2
       try clear p6
       try clear c7
       try clear c9
       try clear c9b0
       try clear c9b1
       try clear c10
       try clear c10b0
       try clear c10b1
       try clear p2
       obtain ⟨x7_2, x29_2, rfl, HA, HK2, HO_7, BK894, HB⟩ := hrel
       cases gk with
       | zero => exact absurd HA.out (by simp [polynomial_product.l0])
       | succ k2 =>
        have H := HA.out
        clear HA
        simp only [polynomial_product.l0] at H
        by_cases c13 : x29_2 < (l1.length : Int)
        ·rw [if_pos c13] at H
         have c13b0 : decide (x29_2 < (l1.length : Int)) = true := decide_eq_true c13
         clear c13
         by_cases c14 : 0 ≤ x29_2
         ·rw [if_pos c14] at H
          have c14b0 : decide (0 ≤ x29_2) = true := decide_eq_true c14
          clear c14
          by_cases c15 : x29_2 < (l1.length : Int)
          ·rw [if_pos c15] at H
           have c15b0 : decide (x29_2 < (l1.length : Int)) = true := decide_eq_true c15
           clear c15
           have H' := zA H
           clear H
           have p901 : 0 ≤ (x29_2 : Int) := of_decide_eq_true (by first | (with_reducible assumption) | assumption)
           have q901 : x29_2 < (l1.length : Int) := of_decide_eq_true (by first | (with_reducible assumption) | assumption)
           obtain ⟨ad901, e901, hx901_0⟩ := Kd.at_int HR1.out x29_2 p901 q901
           cases e901
           replace hx901_0 := (HB.out.cell (World.block_lt_of_cell? w _ hx901_0)).trans hx901_0
           replace p901 := eq_true p901
           replace q901 := eq_true q901
           go_wp2
           go_loopg [36] k2 (fun kq v36 w' => ∃ (x7_3 : List Int) (x36_3 : Int), v36 = .int .i64 x36_3 ∧ Aside0 (polynomial_product.l1 kq l2 x7_3 x29_2 (rd l1 x29_2) l1 (l1.length : Int) x29_2 l2 (l2.length : Int) x36_3 a0_0 a0_1 a0_2 = some r) ∧ Aside0 (kq ≤ k2) ∧ Aside0 (Kd.R (Kd.int .i64) 3 w' w.heap.size (fun _ => True) v896 x7_3) ∧ Aside0 (w'.heap[gb894]? = some (.cells #[.int .i64 a0_0, .int .i64 a0_1, .int .i64 a0_2] 23 (0, 0))) ∧ Aside0 (Below w.heap.size w w'))
           case atStart => exact ⟨(x7_2), (0), zR, H', ⟨Nat.le_refl _⟩, ⟨zO HO_7⟩, ⟨zK BK894⟩, ⟨zB⟩⟩
           case round =>
            clear H'
            try clear c1
            try clear c2
            try clear p2
            try clear c6
            try clear c6b0
            try clear c6b1
            try clear c6b2
            try clear p6
            try clear c7
            try clear c9
            try clear c9b0
            try clear c9b1
            try clear p9
            try clear q9
            try clear hx9
            try clear c10
            try clear c10b0
            try clear c10b1
            try clear c13
            try clear c13b0
            try clear c14
            try clear c14b0
            try clear c15
            try clear c15b0
            try clear hx901_0
            try clear p2
            try clear p6
            try clear p901
            try clear q901
            obtain ⟨x7_3, x36_3, rfl, HA, HK3, HO_7, BK894, HB⟩ := hrel
            cases gk with
            | zero => exact absurd HA.out (by simp [polynomial_product.l1])
            | succ k3 =>
             have H := HA.out
             clear HA
             simp only [polynomial_product.l1] at H
             by_cases c16 : x36_3 < (l2.length : Int)
             ·rw [if_pos c16] at H
              have c16b0 : decide (x36_3 < (l2.length : Int)) = true := decide_eq_true c16
              clear c16
              by_cases c17 : 0 ≤ x36_3
              ·rw [if_pos c17] at H
               have c17b0 : decide (0 ≤ x36_3) = true := decide_eq_true c17
               clear c17
               by_cases c18 : x36_3 < (l2.length : Int)
               ·rw [if_pos c18] at H
                have c18b0 : decide (x36_3 < (l2.length : Int)) = true := decide_eq_true c18
                clear c18
                obtain ⟨ji19, hji19⟩ : ∃ j_ : Int, (wrap64 (x29_2 + x36_3)) = j_ := ⟨_, rfl⟩
                first | rw [hji19] at H | simp only [hji19] at H
                have hji19w : (IntKind.i64.wrap (x29_2 + x36_3)) = ji19 := (i64_w _).trans hji19
                by_cases c20 : 0 ≤ (ji19)
                ·rw [if_pos c20] at H
                 have c20b0 : decide (0 ≤ (ji19)) = true := decide_eq_true c20
                 clear c20
                 by_cases c21 : (ji19) < (x7_3.length : Int)
                 ·rw [if_pos c21] at H
                  have c21b0 : decide ((ji19) < (x7_3.length : Int)) = true := decide_eq_true c21
                  clear c21
                  obtain ⟨t904, A22, H⟩ := zD H
                  obtain ⟨t905, A23, H⟩ := zD H
                  obtain ⟨y906, hy906⟩ : ∃ y_ : List Int, y_ = (x7_3.set ((ji19) : Int).toNat t905) := ⟨_, rfl⟩
                  replace H : (polynomial_product.l1 k3 l2 y906 x29_2 (rd l1 x29_2) l1 (l1.length : Int) x29_2 l2 (l2.length : Int) (wrap64 (x36_3 + 1)) a0_0 a0_1 a0_2) = some r := by first | (rw [hy906]; with_reducible exact H) | (have H2_ := (Option.bind_some _ _).symm.trans H; rw [hy906]; with_reducible exact H2_) | (have H2_ := (Option.bind_some _ _).symm.trans H; with_reducible exact H2_) | with_reducible exact H | (rw [hy906]; exact H) | exact H
                  have Ny906 := Aside0.mk hy906
                  clear hy906
                  have H' := zA H
                  clear H
                  have p902 : 0 ≤ (x36_3 : Int) := of_decide_eq_true (by first | (with_reducible assumption) | assumption)
                  have q902 : x36_3 < (l2.length : Int) := of_decide_eq_true (by first | (with_reducible assumption) | assumption)
                  obtain ⟨ad902, e902, hx902_0⟩ := Kd.at_int HR2.out x36_3 p902 q902
                  cases e902
                  replace hx902_0 := (HB.out.cell (World.block_lt_of_cell? w _ hx902_0)).trans hx902_0
                  replace p902 := eq_true p902
                  replace q902 := eq_true q902
                  try go_wp2
                  replace HO_7 := Aside0.mk (Kd.R_drew HO_7.out)
                  replace BK894 := Aside0.mk (blk_drew BK894.out)
                  replace HB := Aside0.mk (below_drew1 HB.out)
                  obtain ⟨Ao26, co26, eo26⟩ := Kd.R_slice HO_7.out
                  (first | subst eo26 | (injection eo26 with f1_ f2_ f3_; have f4_ := f1_.symm; have f5_ := f3_.symm; clear f1_ f2_ f3_; subst f4_; subst f5_))
                  have p903 : 0 ≤ ((ji19) : Int) := of_decide_eq_true (by first | (with_reducible assumption) | assumption)
                  have q903 : (ji19) < (x7_3.length : Int) := of_decide_eq_true (by first | (with_reducible assumption) | assumption)
                  obtain ⟨ad903, e903, hx903_0⟩ := Kd.at_int (Kd.R_reads' HO_7.out).2.2 (ji19) p903 q903
                  cases e903
                  replace p903 := eq_true p903
                  replace q903 := eq_true q903
                  refine start_ (n := 18) (S := fun w' => w'.cell? ⟨gb894, 0, none⟩ = some (.int .i64 a0_0) ∧ w'.cell? ⟨gb894, 1, none⟩ = some (.int .i64 a0_1) ∧ w'.cell? ⟨gb894, 2, none⟩ = some (.int .i64 a0_2) ∧ w'.cell? (ad903.add ((ji19)).toNat) = some (.int .i64 (rd x7_3 (ji19)))) (ds := [17]) #[false, false, false, false, false, false, false, false, false, false, false, false, false, false, false, false, false, false] (by kernel_rfl) rfl rfl ⟨(blk_cell BK894.out 0).trans rfl, (blk_cell BK894.out 1).trans rfl, (blk_cell BK894.out 2).trans rfl, hx903_0⟩ (fun hHeld => ?_); refine with_tabW polynomial_product.tab10 polynomial_product.bits10 (fun HT_ HW_ => ?_)
                  generalize wr.drew = w25 at HO_7 BK894 HB hx903_0 hHeld ⊢
                  refine pU 0 (some 41) ?_
                  refine pU 1 (some 42) ?_
                  refine pU 2 (some 43) ?_
                  refine pU 3 (some 44) ?_
                  refine pU 5 (some 46) ?_
                  refine pU 6 (some 47) ?_
                  refine pU 7 (some 48) ?_
                  refine pU 8 (some 49) ?_
                  refine pU 9 (some 50) ?_
                  refine pU 12 (some 53) ?_
                  refine pU 13 (some 54) ?_
                  refine tU 4 (some 45) hHeld ?_
                  refine tU 10 (some 51) hHeld ?_
                  refine tU 11 (some 52) hHeld ?_
                  refine oU 14 (some 55) (fun K hK => ?_)
                  refine goes_ Try.func114 (by kernel_rfl) rfl #[.agg #[.int .i64 a0_0, .int .i64 a0_1, .int .i64 a0_2], .int .i64 (rd l1 x29_2), .int .i64 (rd l2 x36_3)] (by rfl) rfl rfl zM ?_
                  with_reducible refine (polynomial_mul.calls k3 a0_0 a0_1 a0_2 (rd l1 x29_2) (rd l2 x36_3) t904 _ A22.out).mono ?_
                  rintro e w27 ⟨rfl, hb⟩
                  have HS3_ := (hb.cell (World.block_lt_of_cell? _ _ (hHeld.2.2.2))).trans (hHeld.2.2.2)
                  refine ⟨_, rfl, ?_⟩
                  replace HO_7 := Aside0.mk (Kd.R_below (zO HO_7) hb)
                  replace BK894 := bB BK894 hb
                  replace HB := bS hb
                  (try clear hb)
                  (try clear hb2)
                  (try clear hk)
                  (try clear hi)
                  refine hK.out _ _ ⟨(blk_cell BK894.out 0).trans rfl, (blk_cell BK894.out 1).trans rfl, (blk_cell BK894.out 2).trans rfl, HS3_⟩ (fun hHeld => ?_)
                  clear hK K
                  refine nU ?_
                  refine oU 15 (some 56) (fun K hK => ?_)
                  refine goes_ Try.func131 (by kernel_rfl) rfl #[.agg #[.int .i64 a0_0, .int .i64 a0_1, .int .i64 a0_2], .int .i64 (rd x7_3 (ji19)), .int .i64 t904] (by rfl) rfl rfl (by (try simp only [List.map_toArray, List.map_cons, List.map_nil]); first | done | (simp only [hji19]; rfl) | rfl | (simp only [List.length_drop, List.length_take]; rfl)) ?_
                  with_reducible refine (polynomial_add.calls a0_0 a0_1 a0_2 (rd x7_3 (ji19)) t904 t905 _ A23.out).mono ?_
                  rintro e w28 ⟨rfl, hb⟩
                  have HS3_ := (hb.cell (World.block_lt_of_cell? _ _ (hHeld.2.2.2))).trans (hHeld.2.2.2)
                  refine ⟨_, rfl, ?_⟩
                  replace HO_7 := Aside0.mk (Kd.R_below (zO HO_7) hb)
                  replace BK894 := bB BK894 hb
                  replace HB := bS hb
                  (try clear hb)
                  (try clear hb2)
                  (try clear hk)
                  (try clear hi)
                  have p24 : 0 ≤ ((ji19) : Int) := of_decide_eq_true (by first | (with_reducible assumption) | assumption)
                  have q24 : ((ji19) : Int) < ((x7_3.length : Int) : Int) := of_decide_eq_true (by first | (with_reducible assumption) | assumption)
                  obtain ⟨go24, co24, eo24, gb24, gl24, cl24, HG24⟩ := Kd.R_form HO_7.out (by omega)
                  (first | cases eo24 | (injection eo24 with ea_ en_ ec_; (first | subst ea_ | (injection ea_ with ea_; subst ea_)); subst ec_; clear en_))
                  have GB24 := Aside0.mk gb24
                  have GG24 := Aside0.mk HG24
                  clear gb24 gl24 HG24
                  (first | simp only [add_plain] at hx903_0 | skip)
                  obtain ⟨hx24_0, hf24_0⟩ := Kd.R_celln 0 HO_7.out ((ji19) : Int) p24 q24
                  replace p24 := eq_true p24
                  replace q24 := eq_true q24
                  have HP29 := Kd.R_putn HO_7.out ((ji19) : Int) t905
                  rw [← Ny906.out] at HP29
                  have HQ29 := Aside0.mk HP29
                  clear HP29
                  refine hK.out _ _ ⟨(blk_cell BK894.out 0).trans rfl, (blk_cell BK894.out 1).trans rfl, (blk_cell BK894.out 2).trans rfl, HS3_⟩ (fun hHeld => ?_)
                  clear hK K
                  refine nU ?_
                  refine pU 16 (some 57) ?_
                  refine last_ (i := 17) (N := none) #[true, true, true, true, true, true, true, true, true, true, true, true, true, true, true, true, true, true] rfl rfl (one_of HT_.out (by kernel_rfl)) (by decide) (fun K hK => ?_)
                  refine skip_ (w1 := ?_) (by rfl) rfl ?_ ?_
                  rotate_left
                  ·go_simp
                   rfl
                  refine hK.out _ _ ?_
                  clear hK K
                  refine dU ?_
                  try go_wp2
                  go_roundg k3
                  case measure => have := HJ3.out; have := HK2.out; have := HK3.out; omega
                  case rel => exact ⟨(y906), (wrap64 (x36_3 + 1)), zR, H', ⟨by have := HJ3.out; have := HK2.out; have := HK3.out; omega⟩, ⟨by (with_reducible repeat (first | apply Kd.R_alloc | apply Kd.R_drewN | apply Kd.R_drew)); exact HQ29.out⟩, ⟨by (with_reducible repeat (first | refine blk_drewN ?_ _ | refine blk_drew ?_ | refine blk_alloc ?_ _)); refine blk_far ?_ (by have h_ := Kd.R_ne HO_7.out BK894.out (by decide); intro e_; exact h_ (by rw [e_]; rfl)) _; (with_reducible repeat (first | refine blk_drewN ?_ _ | refine blk_drew ?_ | refine blk_alloc ?_ _)); exact BK894.out⟩, ⟨by repeat (first | (with_reducible first | exact HB.out | apply below_alloc | apply pw_below_drewN | apply below_drew1 | refine below_set ?_ GB24.out | refine zSet ?_ (by assumption)) | exact HB.out)⟩⟩
                 ·rw [if_neg c21] at H
                  exact absurd H (by simp)
                ·rw [if_neg c20] at H
                 exact absurd H (by simp)
               ·rw [if_neg c18] at H
                exact absurd H (by simp)
              ·rw [if_neg c17] at H
               exact absurd H (by simp)
             ·rw [if_neg c16] at H
              have c16b0 : decide (x36_3 < (l2.length : Int)) = false := decide_eq_false c16
              clear c16
              have H' := zA H
              clear H
              go_wp2
              go_roundg k3
              case measure => have := HJ3.out; have := HK2.out; have := HK3.out; omega
              case rel => exact ⟨(x7_3), (wrap64 (x29_2 + 1)), zR, H', ⟨by have := HJ3.out; have := HK2.out; have := HK3.out; omega⟩, ⟨zO HO_7⟩, ⟨zK BK894⟩, ⟨zB⟩⟩
          ·rw [if_neg c15] at H
           exact absurd H (by simp)
         ·rw [if_neg c14] at H
          exact absurd H (by simp)
        ·rw [if_neg c13] at H
         have c13b0 : decide (x29_2 < (l1.length : Int)) = false := decide_eq_false c13
         clear c13
         obtain ⟨t898, A30, H⟩ := zD H
         obtain rfl := Option.some.inj H
         obtain ⟨Ao31, co31, eo31⟩ := Kd.R_slice HO_7.out
         subst eo31
         go_wp2_with (first | ((with_reducible refine gate_callee (f := 124) rfl ?_); refine gL (some 61) Try.func124 #[.slice Ao31 x7_2.length co31] ?_; (with_reducible refine (polynomial_trimmed_int.calls k2 (fun k_ => some k_ = (.slice Ao31 x7_2.length co31 : Value).ownBlock) _ _ x7_2 t898 _ ?side1 A30.out).mono ?_); (case side1 => exact Kd.R_V (Kd.R_tight rfl (Kd.R_types (HO_7.out) BK894.out (by decide)))); rintro e w32 ⟨v899, rfl, ho0, hb⟩; refine ⟨_, rfl, ?_⟩; have HO900 := Aside0.mk (Kd.R_lower (Kd.R_new' (Kd.R_mono (ok' := fun k_ => True) ho0 (fun _ hk_ => trivial)) (Kd.R_lt (zO HO_7))) (below_size zB)); replace HO_7 := Aside0.mk (Kd.R_elder' (zO HO_7) (Kd.R_base ho0) hb); replace BK894 := bB BK894 hb; replace HB := bS hb; (try clear hb); (try clear ho0)))
         go_ret
         exact ⟨_, by first | rfl | (simp [errW_none, errW_some] <;> rfl) | (simp only [← hji8]; first | rfl | (simp [errW_none, errW_some] <;> rfl)) | (simp [*, errW_none, errW_some] <;> rfl), by (with_reducible repeat (first | apply Kd.R_alloc | apply Kd.R_drewN | apply Kd.R_drew)); exact Kd.R_mono HO900.out (fun _ hk => trivial), zB⟩
     ·rw [if_neg c10] at H
      exact absurd H (by simp)
    ·rw [if_neg c9] at H
     exact absurd H (by simp)
/-! ### polynomial_Mul: function 62 -/
def polynomial_Mul.j0 : Nat → List Int → List Int → Bool → Int → Int → Int → Option (List Int × Int)
 | 0, _, _, _, _, _, _ => none
 | k + 1, x1, x2, x8, x908000, x908001, x908002 => if x8 = true then (some (([] : List Int), 1)) else (if (x1.length : Int) > 0 then (if (x2.length : Int) > 0 then (if (wrap64 ((wrap64 ((x1.length : Int) + (x2.length : Int))) - 2)) > 4096 then (some (([] : List Int), 4)) else ((polynomial_product.f k x908000 x908001 x908002 x1 x2).bind fun t910 => (some (t910, 0)))) else ((polynomial_product.f k x908000 x908001 x908002 x1 x2).bind fun t913 => (some (t913, 0)))) else ((polynomial_product.f k x908000 x908001 x908002 x1 x2).bind fun t916 => (some (t916, 0))))
def polynomial_Mul.f (k : Nat) (a0_0 : Int) (a0_1 : Int) (a0_2 : Int) (l1 : List Int) (l2 : List Int) : Option (List Int × Int) := (polynomial_Valid.f k a0_0 a0_1 a0_2 l1).bind fun t908 => (if t908 = true then ((polynomial_Valid.f k a0_0 a0_1 a0_2 l2).bind fun t909 => (polynomial_Mul.j0 k l1 l2 (!t909) a0_0 a0_1 a0_2)) else (polynomial_Mul.j0 k l1 l2 true a0_0 a0_1 a0_2))
theorem polynomial_Mul.mono_l : ∀ k, (∀ y0 y1 y2 y3 y4 y5, LeO (polynomial_Mul.j0 k y0 y1 y2 y3 y4 y5) (polynomial_Mul.j0 (k + 1) y0 y1 y2 y3 y4 y5))
 | 0 => fun _ _ _ _ _ _ r h => by simp [polynomial_Mul.j0] at h
 | k + 1 => by
  have ih0 := polynomial_Mul.mono_l k
  ·intro y0 y1 y2 y3 y4 y5
   unfold polynomial_Mul.j0
   have m0_ := @polynomial_Valid.mono
   have m1_ := @polynomial_product.mono
   exact zMo
theorem polynomial_Mul.mono : ∀ a0 a1 a2 a3 a4 k, LeO (polynomial_Mul.f k a0 a1 a2 a3 a4) (polynomial_Mul.f (k + 1) a0 a1 a2 a3 a4) := by
 intro a0 a1 a2 a3 a4 k
 have ih0 := polynomial_Mul.mono_l k
 unfold polynomial_Mul.f
 have m0_ := @polynomial_Valid.mono
 have m1_ := @polynomial_product.mono
 exact zMo
theorem polynomial_Mul.calls (k : Nat) (a0_0 : Int) (a0_1 : Int) (a0_2 : Int) (A1 : Option Addr) (c1 : Nat) (l1 : List Int) (A2 : Option Addr) (c2 : Nat) (l2 : List Int) (r1 : List Int) (r2 : Int) (w : World) (hr1 : Kd.C (Kd.int .i64) w A1 l1.length l1) (hc1 : l1.length ≤ c1) (hr2 : Kd.C (Kd.int .i64) w A2 l2.length l2) (hc2 : l2.length ≤ c2) (h : polynomial_Mul.f k a0_0 a0_1 a0_2 l1 l2 = some (r1, r2)) :
  Calls Try.prog 62 #[.agg #[.int .i64 a0_0, .int .i64 a0_1, .int .i64 a0_2], .slice A1 l1.length c1, .slice A2 l2.length c2] w fun e w' => ∃ v0_ : Value, e = .returned (.tuple #[v0_, .int .i64 r2]) ∧ Kd.R (Kd.int .i64) 3 w' w.heap.size (fun _ => True) v0_ r1 ∧ Below w.heap.size w w' := by
 have hu23 := Try.underlying23
 have HR1 := Aside0.mk hr1
 have HC1 := Aside0.mk hc1
 clear hr1 hc1
 have HR2 := Aside0.mk hr2
 have HC2 := Aside0.mk hc2
 clear hr2 hc2
 have HB := Aside0.mk (Below.refl w.heap.size w)
 have H := h
 unfold polynomial_Mul.f at H
 clear h
 have HC4 := Aside0.mk H
 clear H
 go_enter Try.func62, Try.ntmps62
 go_upto_region 1 with (first | ((with_reducible refine gate_dst (N := 3) rfl ?_); (try (refine gate_guard (by rfl) ?_; dsimp only)); refine zBox 3 #[.int .i64 a0_0, .int .i64 a0_1, .int .i64 a0_2] 23 ?_; clear HB; intro gb907 w5 BK907 GE907 HB))
 (try simp only [Act.put, List.setIfInBounds_toArray, List.set_cons_zero, List.set_cons_succ])
 go_cut [8] (fun v8 wc => ∃ (kq : Nat) (x8_3 : Bool), v8 = .bool x8_3 ∧ Aside0 (polynomial_Mul.j0 kq l1 l2 x8_3 a0_0 a0_1 a0_2 = some (r1, r2)) ∧ Aside0 (kq ≤ k) ∧ Aside0 (wc.heap[gb907]? = some (.cells #[.int .i64 a0_0, .int .i64 a0_1, .int .i64 a0_2] 23 (0, 0))) ∧ Aside0 (Below w.heap.size w wc))
 case first =>
  have H := HC4.out
  clear HC4
  obtain ⟨t908, A6, H⟩ := zD H
  by_cases c7 : t908 = true
  ·subst c7
   rw [if_pos rfl] at H
   obtain ⟨t909, A8, H⟩ := zD H
   have H' := zA H
   clear H
   (try clear z907_0 z907_1 z907_2 f907_0 f907_1 f907_2)
   obtain ⟨z907_0, z907_1, z907_2, f907_0, f907_1, f907_2⟩ := cz3 BK907
   go_wp2_with (first | ((with_reducible refine gate_callee (f := 81) rfl ?_); refine gL (some 11) Try.func81 #[.agg #[.int .i64 a0_0, .int .i64 a0_1, .int .i64 a0_2], .slice A1 l1.length c1] ?_; (with_reducible refine zCall (polynomial_Valid.calls k a0_0 a0_1 a0_2 _ _ l1 true _ ?side1 ?side2 A6.out) ?_); (case side1 => exact zN HR1); (case side2 => exact HC1.out); intro w10 hb; replace BK907 := bB BK907 hb; replace HB := bS hb; (try clear hb); (try clear z907_0 z907_1 z907_2 f907_0 f907_1 f907_2); obtain ⟨z907_0, z907_1, z907_2, f907_0, f907_1, f907_2⟩ := cz3 BK907) | (go_at_call 81; (with_reducible refine (polynomial_Valid.calls k a0_0 a0_1 a0_2 _ _ l2 t909 _ ?side1 ?side2 A8.out).mono ?_); (case side1 => exact zN HR2); (case side2 => exact HC2.out); rintro e w12 ⟨rfl, hb⟩; replace BK907 := bB BK907 hb; replace HB := bS hb; (try clear hb)))
   go_meet
   case rel => exact ⟨_, (!t909), zR, H', zL, ⟨zK BK907⟩, ⟨zB⟩⟩
  ·replace c7 := Bool.eq_false_iff.mpr c7
   subst c7
   rw [if_neg (show ¬ (false = true) by decide)] at H
   have H' := zA H
   clear H
   (try clear z907_0 z907_1 z907_2 f907_0 f907_1 f907_2)
   obtain ⟨z907_0, z907_1, z907_2, f907_0, f907_1, f907_2⟩ := cz3 BK907
   go_wp2_with (first | ((with_reducible refine gate_callee (f := 81) rfl ?_); refine gL (some 11) Try.func81 #[.agg #[.int .i64 a0_0, .int .i64 a0_1, .int .i64 a0_2], .slice A1 l1.length c1] ?_; (with_reducible refine zCall (polynomial_Valid.calls k a0_0 a0_1 a0_2 _ _ l1 false _ ?side1 ?side2 A6.out) ?_); (case side1 => exact zN HR1); (case side2 => exact HC1.out); intro w14 hb; replace BK907 := bB BK907 hb; replace HB := bS hb; (try clear hb)))
   go_meet
   case rel => exact ⟨_, (true), zR, H', zL, ⟨zK BK907⟩, ⟨zB⟩⟩
 case rest =>
  clear HC4
  try clear c1
  try clear c2
  try clear p2
  try clear c6
  try clear c7
  try clear c8
  try clear z907_0 z907_1 z907_2 f907_0 f907_1 f907_2
  obtain ⟨kq, x8_3, rfl, HA, HJ3, BK907, HB⟩ := hcut
  cases kq with
  | zero => exact absurd HA.out (by simp [polynomial_Mul.j0])
  | succ kj3 =>
   have H := HA.out
   clear HA
   simp only [polynomial_Mul.j0] at H
   by_cases c15 : x8_3 = true
   ·subst c15
    rw [if_pos rfl] at H
    simp only [Option.some.injEq, Prod.mk.injEq] at H
    obtain ⟨rfl, rfl⟩ := H
    go_wp2
    go_ret2
    exact ⟨_, zE, by first | exact Kd.R_nil _ _ _ _ _ | exact Kd.N_nil _ _ _ _ _ | exact Kd.V_nil _ _ _ _ _ | exact Kd.Q_nil _ _ _ _ _ | exact Kd.S_nil _ _ _ _ _, zB⟩
   ·replace c15 := Bool.eq_false_iff.mpr c15
    subst c15
    rw [if_neg (show ¬ (false = true) by decide)] at H
    by_cases c16 : (l1.length : Int) > 0
    ·rw [if_pos c16] at H
     have c16b0 : decide (0 < (l1.length : Int)) = true := decide_eq_true c16
     have c16b1 : decide (0 < l1.length) = true := decide_eq_true (by omega)
     clear c16
     by_cases c17 : (l2.length : Int) > 0
     ·rw [if_pos c17] at H
      have c17b0 : decide (0 < (l2.length : Int)) = true := decide_eq_true c17
      have c17b1 : decide (0 < l2.length) = true := decide_eq_true (by omega)
      clear c17
      by_cases c18 : (wrap64 ((wrap64 ((l1.length : Int) + (l2.length : Int))) - 2)) > 4096
      ·rw [if_pos c18] at H
       have c18b0 : decide (4096 < (wrap64 ((wrap64 ((l1.length : Int) + (l2.length : Int))) - 2))) = true := decide_eq_true c18
       clear c18
       simp only [Option.some.injEq, Prod.mk.injEq] at H
       obtain ⟨rfl, rfl⟩ := H
       go_wp2
       go_ret2
       exact ⟨_, zE, by first | exact Kd.R_nil _ _ _ _ _ | exact Kd.N_nil _ _ _ _ _ | exact Kd.V_nil _ _ _ _ _ | exact Kd.Q_nil _ _ _ _ _ | exact Kd.S_nil _ _ _ _ _, zB⟩
      ·rw [if_neg c18] at H
       have c18b0 : decide (4096 < (wrap64 ((wrap64 ((l1.length : Int) + (l2.length : Int))) - 2))) = false := decide_eq_false c18
       clear c18
       obtain ⟨t910, A19, H⟩ := zD H
       simp only [Option.some.injEq, Prod.mk.injEq] at H
       obtain ⟨rfl, rfl⟩ := H
       (try clear z907_0 z907_1 z907_2 f907_0 f907_1 f907_2)
       obtain ⟨z907_0, z907_1, z907_2, f907_0, f907_1, f907_2⟩ := cz3 BK907
       go_wp2_with (first | ((with_reducible refine gate_callee (f := 109) rfl ?_); refine gL (some 40) Try.func109 #[.agg #[.int .i64 a0_0, .int .i64 a0_1, .int .i64 a0_2], .slice A1 l1.length c1, .slice A2 l2.length c2] ?_; (with_reducible refine (polynomial_product.calls kj3 a0_0 a0_1 a0_2 _ _ l1 _ _ l2 t910 _ ?side1 ?side2 ?side3 ?side4 A19.out).mono ?_); (case side1 => exact zN HR1); (case side2 => exact HC1.out); (case side3 => exact zN HR2); (case side4 => exact HC2.out); rintro e w21 ⟨v911, rfl, ho0, hb⟩; refine ⟨_, rfl, ?_⟩; have HO912 := Aside0.mk (Kd.R_lower ho0 (below_size zB)); replace BK907 := bB BK907 hb; replace HB := bS hb; (try clear hb); (try clear ho0)))
       go_ret2
       exact ⟨_, zE, by (with_reducible repeat (first | apply Kd.R_alloc | apply Kd.R_drewN | apply Kd.R_drew)); exact HO912.out, zB⟩
     ·rw [if_neg c17] at H
      have c17b0 : decide (0 < (l2.length : Int)) = false := decide_eq_false c17
      have c17b1 : decide (0 < l2.length) = false := decide_eq_false (by omega)
      clear c17
      obtain ⟨t913, A22, H⟩ := zD H
      simp only [Option.some.injEq, Prod.mk.injEq] at H
      obtain ⟨rfl, rfl⟩ := H
      (try clear z907_0 z907_1 z907_2 f907_0 f907_1 f907_2)
      obtain ⟨z907_0, z907_1, z907_2, f907_0, f907_1, f907_2⟩ := cz3 BK907
      go_wp2_with (first | ((with_reducible refine gate_callee (f := 109) rfl ?_); refine gL (some 40) Try.func109 #[.agg #[.int .i64 a0_0, .int .i64 a0_1, .int .i64 a0_2], .slice A1 l1.length c1, .slice A2 l2.length c2] ?_; (with_reducible refine (polynomial_product.calls kj3 a0_0 a0_1 a0_2 _ _ l1 _ _ l2 t913 _ ?side1 ?side2 ?side3 ?side4 A22.out).mono ?_); (case side1 => exact zN HR1); (case side2 => exact HC1.out); (case side3 => exact zN HR2); (case side4 => exact HC2.out); rintro e w24 ⟨v914, rfl, ho0, hb⟩; refine ⟨_, rfl, ?_⟩; have HO915 := Aside0.mk (Kd.R_lower ho0 (below_size zB)); replace BK907 := bB BK907 hb; replace HB := bS hb; (try clear hb); (try clear ho0)))
      go_ret2
      exact ⟨_, zE, by (with_reducible repeat (first | apply Kd.R_alloc | apply Kd.R_drewN | apply Kd.R_drew)); exact HO915.out, zB⟩
    ·rw [if_neg c16] at H
     have c16b0 : decide (0 < (l1.length : Int)) = false := decide_eq_false c16
     have c16b1 : decide (0 < l1.length) = false := decide_eq_false (by omega)
     clear c16
     obtain ⟨t916, A25, H⟩ := zD H
     simp only [Option.some.injEq, Prod.mk.injEq] at H
     obtain ⟨rfl, rfl⟩ := H
     (try clear z907_0 z907_1 z907_2 f907_0 f907_1 f907_2)
     obtain ⟨z907_0, z907_1, z907_2, f907_0, f907_1, f907_2⟩ := cz3 BK907
     go_wp2_with (first | ((with_reducible refine gate_callee (f := 109) rfl ?_); refine gL (some 40) Try.func109 #[.agg #[.int .i64 a0_0, .int .i64 a0_1, .int .i64 a0_2], .slice A1 l1.length c1, .slice A2 l2.length c2] ?_; (with_reducible refine (polynomial_product.calls kj3 a0_0 a0_1 a0_2 _ _ l1 _ _ l2 t916 _ ?side1 ?side2 ?side3 ?side4 A25.out).mono ?_); (case side1 => exact zN HR1); (case side2 => exact HC1.out); (case side3 => exact zN HR2); (case side4 => exact HC2.out); rintro e w27 ⟨v917, rfl, ho0, hb⟩; refine ⟨_, rfl, ?_⟩; have HO918 := Aside0.mk (Kd.R_lower ho0 (below_size zB)); replace BK907 := bB BK907 hb; replace HB := bS hb; (try clear hb); (try clear ho0)))
     go_ret2
     exact ⟨_, zE, by (with_reducible repeat (first | apply Kd.R_alloc | apply Kd.R_drewN | apply Kd.R_drew)); exact HO918.out, zB⟩
/-! ### polynomial_sum: function 116 -/
def polynomial_sum.l0 : Nat → List Int → List Int → List Int → Int → Int → Int → Int → Int → Option (List Int)
 | 0, _, _, _, _, _, _, _, _ => none
 | k + 1, x1, x2, x7, x16, x17, x927000, x927001, x927002 => if x17 < x16 then ((polynomial_coefficient.f x1 x17).bind fun t930 => ((polynomial_coefficient.f x2 x17).bind fun t931 => ((polynomial_add.f x927000 x927001 x927002 t930 t931).bind fun t932 => (if 0 ≤ x17 then (if x17 < (x7.length : Int) then (polynomial_sum.l0 k x1 x2 (x7.set (x17 : Int).toNat t932) x16 (wrap64 (x17 + 1)) x927000 x927001 x927002) else (none)) else (none))))) else ((polynomial_trimmed_int.f k x7).bind fun t934 => (some t934))
def polynomial_sum.f (k : Nat) (a0_0 : Int) (a0_1 : Int) (a0_2 : Int) (l1 : List Int) (l2 : List Int) : Option (List Int) := if 0 ≤ (mx (l1.length : Int) (l2.length : Int)) then (if (mx (l1.length : Int) (l2.length : Int) : Int).toNat ≤ 35184372088832 then ((some (List.replicate (mx (l1.length : Int) (l2.length : Int) : Int).toNat 0 : List Int)).bind fun y927 => (polynomial_sum.l0 k l1 l2 y927 (y927.length : Int) 0 a0_0 a0_1 a0_2)) else (none)) else (none)
theorem polynomial_sum.mono_l : ∀ k, (∀ y0 y1 y2 y3 y4 y5 y6 y7, LeO (polynomial_sum.l0 k y0 y1 y2 y3 y4 y5 y6 y7) (polynomial_sum.l0 (k + 1) y0 y1 y2 y3 y4 y5 y6 y7))
 | 0 => fun _ _ _ _ _ _ _ _ r h => by simp [polynomial_sum.l0] at h
 | k + 1 => by
  have ih0 := polynomial_sum.mono_l k
  ·intro y0 y1 y2 y3 y4 y5 y6 y7
   unfold polynomial_sum.l0
   have m0_ := @polynomial_trimmed_int.mono
   exact zMo
theorem polynomial_sum.mono : ∀ a0 a1 a2 a3 a4 k, LeO (polynomial_sum.f k a0 a1 a2 a3 a4) (polynomial_sum.f (k + 1) a0 a1 a2 a3 a4) := by
 intro a0 a1 a2 a3 a4 k
 have ih0 := polynomial_sum.mono_l k
 unfold polynomial_sum.f
 have m0_ := @polynomial_trimmed_int.mono
 exact zMo
def polynomial_sum.T5 : Bool × List (List Nat × List Nat) := (true, [([], []), ([], []), ([], []), ([], []), ([], []), ([3, 4], [3, 4]), ([], []), ([], []), ([6, 7, 5], [6, 7]), ([2, 5, 8, 8], [2, 5, 8]), ([0, 1, 0, 1, 2, 3, 4, 5, 6, 7, 8, 9], [0, 1]), ([10, 9, 9, 0, 1, 2, 3, 4, 5, 6, 7, 8, 9], [9, 10])])
def polynomial_sum.B5 : List Nat := [0, 0, 0, 0, 0, 24, 0, 0, 248, 508, 1023, 2047]
theorem polynomial_sum.tab5 : rtab .any (opsOf Try.f116 5) = polynomial_sum.T5 := by kernel_rfl
theorem polynomial_sum.bits5 : waitsOk polynomial_sum.T5.2 polynomial_sum.B5 = true := by kernel_rfl
theorem polynomial_sum.calls (k : Nat) (a0_0 : Int) (a0_1 : Int) (a0_2 : Int) (A1 : Option Addr) (c1 : Nat) (l1 : List Int) (A2 : Option Addr) (c2 : Nat) (l2 : List Int) (r : List Int) (w : World) (hr1 : Kd.C (Kd.int .i64) w A1 l1.length l1) (hc1 : l1.length ≤ c1) (hr2 : Kd.C (Kd.int .i64) w A2 l2.length l2) (hc2 : l2.length ≤ c2) (h : polynomial_sum.f k a0_0 a0_1 a0_2 l1 l2 = some r) :
  Calls Try.prog 116 #[.agg #[.int .i64 a0_0, .int .i64 a0_1, .int .i64 a0_2], .slice A1 l1.length c1, .slice A2 l2.length c2] w fun e w' => ∃ v0_ : Value, e = .returned (v0_) ∧ Kd.R (Kd.int .i64) 3 w' w.heap.size (fun _ => True) v0_ r ∧ Below w.heap.size w w' := by
 have hu23 := Try.underlying23
 have HR1 := Aside0.mk hr1
 have HC1 := Aside0.mk hc1
 clear hr1 hc1
 have HR2 := Aside0.mk hr2
 have HC2 := Aside0.mk hc2
 clear hr2 hc2
 have HB := Aside0.mk (Below.refl w.heap.size w)
 have H := h
 unfold polynomial_sum.f at H
 clear h
 obtain ⟨ji4, hji4⟩ : ∃ j_ : Int, (mx (l1.length : Int) (l2.length : Int)) = j_ := ⟨_, rfl⟩
 first | rw [hji4] at H | simp only [hji4] at H
 (try (have hji4l : 0 ≤ ji4 := by (rw [← hji4]; unfold mx; (repeat' split) <;> omega)))
 (try (have hji4m : 0 ≤ ji4 := by omega))
 have hji4_ : (if l1.length < l2.length then (l2.length : Int) else (l1.length : Int)) = ji4 := by rw [← hji4]; unfold mx; simp only [Int.ofNat_lt]
 by_cases c5 : 0 ≤ (ji4)
 ·rw [if_pos c5] at H
  have c5b0 := eq_true c5
  have c5b1 : decide (0 ≤ (ji4)) = true := decide_eq_true c5
  clear c5
  by_cases c6 : (ji4 : Int).toNat ≤ 35184372088832
  ·rw [if_pos c6] at H
   have c6b0 := eq_true c6
   have c6b1 : decide ((ji4 : Int).toNat ≤ 35184372088832) = true := decide_eq_true c6
   clear c6
   obtain ⟨y927, hy927⟩ : ∃ y_ : List Int, y_ = (List.replicate (ji4 : Int).toNat 0) := ⟨_, rfl⟩
   replace H : (polynomial_sum.l0 k l1 l2 y927 (y927.length : Int) 0 a0_0 a0_1 a0_2) = some r := by first | (rw [hy927]; with_reducible exact H) | (have H2_ := (Option.bind_some _ _).symm.trans H; rw [hy927]; with_reducible exact H2_) | (have H2_ := (Option.bind_some _ _).symm.trans H; with_reducible exact H2_) | with_reducible exact H | (rw [hy927]; exact H) | exact H
   have Ny927 := Aside0.mk hy927
   clear hy927
   have H' := zA H
   clear H
   go_enter Try.func116, Try.ntmps116
   go_wp2_with (first | ((with_reducible refine gate_dst (N := 3) rfl ?_); refine zBox 3 #[.int .i64 a0_0, .int .i64 a0_1, .int .i64 a0_2] 23 ?_; clear HB; intro gb926 w7 BK926 GE926 HB) | ((with_reducible refine gate_dst (N := 14) rfl ?_); refine Kd.R_make (Kd.int .i64) _ 3 rfl (N := 14) rfl 45 _ _ rfl ji4 rfl rfl Try.underlying45 (.int .i64 0) 8 info3 rfl (by decide) (by omega) 0 (ok := fun _ => True) (okp := fun _ => True) rfl (fun _ hk => hk) trivial (of_decide_eq_true (by first | (with_reducible assumption) | assumption)) (Nat.le_trans (Nat.mul_le_mul_right _ (of_decide_eq_true (by first | (with_reducible assumption) | assumption) : ji4.toNat ≤ 35184372088832)) (by omega)) (Below.refl _ _) (Nat.le_refl _) ?_; intro v928 w8 ho9 hb hg_ hnew_; clear hg_ hnew_; (first | rw [← Ny927.out] at ho9 | (simp only [Int.reduceToNat] at ho9; rw [← Ny927.out] at ho9)); have HO929 := Aside0.mk (Kd.R_lower ho9 (below_size zB)); replace BK926 := bB BK926 hb; replace HB := bS hb; clear hb ho9; obtain ⟨Ao10, co10, eo10⟩ := Kd.R_slice HO929.out; subst eo10))
   go_loopg [17] k (fun kq v17 w' => ∃ (x7_1 : List Int) (x17_1 : Int), v17 = .int .i64 x17_1 ∧ Aside0 (polynomial_sum.l0 kq l1 l2 x7_1 (y927.length : Int) x17_1 a0_0 a0_1 a0_2 = some r) ∧ Aside0 (kq ≤ k) ∧ Aside0 (Kd.R (Kd.int .i64) 3 w' w.heap.size (fun _ => True) (.slice Ao10 y927.length co10) x7_1) ∧ Aside0 (w'.heap[gb926]? = some (.cells #[.int .i64 a0_0, .int .i64 a0_1, .int .i64 a0_2] 23 (0, 0))) ∧ Aside0 (Below w.heap.size w w'))
   case atStart => exact ⟨(y927), (0), zR, H', ⟨Nat.le_refl _⟩, ⟨zO HO929⟩, ⟨zK BK926⟩, ⟨zB⟩⟩
   case round =>
    clear H'
    try clear c1
    try clear c2
    try clear p2
    try clear c5
    try clear c5b0
    try clear c5b1
    try clear c6
    try clear c6b0
    try clear c6b1
    obtain ⟨x7_1, x17_1, rfl, HA, HK1, HO_7, BK926, HB⟩ := hrel
    have hl7_1 := (Kd.R_reads' HO_7.out).1
    rw [hl7_1] at HO_7
    (try simp only [hl7_1])
    (try simp only [hl7_1] at BK926)
    cases gk with
    | zero => exact absurd HA.out (by simp [polynomial_sum.l0])
    | succ k1 =>
     have H := HA.out
     clear HA
     simp only [polynomial_sum.l0] at H
     by_cases c11 : x17_1 < (y927.length : Int)
     ·rw [if_pos c11] at H
      have c11b0 : decide (x17_1 < (y927.length : Int)) = true := decide_eq_true c11
      (try rw [hl7_1] at c11b0)
      clear c11
      obtain ⟨t930, A12, H⟩ := zD H
      obtain ⟨t931, A13, H⟩ := zD H
      obtain ⟨t932, A14, H⟩ := zD H
      by_cases c15 : 0 ≤ x17_1
      ·rw [if_pos c15] at H
       have c15b0 : decide (0 ≤ x17_1) = true := decide_eq_true c15
       clear c15
       by_cases c16 : x17_1 < (x7_1.length : Int)
       ·rw [if_pos c16] at H
        have c16b0 : decide (x17_1 < (x7_1.length : Int)) = true := decide_eq_true c16
        clear c16
        obtain ⟨y933, hy933⟩ : ∃ y_ : List Int, y_ = (x7_1.set (x17_1 : Int).toNat t932) := ⟨_, rfl⟩
        replace H : (polynomial_sum.l0 k1 l1 l2 y933 (y927.length : Int) (wrap64 (x17_1 + 1)) a0_0 a0_1 a0_2) = some r := by first | (rw [hy933]; with_reducible exact H) | (have H2_ := (Option.bind_some _ _).symm.trans H; rw [hy933]; with_reducible exact H2_) | (have H2_ := (Option.bind_some _ _).symm.trans H; with_reducible exact H2_) | with_reducible exact H | (rw [hy933]; exact H) | exact H
        have Ny933 := Aside0.mk hy933
        clear hy933
        have H' := zA H
        clear H
        try go_wp2
        replace HO_7 := Aside0.mk (Kd.R_drew HO_7.out)
        replace BK926 := Aside0.mk (blk_drew BK926.out)
        replace HB := Aside0.mk (below_drew1 HB.out)
        refine start_ (n := 12) (S := fun w' => w'.cell? ⟨gb926, 0, none⟩ = some (.int .i64 a0_0) ∧ w'.cell? ⟨gb926, 1, none⟩ = some (.int .i64 a0_1) ∧ w'.cell? ⟨gb926, 2, none⟩ = some (.int .i64 a0_2)) (ds := [11]) #[false, false, false, false, false, false, false, false, false, false, false, false] (by kernel_rfl) rfl rfl zS (fun hHeld => ?_); refine with_tabW polynomial_sum.tab5 polynomial_sum.bits5 (fun HT_ HW_ => ?_)
        generalize wr.drew = w18 at HO_7 BK926 HB hHeld ⊢
        refine pU 0 (some 20) ?_
        refine pU 1 (some 21) ?_
        refine pU 3 (some 23) ?_
        refine pU 4 (some 24) ?_
        refine pU 6 (some 26) ?_
        refine pU 7 (some 27) ?_
        refine tU 2 (some 22) hHeld ?_
        refine oU 5 (some 25) (fun K hK => ?_)
        refine goes_ Try.func135 (by kernel_rfl) rfl #[.slice A1 l1.length c1, .int .i64 x17_1] (by rfl) rfl rfl zM ?_
        with_reducible refine (polynomial_coefficient.calls _ _ l1 x17_1 t930 _ ?side1 ?side2 A12.out).mono ?_
        (case side1 => exact zN HR1)
        (case side2 => exact HC1.out)
        rintro e w' ⟨rfl, ⟨nd, rfl⟩⟩
        refine ⟨_, rfl, ?_⟩
        refine hK.out _ _ zS (fun hHeld => ?_)
        clear hK K
        refine nU ?_
        refine oU 8 (some 28) (fun K hK => ?_)
        refine goes_ Try.func135 (by kernel_rfl) rfl #[.slice A2 l2.length c2, .int .i64 x17_1] (by rfl) rfl rfl zM ?_
        with_reducible refine (polynomial_coefficient.calls _ _ l2 x17_1 t931 _ ?side1 ?side2 A13.out).mono ?_
        (case side1 => repeat (first | exact (Kd.C_below HR2.out zB) | (with_reducible refine Kd.C_alloc ?_ _) | (with_reducible refine Kd.C_drewN ?_ _) | (with_reducible refine Kd.C_drew ?_)))
        (case side2 => exact HC2.out)
        rintro e w' ⟨rfl, ⟨nd, rfl⟩⟩
        refine ⟨_, rfl, ?_⟩
        refine hK.out _ _ zS (fun hHeld => ?_)
        clear hK K
        refine nU ?_
        refine oU 9 (some 29) (fun K hK => ?_)
        refine goes_ Try.func131 (by kernel_rfl) rfl #[.agg #[.int .i64 a0_0, .int .i64 a0_1, .int .i64 a0_2], .int .i64 t930, .int .i64 t931] (by rfl) rfl rfl zM ?_
        with_reducible refine (polynomial_add.calls a0_0 a0_1 a0_2 t930 t931 t932 _ A14.out).mono ?_
        rintro e w19 ⟨rfl, hb⟩
        refine ⟨_, rfl, ?_⟩
        replace HO_7 := Aside0.mk (Kd.R_below (zO HO_7) hb)
        replace BK926 := bB BK926 hb
        replace HB := bS hb
        (try clear hb)
        (try clear hb2)
        (try clear hk)
        (try clear hi)
        have p17 : 0 ≤ (x17_1 : Int) := of_decide_eq_true (by first | (with_reducible assumption) | assumption)
        have q17 : (x17_1 : Int) < ((x7_1.length : Int) : Int) := of_decide_eq_true (by first | (with_reducible assumption) | assumption)
        obtain ⟨go17, co17, eo17, gb17, gl17, cl17, HG17⟩ := Kd.R_form HO_7.out (by omega)
        (first | cases eo17 | (injection eo17 with ea_ en_ ec_; (first | subst ea_ | (injection ea_ with ea_; subst ea_)); subst ec_; clear en_))
        have GB17 := Aside0.mk gb17
        have GG17 := Aside0.mk HG17
        clear gb17 gl17 HG17
        obtain ⟨hx17_0, hf17_0⟩ := Kd.R_celln 0 HO_7.out (x17_1 : Int) p17 q17
        replace p17 := eq_true p17
        replace q17 := eq_true q17
        have HP20 := Kd.R_putn HO_7.out (x17_1 : Int) t932
        rw [← Ny933.out] at HP20
        have HQ20 := Aside0.mk HP20
        clear HP20
        refine hK.out _ _ zS (fun hHeld => ?_)
        clear hK K
        refine nU ?_
        refine pU 10 (some 30) ?_
        refine last_ (i := 11) (N := none) #[true, true, true, true, true, true, true, true, true, true, true, true] rfl rfl (one_of HT_.out (by kernel_rfl)) (by decide) (fun K hK => ?_)
        refine skip_ (w1 := ?_) (by rfl) rfl ?_ ?_
        rotate_left
        ·go_simp
         rfl
        refine hK.out _ _ ?_
        clear hK K
        refine dU ?_
        try go_wp2
        (try simp only [← hl7_1])
        go_roundg k1
        case measure => have := HK1.out; omega
        case rel => exact ⟨(y933), (wrap64 (x17_1 + 1)), zR, H', zH, ⟨by (try simp only [hl7_1]); (with_reducible repeat (first | apply Kd.R_alloc | apply Kd.R_drewN | apply Kd.R_drew)); exact HQ20.out⟩, ⟨by (try simp only [hl7_1]); (with_reducible repeat (first | refine blk_drewN ?_ _ | refine blk_drew ?_ | refine blk_alloc ?_ _)); refine blk_far ?_ (by have h_ := Kd.R_ne HO_7.out BK926.out (by decide); intro e_; exact h_ (by rw [e_]; rfl)) _; (with_reducible repeat (first | refine blk_drewN ?_ _ | refine blk_drew ?_ | refine blk_alloc ?_ _)); exact BK926.out⟩, ⟨by repeat (first | (with_reducible first | exact HB.out | apply below_alloc | apply pw_below_drewN | apply below_drew1 | refine below_set ?_ GB17.out | refine zSet ?_ (by assumption)) | exact HB.out)⟩⟩
       ·rw [if_neg c16] at H
        exact absurd H (by simp)
      ·rw [if_neg c15] at H
       exact absurd H (by simp)
     ·rw [if_neg c11] at H
      have c11b0 : decide (x17_1 < (y927.length : Int)) = false := decide_eq_false c11
      (try rw [hl7_1] at c11b0)
      clear c11
      obtain ⟨t934, A21, H⟩ := zD H
      obtain rfl := Option.some.inj H
      go_wp2_with (first | ((with_reducible refine gate_callee (f := 124) rfl ?_); refine gL (some 33) Try.func124 #[.slice Ao10 x7_1.length co10] ?_; (with_reducible refine (polynomial_trimmed_int.calls k1 (fun k_ => some k_ = (.slice Ao10 x7_1.length co10 : Value).ownBlock) _ _ x7_1 t934 _ ?side1 A21.out).mono ?_); (case side1 => exact Kd.R_V (Kd.R_tight rfl (Kd.R_types (HO_7.out) BK926.out (by decide)))); rintro e w22 ⟨v935, rfl, ho0, hb⟩; refine ⟨_, rfl, ?_⟩; have HO936 := Aside0.mk (Kd.R_lower (Kd.R_new' (Kd.R_mono (ok' := fun k_ => True) ho0 (fun _ hk_ => trivial)) (Kd.R_lt (zO HO_7))) (below_size zB)); replace HO_7 := Aside0.mk (Kd.R_elder' (zO HO_7) (Kd.R_base ho0) hb); replace BK926 := bB BK926 hb; replace HB := bS hb; (try clear hb); (try clear ho0)))
      go_ret
      exact ⟨_, by first | rfl | (simp [errW_none, errW_some] <;> rfl) | (simp only [← hji4]; first | rfl | (simp [errW_none, errW_some] <;> rfl)) | (simp [*, errW_none, errW_some] <;> rfl), by (with_reducible repeat (first | apply Kd.R_alloc | apply Kd.R_drewN | apply Kd.R_drew)); exact Kd.R_mono HO936.out (fun _ hk => trivial), zB⟩
  ·rw [if_neg c6] at H
   exact absurd H (by simp)
 ·rw [if_neg c5] at H
  exact absurd H (by simp)
/-! ### polynomial_scaled: function 117 -/
def polynomial_scaled.l0 : Nat → Int → List Int → List Int → Int → Int → Int → Int → Int → Option (List Int)
 | 0, _, _, _, _, _, _, _, _ => none
 | k + 1, x2, x7, x13, x14, x15, x938000, x938001, x938002 => if x15 < x14 then (if 0 ≤ x15 then (if x15 < (x13.length : Int) then ((polynomial_mul.f k x938000 x938001 x938002 (rd x13 x15) x2).bind fun t942 => (if x15 < (x7.length : Int) then (polynomial_scaled.l0 k x2 (x7.set (x15 : Int).toNat t942) x13 x14 (wrap64 (x15 + 1)) x938000 x938001 x938002) else (none))) else (none)) else (none)) else ((polynomial_trimmed_int.f k x7).bind fun t944 => (some t944))
def polynomial_scaled.f (k : Nat) (a0_0 : Int) (a0_1 : Int) (a0_2 : Int) (l1 : List Int) (a2 : Int) : Option (List Int) := if 0 ≤ (l1.length : Int) then (if ((l1.length : Int) : Int).toNat ≤ 35184372088832 then (polynomial_scaled.l0 k a2 (List.replicate ((l1.length : Int) : Int).toNat 0) l1 (l1.length : Int) 0 a0_0 a0_1 a0_2) else (none)) else (none)
theorem polynomial_scaled.mono_l : ∀ k, (∀ y0 y1 y2 y3 y4 y5 y6 y7, LeO (polynomial_scaled.l0 k y0 y1 y2 y3 y4 y5 y6 y7) (polynomial_scaled.l0 (k + 1) y0 y1 y2 y3 y4 y5 y6 y7))
 | 0 => fun _ _ _ _ _ _ _ _ r h => by simp [polynomial_scaled.l0] at h
 | k + 1 => by
  have ih0 := polynomial_scaled.mono_l k
  ·intro y0 y1 y2 y3 y4 y5 y6 y7
   unfold polynomial_scaled.l0
   have m0_ := @polynomial_mul.mono
   have m1_ := @polynomial_trimmed_int.mono
   exact zMo
theorem polynomial_scaled.mono : ∀ a0 a1 a2 a3 a4 k, LeO (polynomial_scaled.f k a0 a1 a2 a3 a4) (polynomial_scaled.f (k + 1) a0 a1 a2 a3 a4) := by
 intro a0 a1 a2 a3 a4 k
 have ih0 := polynomial_scaled.mono_l k
 unfold polynomial_scaled.f
 have m0_ := @polynomial_mul.mono
 have m1_ := @polynomial_trimmed_int.mono
 exact zMo
theorem polynomial_scaled.calls (k : Nat) (a0_0 : Int) (a0_1 : Int) (a0_2 : Int) (A1 : Option Addr) (c1 : Nat) (l1 : List Int) (a2 : Int) (r : List Int) (w : World) (hr1 : Kd.C (Kd.int .i64) w A1 l1.length l1) (hc1 : l1.length ≤ c1) (h : polynomial_scaled.f k a0_0 a0_1 a0_2 l1 a2 = some r) :
  Calls Try.prog 117 #[.agg #[.int .i64 a0_0, .int .i64 a0_1, .int .i64 a0_2], .slice A1 l1.length c1, .int .i64 a2] w fun e w' => ∃ v0_ : Value, e = .returned (v0_) ∧ Kd.R (Kd.int .i64) 3 w' w.heap.size (fun _ => True) v0_ r ∧ Below w.heap.size w w' := by
 have hu23 := Try.underlying23
 have HR1 := Aside0.mk hr1
 have HC1 := Aside0.mk hc1
 clear hr1 hc1
 have HB := Aside0.mk (Below.refl w.heap.size w)
 have H := h
 unfold polynomial_scaled.f at H
 clear h
 by_cases c4 : 0 ≤ (l1.length : Int)
 ·rw [if_pos c4] at H
  have c4b0 := eq_true c4
  have c4b1 : decide (0 ≤ (l1.length : Int)) = true := decide_eq_true c4
  clear c4
  by_cases c5 : ((l1.length : Int) : Int).toNat ≤ 35184372088832
  ·rw [if_pos c5] at H
   have c5b0 := eq_true c5
   have c5b1 : decide (((l1.length : Int) : Int).toNat ≤ 35184372088832) = true := decide_eq_true c5
   clear c5
   obtain ⟨y938, hy938⟩ : ∃ y_ : List Int, y_ = (List.replicate ((l1.length : Int) : Int).toNat 0) := ⟨_, rfl⟩
   replace H : (polynomial_scaled.l0 k a2 y938 l1 (l1.length : Int) 0 a0_0 a0_1 a0_2) = some r := by first | (rw [hy938]; with_reducible exact H) | (have H2_ := (Option.bind_some _ _).symm.trans H; rw [hy938]; with_reducible exact H2_) | (have H2_ := (Option.bind_some _ _).symm.trans H; with_reducible exact H2_) | with_reducible exact H | (rw [hy938]; exact H) | exact H
   have Ny938 := Aside0.mk hy938
   clear hy938
   have H' := zA H
   clear H
   go_enter Try.func117, Try.ntmps117
   go_wp2_with (first | ((with_reducible refine gate_dst (N := 3) rfl ?_); refine zBox 3 #[.int .i64 a0_0, .int .i64 a0_1, .int .i64 a0_2] 23 ?_; clear HB; intro gb937 w6 BK937 GE937 HB) | ((with_reducible refine gate_dst (N := 12) rfl ?_); refine Kd.R_make (Kd.int .i64) _ 3 rfl (N := 12) rfl 45 _ _ rfl (l1.length : Int) rfl rfl Try.underlying45 (.int .i64 0) 8 info3 rfl (by decide) (by omega) 0 (ok := fun _ => True) (okp := fun _ => True) rfl (fun _ hk => hk) trivial (of_decide_eq_true (by first | (with_reducible assumption) | assumption)) (Nat.le_trans (Nat.mul_le_mul_right _ (of_decide_eq_true (by first | (with_reducible assumption) | assumption) : (l1.length : Int).toNat ≤ 35184372088832)) (by omega)) (Below.refl _ _) (Nat.le_refl _) ?_; intro v939 w7 ho8 hb hg_ hnew_; clear hg_ hnew_; (first | rw [← Ny938.out] at ho8 | (simp only [Int.reduceToNat] at ho8; rw [← Ny938.out] at ho8)); have HO940 := Aside0.mk (Kd.R_lower ho8 (below_size zB)); replace BK937 := bB BK937 hb; replace HB := bS hb; clear hb ho8))
   go_loopg [15] k (fun kq v15 w' => ∃ (x7_1 : List Int) (x15_1 : Int), v15 = .int .i64 x15_1 ∧ Aside0 (polynomial_scaled.l0 kq a2 x7_1 l1 (l1.length : Int) x15_1 a0_0 a0_1 a0_2 = some r) ∧ Aside0 (kq ≤ k) ∧ Aside0 (Kd.R (Kd.int .i64) 3 w' w.heap.size (fun _ => True) v939 x7_1) ∧ Aside0 (w'.heap[gb937]? = some (.cells #[.int .i64 a0_0, .int .i64 a0_1, .int .i64 a0_2] 23 (0, 0))) ∧ Aside0 (Below w.heap.size w w'))
   case atStart => exact ⟨(y938), (0), zR, H', ⟨Nat.le_refl _⟩, ⟨zO HO940⟩, ⟨zK BK937⟩, ⟨zB⟩⟩
   case round =>
    clear H'
    try clear c1
    try clear p2
    try clear c4
    try clear c4b0
    try clear c4b1
    try clear c5
    try clear c5b0
    try clear c5b1
    obtain ⟨x7_1, x15_1, rfl, HA, HK1, HO_7, BK937, HB⟩ := hrel
    cases gk with
    | zero => exact absurd HA.out (by simp [polynomial_scaled.l0])
    | succ k1 =>
     have H := HA.out
     clear HA
     simp only [polynomial_scaled.l0] at H
     by_cases c9 : x15_1 < (l1.length : Int)
     ·rw [if_pos c9] at H
      have c9b0 : decide (x15_1 < (l1.length : Int)) = true := decide_eq_true c9
      clear c9
      by_cases c10 : 0 ≤ x15_1
      ·rw [if_pos c10] at H
       have c10b0 : decide (0 ≤ x15_1) = true := decide_eq_true c10
       clear c10
       by_cases c11 : x15_1 < (l1.length : Int)
       ·rw [if_pos c11] at H
        have c11b0 : decide (x15_1 < (l1.length : Int)) = true := decide_eq_true c11
        clear c11
        obtain ⟨t942, A12, H⟩ := zD H
        by_cases c13 : x15_1 < (x7_1.length : Int)
        ·rw [if_pos c13] at H
         have c13b0 : decide (x15_1 < (x7_1.length : Int)) = true := decide_eq_true c13
         clear c13
         obtain ⟨y943, hy943⟩ : ∃ y_ : List Int, y_ = (x7_1.set (x15_1 : Int).toNat t942) := ⟨_, rfl⟩
         replace H : (polynomial_scaled.l0 k1 a2 y943 l1 (l1.length : Int) (wrap64 (x15_1 + 1)) a0_0 a0_1 a0_2) = some r := by first | (rw [hy943]; with_reducible exact H) | (have H2_ := (Option.bind_some _ _).symm.trans H; rw [hy943]; with_reducible exact H2_) | (have H2_ := (Option.bind_some _ _).symm.trans H; with_reducible exact H2_) | with_reducible exact H | (rw [hy943]; exact H) | exact H
         have Ny943 := Aside0.mk hy943
         clear hy943
         have H' := zA H
         clear H
         have p941 : 0 ≤ (x15_1 : Int) := of_decide_eq_true (by first | (with_reducible assumption) | assumption)
         have q941 : x15_1 < (l1.length : Int) := of_decide_eq_true (by first | (with_reducible assumption) | assumption)
         obtain ⟨ad941, e941, hx941_0⟩ := Kd.at_int HR1.out x15_1 p941 q941
         cases e941
         replace hx941_0 := (HB.out.cell (World.block_lt_of_cell? w _ hx941_0)).trans hx941_0
         replace p941 := eq_true p941
         replace q941 := eq_true q941
         (try clear z937_0 z937_1 z937_2 f937_0 f937_1 f937_2)
         obtain ⟨z937_0, z937_1, z937_2, f937_0, f937_1, f937_2⟩ := cz3 BK937
         go_wp2_with (first | ((with_reducible refine gate_callee (f := 114) rfl ?_); refine gL (some 25) Try.func114 #[.agg #[.int .i64 a0_0, .int .i64 a0_1, .int .i64 a0_2], .int .i64 (rd l1 x15_1), .int .i64 a2] ?_; (with_reducible refine zCall (polynomial_mul.calls k1 a0_0 a0_1 a0_2 (rd l1 x15_1) a2 t942 _ A12.out) ?_); intro w16 hb; replace HO_7 := Aside0.mk (Kd.R_below (zO HO_7) hb); replace BK937 := bB BK937 hb; replace HB := bS hb; (try clear hb); have p14 : 0 ≤ (x15_1 : Int) := of_decide_eq_true (by first | (with_reducible assumption) | assumption); have q14 : (x15_1 : Int) < ((x7_1.length : Int) : Int) := of_decide_eq_true (by first | (with_reducible assumption) | assumption); obtain ⟨go14, co14, eo14, gb14, gl14, cl14, HG14⟩ := Kd.R_form HO_7.out (by omega); (first | cases eo14 | (injection eo14 with ea_ en_ ec_; (first | subst ea_ | (injection ea_ with ea_; subst ea_)); subst ec_; clear en_)); have GB14 := Aside0.mk gb14; have GG14 := Aside0.mk HG14; clear gb14 gl14 HG14; obtain ⟨hx14_0, hf14_0⟩ := Kd.R_celln 0 HO_7.out (x15_1 : Int) p14 q14; replace p14 := eq_true p14; replace q14 := eq_true q14; obtain ⟨hy17_, hz17_⟩ := Kd.R_celln 0 HO_7.out (x15_1 : Int) (of_decide_eq_true (by first | (with_reducible assumption) | assumption)) (of_decide_eq_true (by first | (with_reducible assumption) | assumption)); have HP17 := Kd.R_putg HO_7.out (x15_1 : Int) t942) | ((with_reducible refine gate_store (t := 3) (p := 26) rfl ?_); refine store_event (t := 3) (p := 26) (v := ?vo_w18) (w1 := (w16.setCell ⟨go14, (x15_1 : Int).toNat, none⟩ (.int .i64 t942))) ?hg ?ho ?hn ?hr ?_; (case ho => rfl); (case hg => rfl); (case hn => rfl); (case hr => first | (go_simp; done) | (go_simp; rfl)); intro w18 hw; have hg : w16.grownBy w18 (some go14) := (by rw [hw]; exact HP17.2); have hp_ : Kd.R (Kd.int .i64) 3 w18 w.heap.size (fun _ => True) (.slice (some ⟨go14, 0, none⟩) x7_1.length co14) y943 := (by rw [hw, Ny943.out]; exact HP17.1); clear HP17; replace BK937 := Aside0.mk (blk_grown (g := gb937) (o := .cells #[.int .i64 a0_0, .int .i64 a0_1, .int .i64 a0_2] 23 (0, 0)) (zK BK937) hg (Kd.R_ne HO_7.out BK937.out (by decide))); replace HO_7 := Aside0.mk (hp_); replace HB := Aside0.mk ((by rw [hw]; exact below_set (HB.out) GB14.out : Below w.heap.size w w18)); clear hg hw hp_))
         go_roundg k1
         case measure => have := HK1.out; omega
         case rel => exact ⟨(y943), (wrap64 (x15_1 + 1)), zR, H', zH, ⟨zO HO_7⟩, ⟨zK BK937⟩, ⟨zB⟩⟩
        ·rw [if_neg c13] at H
         exact absurd H (by simp)
       ·rw [if_neg c11] at H
        exact absurd H (by simp)
      ·rw [if_neg c10] at H
       exact absurd H (by simp)
     ·rw [if_neg c9] at H
      have c9b0 : decide (x15_1 < (l1.length : Int)) = false := decide_eq_false c9
      clear c9
      obtain ⟨t944, A19, H⟩ := zD H
      obtain rfl := Option.some.inj H
      obtain ⟨Ao20, co20, eo20⟩ := Kd.R_slice HO_7.out
      subst eo20
      go_wp2_with (first | ((with_reducible refine gate_callee (f := 124) rfl ?_); refine gL (some 29) Try.func124 #[.slice Ao20 x7_1.length co20] ?_; (with_reducible refine (polynomial_trimmed_int.calls k1 (fun k_ => some k_ = (.slice Ao20 x7_1.length co20 : Value).ownBlock) _ _ x7_1 t944 _ ?side1 A19.out).mono ?_); (case side1 => exact Kd.R_V (Kd.R_tight rfl (Kd.R_types (HO_7.out) BK937.out (by decide)))); rintro e w21 ⟨v945, rfl, ho0, hb⟩; refine ⟨_, rfl, ?_⟩; have HO946 := Aside0.mk (Kd.R_lower (Kd.R_new' (Kd.R_mono (ok' := fun k_ => True) ho0 (fun _ hk_ => trivial)) (Kd.R_lt (zO HO_7))) (below_size zB)); replace HO_7 := Aside0.mk (Kd.R_elder' (zO HO_7) (Kd.R_base ho0) hb); replace BK937 := bB BK937 hb; replace HB := bS hb; (try clear hb); (try clear ho0)))
      go_ret
      exact ⟨_, zE, by (with_reducible repeat (first | apply Kd.R_alloc | apply Kd.R_drewN | apply Kd.R_drew)); exact Kd.R_mono HO946.out (fun _ hk => trivial), zB⟩
  ·rw [if_neg c5] at H
   exact absurd H (by simp)
 ·rw [if_neg c4] at H
  exact absurd H (by simp)
end Go.Proofs.Ytlhaclammaaabaa.Pg
