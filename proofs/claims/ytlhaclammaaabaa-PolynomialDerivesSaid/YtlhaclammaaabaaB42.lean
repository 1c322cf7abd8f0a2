-- Written by a program of this session over the print of the kit.
import Derived.Test.YtlhaclammaaabaaY
import Derived.Test.YtlhaclammaaabaaB1
import Derived.Test.YtlhaclammaaabaaB3
namespace Go.Proofs.Ytlhaclammaaabaa.Pg
open Go.RowKit Go.Proofs.YtlhaclammaaabaaW.PrintWords Go.Proofs.YtlhaclammaaabaaW.PrintLast Go.Proofs.YtlhaclammaaabaaW.PrintMore
attribute [local go_sem] max2_int min2_int max_two min_two max_three min_three max_four min_four
set_option linter.unusedVariables false
set_option maxHeartbeats 8000000
set_option maxRecDepth 100000
set_option linter.unusedSimpArgs false
/-! ### polynomial_Derive: function 79 -/
def polynomial_Derive.l0 : Nat → List Int → List Int → Int → Int → Int → Int → Int → Option (List Int × Int)
 | 0, _, _, _, _, _, _, _ => none
 | k + 1, x6, x13, x14, x15, x1684000, x1684001, x1684002 => if x15 < x14 then (if 0 ≤ x15 then (if x15 < (x13.length : Int) then (if x15 > 0 then (if x1684000 = 0 then (none) else ((polynomial_mul.f k x1684000 x1684001 x1684002 (rd x13 x15) (Int.tmod x15 x1684000)).bind fun t1686 => (if x6.length < 17592186044416 then (polynomial_Derive.l0 k (x6 ++ [t1686]) x13 x14 (wrap64 (x15 + 1)) x1684000 x1684001 x1684002) else (none)))) else (polynomial_Derive.l0 k x6 x13 x14 (wrap64 (x15 + 1)) x1684000 x1684001 x1684002)) else (none)) else (none)) else ((polynomial_trimmed_int.f k x6).bind fun t1690 => (some (t1690, 0)))
def polynomial_Derive.f (k : Nat) (a0_0 : Int) (a0_1 : Int) (a0_2 : Int) (l1 : List Int) : Option (List Int × Int) := (polynomial_Valid.f k a0_0 a0_1 a0_2 l1).bind fun t1684 => (if t1684 = true then (polynomial_Derive.l0 k ([] : List Int) l1 (l1.length : Int) 0 a0_0 a0_1 a0_2) else (some (([] : List Int), 1)))
theorem polynomial_Derive.mono_l : ∀ k, (∀ y0 y1 y2 y3 y4 y5 y6, LeO (polynomial_Derive.l0 k y0 y1 y2 y3 y4 y5 y6) (polynomial_Derive.l0 (k + 1) y0 y1 y2 y3 y4 y5 y6))
 | 0 => fun _ _ _ _ _ _ _ r h => by simp [polynomial_Derive.l0] at h
 | k + 1 => by
  have ih0 := polynomial_Derive.mono_l k
  ·intro y0 y1 y2 y3 y4 y5 y6
   unfold polynomial_Derive.l0
   have m0_ := @polynomial_Valid.mono
   have m1_ := @polynomial_mul.mono
   have m2_ := @polynomial_trimmed_int.mono
   exact zMo
theorem polynomial_Derive.mono : ∀ a0 a1 a2 a3 k, LeO (polynomial_Derive.f k a0 a1 a2 a3) (polynomial_Derive.f (k + 1) a0 a1 a2 a3) := by
 intro a0 a1 a2 a3 k
 have ih0 := polynomial_Derive.mono_l k
 unfold polynomial_Derive.f
 have m0_ := @polynomial_Valid.mono
 have m1_ := @polynomial_mul.mono
 have m2_ := @polynomial_trimmed_int.mono
 exact zMo
def polynomial_Derive.T8 : Bool × List (List Nat × List Nat) := (true, [([], []), ([], []), ([], []), ([], []), ([], []), ([4], [4]), ([3, 5], [3, 5]), ([1, 2, 6], [1, 2, 6]), ([7], [7]), ([0, 8, 7], [0, 8]), ([9, 9, 0, 1, 2, 3, 4, 5, 6, 7, 8, 9], [0, 9])])
def polynomial_Derive.B8 : List Nat := [0, 0, 0, 0, 0, 16, 56, 126, 254, 511, 1023]
theorem polynomial_Derive.tab8 : rtab .any (opsOf Try.f79 8) = polynomial_Derive.T8 := by kernel_rfl
theorem polynomial_Derive.bits8 : waitsOk polynomial_Derive.T8.2 polynomial_Derive.B8 = true := by kernel_rfl
theorem polynomial_Derive.calls (k : Nat) (a0_0 : Int) (a0_1 : Int) (a0_2 : Int) (A1 : Option Addr) (c1 : Nat) (l1 : List Int) (r1 : List Int) (r2 : Int) (w : World) (hr1 : Kd.C (Kd.int .i64) w A1 l1.length l1) (hc1 : l1.length ≤ c1) (h : polynomial_Derive.f k a0_0 a0_1 a0_2 l1 = some (r1, r2)) :
  Calls Try.prog 79 #[.agg #[.int .i64 a0_0, .int .i64 a0_1, .int .i64 a0_2], .slice A1 l1.length c1] w fun e w' => ∃ v0_ : Value, e = .returned (.tuple #[v0_, .int .i64 r2]) ∧ Kd.R (Kd.int .i64) 3 w' w.heap.size (fun _ => True) v0_ r1 ∧ Below w.heap.size w w' := by
 have hu23 := Try.underlying23
 have HR1 := Aside0.mk hr1
 have HC1 := Aside0.mk hc1
 clear hr1 hc1
 have HB := Aside0.mk (Below.refl w.heap.size w)
 have H := h
 unfold polynomial_Derive.f at H
 clear h
 obtain ⟨t1684, A3, H⟩ := zD H
 by_cases c4 : t1684 = true
 ·subst c4
  rw [if_pos rfl] at H
  have H' := zA H
  clear H
  go_enter Try.func79, Try.ntmps79
  go_wp2_with (first | ((with_reducible refine gate_dst (N := 2) rfl ?_); refine zBox 2 #[.int .i64 a0_0, .int .i64 a0_1, .int .i64 a0_2] 23 ?_; clear HB; intro gb1683 w5 BK1683 GE1683 HB; (try clear z1683_0 z1683_1 z1683_2 f1683_0 f1683_1 f1683_2); obtain ⟨z1683_0, z1683_1, z1683_2, f1683_0, f1683_1, f1683_2⟩ := cz3 BK1683) | ((with_reducible refine gate_callee (f := 81) rfl ?_); refine gL (some 11) Try.func81 #[.agg #[.int .i64 a0_0, .int .i64 a0_1, .int .i64 a0_2], .slice A1 l1.length c1] ?_; (with_reducible refine zCall (polynomial_Valid.calls k a0_0 a0_1 a0_2 _ _ l1 true _ ?side1 ?side2 A3.out) ?_); (case side1 => exact zN HR1); (case side2 => exact HC1.out); intro w7 hb; replace BK1683 := bB BK1683 hb; replace HB := bS hb; (try clear hb)))
  go_loopg [6, 15] k (fun kq v6 v15 w' => ∃ (x6_1 : List Int) (x15_1 : Int), v15 = .int .i64 x15_1 ∧ Aside0 (polynomial_Derive.l0 kq x6_1 l1 (l1.length : Int) x15_1 a0_0 a0_1 a0_2 = some (r1, r2)) ∧ Aside0 (kq ≤ k) ∧ Aside0 (Kd.R (Kd.int .i64) 3 w' w.heap.size (fun _ => True) v6 x6_1) ∧ Aside0 (w'.heap[gb1683]? = some (.cells #[.int .i64 a0_0, .int .i64 a0_1, .int .i64 a0_2] 23 (0, 0))) ∧ Aside0 (Below w.heap.size w w'))
  case atStart => exact ⟨(([] : List Int)), (0), zR, H', ⟨Nat.le_refl _⟩, ⟨by first | exact Kd.R_nil _ _ _ _ _ | exact Kd.N_nil _ _ _ _ _ | exact Kd.V_nil _ _ _ _ _ | exact Kd.Q_nil _ _ _ _ _ | exact Kd.S_nil _ _ _ _ _⟩, ⟨zK BK1683⟩, ⟨zB⟩⟩
  case round =>
   clear H'
   try clear c1
   try clear p2
   try clear c4
   try clear c7
   try clear z1683_0 z1683_1 z1683_2 f1683_0 f1683_1 f1683_2
   obtain ⟨x6_1, x15_1, rfl, HA, HK1, HO_6, BK1683, HB⟩ := hrel
   cases gk with
   | zero => exact absurd HA.out (by simp [polynomial_Derive.l0])
   | succ k1 =>
    have H := HA.out
    clear HA
    simp only [polynomial_Derive.l0] at H
    by_cases c8 : x15_1 < (l1.length : Int)
    ·rw [if_pos c8] at H
     have c8b0 : decide (x15_1 < (l1.length : Int)) = true := decide_eq_true c8
     clear c8
     by_cases c9 : 0 ≤ x15_1
     ·rw [if_pos c9] at H
      have c9b0 : decide (0 ≤ x15_1) = true := decide_eq_true c9
      clear c9
      by_cases c10 : x15_1 < (l1.length : Int)
      ·rw [if_pos c10] at H
       have c10b0 : decide (x15_1 < (l1.length : Int)) = true := decide_eq_true c10
       clear c10
       by_cases c11 : x15_1 > 0
       ·rw [if_pos c11] at H
        have c11b0 : decide (0 < x15_1) = true := decide_eq_true c11
        clear c11
        by_cases c12 : a0_0 = 0
        ·rw [if_pos c12] at H
         exact absurd H (by simp)
        ·rw [if_neg c12] at H
         have c12b0 := beq_eq_false_iff_ne.mpr c12
         have c12b1 := bne_iff_ne.mpr c12
         obtain ⟨t1686, A13, H⟩ := zD H
         by_cases c14 : x6_1.length < 17592186044416
         ·rw [if_pos c14] at H
          have LMc14 := Aside0.mk c14
          clear c14
          obtain ⟨y1687, hy1687⟩ : ∃ y_ : List Int, y_ = (x6_1 ++ [t1686]) := ⟨_, rfl⟩
          replace H : (polynomial_Derive.l0 k1 y1687 l1 (l1.length : Int) (wrap64 (x15_1 + 1)) a0_0 a0_1 a0_2) = some (r1, r2) := by first | (rw [hy1687]; with_reducible exact H) | (have H2_ := (Option.bind_some _ _).symm.trans H; rw [hy1687]; with_reducible exact H2_) | (have H2_ := (Option.bind_some _ _).symm.trans H; with_reducible exact H2_) | with_reducible exact H | (rw [hy1687]; exact H) | exact H
          have Ny1687 := Aside0.mk hy1687
          clear hy1687
          have H' := zA H
          clear H
          have p1685 : 0 ≤ (x15_1 : Int) := of_decide_eq_true (by first | (with_reducible assumption) | assumption)
          have q1685 : x15_1 < (l1.length : Int) := of_decide_eq_true (by first | (with_reducible assumption) | assumption)
          obtain ⟨ad1685, e1685, hx1685_0⟩ := Kd.at_int HR1.out x15_1 p1685 q1685
          cases e1685
          replace hx1685_0 := (HB.out.cell (World.block_lt_of_cell? w _ hx1685_0)).trans hx1685_0
          replace p1685 := eq_true p1685
          replace q1685 := eq_true q1685
          try go_wp2
          replace HO_6 := Aside0.mk (Kd.R_drew HO_6.out)
          replace BK1683 := Aside0.mk (blk_drew BK1683.out)
          replace HB := Aside0.mk (below_drew1 HB.out)
          refine start_ (n := 11) (S := fun w' => w'.cell? ⟨gb1683, 0, none⟩ = some (.int .i64 a0_0) ∧ w'.cell? ⟨gb1683, 1, none⟩ = some (.int .i64 a0_1) ∧ w'.cell? ⟨gb1683, 2, none⟩ = some (.int .i64 a0_2)) (ds := []) #[false, false, false, false, false, false, false, false, false, false, false] (by kernel_rfl) rfl rfl zS (fun hHeld => ?_); refine with_tabW polynomial_Derive.tab8 polynomial_Derive.bits8 (fun HT_ HW_ => ?_)
          generalize wr.drew = w15 at HO_6 BK1683 HB hHeld ⊢
          refine pU 0 (some 22) ?_
          refine pU 2 (some 24) ?_
          refine pU 3 (some 25) ?_
          refine pU 4 (some 26) ?_
          refine tU 1 (some 23) hHeld ?_
          refine tU 5 (some 27) hHeld ?_
          refine pU 6 (some 28) ?_
          refine oU 7 (some 29) (fun K hK => ?_)
          refine goes_ Try.func114 (by kernel_rfl) rfl #[.agg #[.int .i64 a0_0, .int .i64 a0_1, .int .i64 a0_2], .int .i64 (rd l1 x15_1), .int .i64 (Int.tmod x15_1 a0_0)] (by rfl) rfl rfl zM ?_
          with_reducible refine (polynomial_mul.calls k1 a0_0 a0_1 a0_2 (rd l1 x15_1) (Int.tmod x15_1 a0_0) t1686 _ A13.out).mono ?_
          rintro e w16 ⟨rfl, hb⟩
          refine ⟨_, rfl, ?_⟩
          replace HO_6 := Aside0.mk (Kd.R_below (zO HO_6) hb)
          replace BK1683 := bB BK1683 hb
          replace HB := bS hb
          (try clear hb)
          (try clear hb2)
          (try clear hk)
          (try clear hi)
          refine hK.out _ _ zS (fun hHeld => ?_)
          clear hK K
          refine nU ?_
          refine oU 8 (some 30) (fun K hK => ?_)
          refine value_ (w1 := ?_) (v := ?_) (by rfl) rfl ?_ ?_
          rotate_left 2
          ·go_simp
           constructor
           ·rfl
           ·rfl
          refine hK.out _ _ ⟨(blk_cell (blk_alloc BK1683.out _) 0).trans rfl, (blk_cell (blk_alloc BK1683.out _) 1).trans rfl, (blk_cell (blk_alloc BK1683.out _) 2).trans rfl⟩ (fun hHeld => ?_)
          clear hK K
          refine nU ?_
          refine oU 9 (some 31) (fun K hK => ?_)
          refine Kd.R_append_step (Kd.int .i64) (w0 := w) w.heap.size (by rfl) (.tmp 22) (.tmp 30) 45 3 (.int .i64 0) 8 rfl Try.underlying45 info3 rfl (by decide) (by omega) u6 x6_1 t1686 [.int .i64 t1686] (fun _ => True) (fun _ => False) rfl rfl ?aP (fun _ hk => hk.elim) ?aF ?aO ?aB ?aS ?aL ?_
          (case aP => exact rfl)
          (case aB => exact zB)
          (case aF => exact (fun _ _ => trivial))
          (case aO => exact (zO HO_6))
          (case aS => exact (below_size zB))
          (case aL => have := LMc14.out; omega)
          intro v1688 w17 ho hb hg hat
          rw [← Ny1687.out] at ho
          replace BK1683 := Aside0.mk (blk_grown (g := gb1683) (o := .cells #[.int .i64 a0_0, .int .i64 a0_1, .int .i64 a0_2] 23 (0, 0)) (zK BK1683) hg (Kd.R_ne HO_6.out BK1683.out (by decide)))
          replace HB := Aside0.mk (hb)
          have HO1689 := Aside0.mk (ho)
          clear HO_6
          clear ho hb hg hat
          refine hK.out _ _ zS (fun hHeld => ?_)
          clear hK K
          refine nU ?_
          refine pU 10 (some 6) ?_
          refine dU ?_
          try go_wp2
          go_roundg k1
          case measure => have := HK1.out; omega
          case rel => exact ⟨(y1687), (wrap64 (x15_1 + 1)), zR, H', zH, ⟨zO HO1689⟩, ⟨zK BK1683⟩, ⟨zB⟩⟩
         ·rw [if_neg c14] at H
          exact absurd H (by simp)
       ·rw [if_neg c11] at H
        have c11b0 : decide (0 < x15_1) = false := decide_eq_false c11
        clear c11
        have H' := zA H
        clear H
        have p1685 : 0 ≤ (x15_1 : Int) := of_decide_eq_true (by first | (with_reducible assumption) | assumption)
        have q1685 : x15_1 < (l1.length : Int) := of_decide_eq_true (by first | (with_reducible assumption) | assumption)
        obtain ⟨ad1685, e1685, hx1685_0⟩ := Kd.at_int HR1.out x15_1 p1685 q1685
        cases e1685
        replace hx1685_0 := (HB.out.cell (World.block_lt_of_cell? w _ hx1685_0)).trans hx1685_0
        replace p1685 := eq_true p1685
        replace q1685 := eq_true q1685
        go_wp2
        go_roundg k1
        case measure => have := HK1.out; omega
        case rel => exact ⟨(x6_1), (wrap64 (x15_1 + 1)), zR, H', zH, ⟨zO HO_6⟩, ⟨zK BK1683⟩, ⟨zB⟩⟩
      ·rw [if_neg c10] at H
       exact absurd H (by simp)
     ·rw [if_neg c9] at H
      exact absurd H (by simp)
    ·rw [if_neg c8] at H
     have c8b0 : decide (x15_1 < (l1.length : Int)) = false := decide_eq_false c8
     clear c8
     obtain ⟨t1690, A18, H⟩ := zD H
     simp only [Option.some.injEq, Prod.mk.injEq] at H
     obtain ⟨rfl, rfl⟩ := H
     obtain ⟨Ao19, co19, eo19⟩ := Kd.R_slice HO_6.out
     subst eo19
     go_wp2_with (first | ((with_reducible refine gate_callee (f := 124) rfl ?_); refine gL (some 34) Try.func124 #[.slice Ao19 x6_1.length co19] ?_; (with_reducible refine (polynomial_trimmed_int.calls k1 (fun k_ => some k_ = (.slice Ao19 x6_1.length co19 : Value).ownBlock) _ _ x6_1 t1690 _ ?side1 A18.out).mono ?_); (case side1 => exact Kd.R_V (Kd.R_tight rfl (Kd.R_types (HO_6.out) BK1683.out (by decide)))); rintro e w20 ⟨v1691, rfl, ho0, hb⟩; refine ⟨_, rfl, ?_⟩; have HO1692 := Aside0.mk (Kd.R_lower (Kd.R_new' (Kd.R_mono (ok' := fun k_ => True) ho0 (fun _ hk_ => trivial)) (Kd.R_lt (zO HO_6))) (below_size zB)); replace HO_6 := Aside0.mk (Kd.R_elder' (zO HO_6) (Kd.R_base ho0) hb); replace BK1683 := bB BK1683 hb; replace HB := bS hb; (try clear hb); (try clear ho0)))
     go_ret2
     exact ⟨_, zE, by (with_reducible repeat (first | apply Kd.R_alloc | apply Kd.R_drewN | apply Kd.R_drew)); exact Kd.R_mono HO1692.out (fun _ hk => trivial), zB⟩
 ·replace c4 := Bool.eq_false_iff.mpr c4
  subst c4
  rw [if_neg (show ¬ (false = true) by decide)] at H
  simp only [Option.some.injEq, Prod.mk.injEq] at H
  obtain ⟨rfl, rfl⟩ := H
  go_enter Try.func79, Try.ntmps79
  go_wp2_with (first | ((with_reducible refine gate_dst (N := 2) rfl ?_); refine zBox 2 #[.int .i64 a0_0, .int .i64 a0_1, .int .i64 a0_2] 23 ?_; clear HB; intro gb1683 w21 BK1683 GE1683 HB; (try clear z1683_0 z1683_1 z1683_2 f1683_0 f1683_1 f1683_2); obtain ⟨z1683_0, z1683_1, z1683_2, f1683_0, f1683_1, f1683_2⟩ := cz3 BK1683) | ((with_reducible refine gate_callee (f := 81) rfl ?_); refine gL (some 11) Try.func81 #[.agg #[.int .i64 a0_0, .int .i64 a0_1, .int .i64 a0_2], .slice A1 l1.length c1] ?_; (with_reducible refine zCall (polynomial_Valid.calls k a0_0 a0_1 a0_2 _ _ l1 false _ ?side1 ?side2 A3.out) ?_); (case side1 => exact zN HR1); (case side2 => exact HC1.out); intro w23 hb; replace BK1683 := bB BK1683 hb; replace HB := bS hb; (try clear hb)))
  go_ret2
  exact ⟨_, zE, by first | exact Kd.R_nil _ _ _ _ _ | exact Kd.N_nil _ _ _ _ _ | exact Kd.V_nil _ _ _ _ _ | exact Kd.Q_nil _ _ _ _ _ | exact Kd.S_nil _ _ _ _ _, zB⟩
end Go.Proofs.Ytlhaclammaaabaa.Pg
