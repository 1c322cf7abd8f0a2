-- Written by a program of this session over the print of the kit.
import Derived.Test.YtlhaclammaaabaaY
import Derived.Test.YtlhaclammaaabaaB1
namespace Go.Proofs.Ytlhaclammaaabaa.Pg
open Go.RowKit Go.Proofs.YtlhaclammaaabaaW.PrintWords Go.Proofs.YtlhaclammaaabaaW.PrintLast Go.Proofs.YtlhaclammaaabaaW.PrintMore
attribute [local go_sem] max2_int min2_int max_two min_two max_three min_three max_four min_four
set_option linter.unusedVariables false
set_option maxHeartbeats 8000000
set_option maxRecDepth 100000
set_option linter.unusedSimpArgs false
/-! ### barscanref05_Derive: function 80 -/
mutual
def barscanref05_Derive.l0 : Nat → List Int → List Int → Int → Int → Int → Int → Option (List Int × Int)
 | 0, _, _, _, _, _, _ => none
 | k + 1, x1, x6, x7, x1793000, x1793001, x1793002 => if x7 < (x1.length : Int) then (barscanref05_Derive.l1 k x1 x6 x7 0 0 x1793000 x1793001 x1793002) else ((barscanref05_Trim.f k x6).bind fun t1794 => (some (t1794, 0)))
def barscanref05_Derive.l1 : Nat → List Int → List Int → Int → Int → Int → Int → Int → Int → Option (List Int × Int)
 | 0, _, _, _, _, _, _, _, _ => none
 | k + 1, x1, x6, x7, x8, x9, x1793000, x1793001, x1793002 => if x1793000 = 0 then (none) else (if x9 < (Int.tmod x7 x1793000) then (if 0 ≤ x7 then (if x7 < (x1.length : Int) then ((barscanref05_plus.f x1793000 x1793001 x1793002 x8 (rd x1 x7)).bind fun t1798 => (barscanref05_Derive.l1 k x1 x6 x7 t1798 (wrap64 (x9 + 1)) x1793000 x1793001 x1793002)) else (none)) else (none)) else (if x6.length < 17592186044416 then (barscanref05_Derive.l0 k x1 (x6 ++ [x8]) (wrap64 (x7 + 1)) x1793000 x1793001 x1793002) else (none)))
end
def barscanref05_Derive.f (k : Nat) (a0_0 : Int) (a0_1 : Int) (a0_2 : Int) (l1 : List Int) : Option (List Int × Int) := (barscanref05_Valid.f k a0_0 a0_1 a0_2 l1).bind fun t1793 => (if t1793 = true then (barscanref05_Derive.l0 k l1 ([] : List Int) 1 a0_0 a0_1 a0_2) else (some (([] : List Int), 1)))
theorem barscanref05_Derive.mono_l : ∀ k, (∀ y0 y1 y2 y3 y4 y5, LeO (barscanref05_Derive.l0 k y0 y1 y2 y3 y4 y5) (barscanref05_Derive.l0 (k + 1) y0 y1 y2 y3 y4 y5)) ∧ (∀ y0 y1 y2 y3 y4 y5 y6 y7, LeO (barscanref05_Derive.l1 k y0 y1 y2 y3 y4 y5 y6 y7) (barscanref05_Derive.l1 (k + 1) y0 y1 y2 y3 y4 y5 y6 y7))
 | 0 => ⟨fun _ _ _ _ _ _ r h => by simp [barscanref05_Derive.l0] at h, fun _ _ _ _ _ _ _ _ r h => by simp [barscanref05_Derive.l1] at h⟩
 | k + 1 => by
  obtain ⟨ih0, ih1⟩ := barscanref05_Derive.mono_l k
  refine ⟨?_, ?_⟩
  ·intro y0 y1 y2 y3 y4 y5
   unfold barscanref05_Derive.l0
   have m0_ := @barscanref05_Trim.mono
   have m1_ := @barscanref05_Valid.mono
   exact zMo
  ·intro y0 y1 y2 y3 y4 y5 y6 y7
   unfold barscanref05_Derive.l1
   have m0_ := @barscanref05_Trim.mono
   have m1_ := @barscanref05_Valid.mono
   exact zMo
theorem barscanref05_Derive.mono : ∀ a0 a1 a2 a3 k, LeO (barscanref05_Derive.f k a0 a1 a2 a3) (barscanref05_Derive.f (k + 1) a0 a1 a2 a3) := by
 intro a0 a1 a2 a3 k
 obtain ⟨ih0, ih1⟩ := barscanref05_Derive.mono_l k
 unfold barscanref05_Derive.f
 have m0_ := @barscanref05_Trim.mono
 have m1_ := @barscanref05_Valid.mono
 exact zMo
def barscanref05_Derive.T11 : Bool × List (List Nat × List Nat) := (true, [([], []), ([], []), ([], []), ([], []), ([2, 3], [2, 3]), ([4], [4]), ([0, 1, 5], [0, 1, 5]), ([6, 6, 0, 1, 2, 3, 4, 5, 6], [1, 6])])
def barscanref05_Derive.B11 : List Nat := [0, 0, 0, 0, 12, 28, 63, 127]
theorem barscanref05_Derive.tab11 : rtab .any (opsOf Try.f80 11) = barscanref05_Derive.T11 := by kernel_rfl
theorem barscanref05_Derive.bits11 : waitsOk barscanref05_Derive.T11.2 barscanref05_Derive.B11 = true := by kernel_rfl
theorem barscanref05_Derive.calls (k : Nat) (a0_0 : Int) (a0_1 : Int) (a0_2 : Int) (A1 : Option Addr) (c1 : Nat) (l1 : List Int) (r1 : List Int) (r2 : Int) (w : World) (hr1 : Kd.C (Kd.int .i64) w A1 l1.length l1) (hc1 : l1.length ≤ c1) (h : barscanref05_Derive.f k a0_0 a0_1 a0_2 l1 = some (r1, r2)) :
  Calls Try.prog 80 #[.agg #[.int .i64 a0_0, .int .i64 a0_1, .int .i64 a0_2], .slice A1 l1.length c1] w fun e w' => ∃ v0_ : Value, e = .returned (.tuple #[v0_, .int .i64 r2]) ∧ Kd.R (Kd.int .i64) 3 w' w.heap.size (fun _ => True) v0_ r1 ∧ Below w.heap.size w w' := by
 have hu23 := Try.underlying23
 have HR1 := Aside0.mk hr1
 have HC1 := Aside0.mk hc1
 clear hr1 hc1
 have HB := Aside0.mk (Below.refl w.heap.size w)
 have H := h
 unfold barscanref05_Derive.f at H
 clear h
 obtain ⟨t1793, A3, H⟩ := zD H
 by_cases c4 : t1793 = true
 ·subst c4
  rw [if_pos rfl] at H
  have H' := zA H
  clear H
  go_enter Try.func80, Try.ntmps80
  go_wp2_with (first | ((with_reducible refine gate_dst (N := 2) rfl ?_); refine zBox 2 #[.int .i64 a0_0, .int .i64 a0_1, .int .i64 a0_2] 23 ?_; clear HB; intro gb1792 w5 BK1792 GE1792 HB; (try clear z1792_0 z1792_1 z1792_2 f1792_0 f1792_1 f1792_2); obtain ⟨z1792_0, z1792_1, z1792_2, f1792_0, f1792_1, f1792_2⟩ := cz3 BK1792) | ((with_reducible refine gate_callee (f := 82) rfl ?_); refine gL (some 12) Try.func82 #[.agg #[.int .i64 a0_0, .int .i64 a0_1, .int .i64 a0_2], .slice A1 l1.length c1] ?_; (with_reducible refine zCall (barscanref05_Valid.calls k a0_0 a0_1 a0_2 _ _ l1 true _ ?side1 ?side2 A3.out) ?_); (case side1 => exact zN HR1); (case side2 => exact HC1.out); intro w7 hb; replace BK1792 := bB BK1792 hb; replace HB := bS hb; (try clear hb)))
  go_loopg [6, 7] k (fun kq v6 v7 w' => ∃ (x6_1 : List Int) (x7_1 : Int), v7 = .int .i64 x7_1 ∧ Aside0 (barscanref05_Derive.l0 kq l1 x6_1 x7_1 a0_0 a0_1 a0_2 = some (r1, r2)) ∧ Aside0 (kq ≤ k) ∧ Aside0 (Kd.R (Kd.int .i64) 3 w' w.heap.size (fun _ => True) v6 x6_1) ∧ Aside0 (w'.heap[gb1792]? = some (.cells #[.int .i64 a0_0, .int .i64 a0_1, .int .i64 a0_2] 23 (0, 0))) ∧ Aside0 (Below w.heap.size w w'))
  case atStart => exact ⟨(([] : List Int)), (1), zR, H', ⟨Nat.le_refl _⟩, ⟨by first | exact Kd.R_nil _ _ _ _ _ | exact Kd.N_nil _ _ _ _ _ | exact Kd.V_nil _ _ _ _ _ | exact Kd.Q_nil _ _ _ _ _ | exact Kd.S_nil _ _ _ _ _⟩, ⟨zK BK1792⟩, ⟨zB⟩⟩
  case round =>
   clear H'
   try clear c1
   try clear p2
   try clear c4
   try clear z1792_0 z1792_1 z1792_2 f1792_0 f1792_1 f1792_2
   obtain ⟨x6_1, x7_1, rfl, HA, HK1, HO_6, BK1792, HB⟩ := hrel
   cases gk with
   | zero => exact absurd HA.out (by simp [barscanref05_Derive.l0])
   | succ k1 =>
    have H := HA.out
    clear HA
    simp only [barscanref05_Derive.l0] at H
    by_cases c8 : x7_1 < (l1.length : Int)
    ·rw [if_pos c8] at H
     have c8b0 : decide (x7_1 < (l1.length : Int)) = true := decide_eq_true c8
     clear c8
     have H' := zA H
     clear H
     go_wp2
     go_loopg [8, 9] k1 (fun kq v8 v9 w' => ∃ (x8_2 : Int) (x9_2 : Int), v8 = .int .i64 x8_2 ∧ v9 = .int .i64 x9_2 ∧ Aside0 (barscanref05_Derive.l1 kq l1 x6_1 x7_1 x8_2 x9_2 a0_0 a0_1 a0_2 = some (r1, r2)) ∧ Aside0 (kq ≤ k1) ∧ Aside0 (Kd.R (Kd.int .i64) 3 w' w.heap.size (fun _ => True) u6 x6_1) ∧ Aside0 (w'.heap[gb1792]? = some (.cells #[.int .i64 a0_0, .int .i64 a0_1, .int .i64 a0_2] 23 (0, 0))) ∧ Aside0 (Below w.heap.size w w'))
     case atStart => exact ⟨(0), (0), zR, zR, H', ⟨Nat.le_refl _⟩, ⟨zO HO_6⟩, ⟨zK BK1792⟩, ⟨zB⟩⟩
     case round =>
      clear H'
      try clear c1
      try clear p2
      try clear c4
      try clear c8
      try clear c8b0
      try clear z1792_0 z1792_1 z1792_2 f1792_0 f1792_1 f1792_2
      try clear p2
      obtain ⟨x8_2, x9_2, rfl, rfl, HA, HK2, HO_6, BK1792, HB⟩ := hrel
      cases gk with
      | zero => exact absurd HA.out (by simp [barscanref05_Derive.l1])
      | succ k2 =>
       have H := HA.out
       clear HA
       simp only [barscanref05_Derive.l1] at H
       by_cases c9 : a0_0 = 0
       ·rw [if_pos c9] at H
        exact absurd H (by simp)
       ·rw [if_neg c9] at H
        have c9b0 := beq_eq_false_iff_ne.mpr c9
        have c9b1 := bne_iff_ne.mpr c9
        by_cases c10 : x9_2 < (Int.tmod x7_1 a0_0)
        ·rw [if_pos c10] at H
         have c10b0 : decide (x9_2 < (Int.tmod x7_1 a0_0)) = true := decide_eq_true c10
         clear c10
         by_cases c11 : 0 ≤ x7_1
         ·rw [if_pos c11] at H
          have c11b0 : decide (0 ≤ x7_1) = true := decide_eq_true c11
          clear c11
          by_cases c12 : x7_1 < (l1.length : Int)
          ·rw [if_pos c12] at H
           have c12b0 : decide (x7_1 < (l1.length : Int)) = true := decide_eq_true c12
           clear c12
           obtain ⟨t1798, A13, H⟩ := zD H
           have H' := zA H
           clear H
           (try clear z1792_0 z1792_1 z1792_2 f1792_0 f1792_1 f1792_2)
           obtain ⟨z1792_0, z1792_1, z1792_2, f1792_0, f1792_1, f1792_2⟩ := cz3 BK1792
           try go_wp2
           replace HO_6 := Aside0.mk (Kd.R_drew HO_6.out)
           replace BK1792 := Aside0.mk (blk_drew BK1792.out)
           replace HB := Aside0.mk (below_drew1 HB.out)
           have p1797 : 0 ≤ (x7_1 : Int) := of_decide_eq_true (by first | (with_reducible assumption) | assumption)
           have q1797 : x7_1 < (l1.length : Int) := of_decide_eq_true (by first | (with_reducible assumption) | assumption)
           obtain ⟨ad1797, e1797, hx1797_0⟩ := Kd.at_int HR1.out x7_1 p1797 q1797
           have hw1797_0 := hx1797_0
           cases e1797
           replace hx1797_0 := (HB.out.cell (World.block_lt_of_cell? w _ hx1797_0)).trans hx1797_0
           replace p1797 := eq_true p1797
           replace q1797 := eq_true q1797
           refine start_ (n := 8) (S := fun w' => w'.cell? ⟨gb1792, 0, none⟩ = some (.int .i64 a0_0) ∧ w'.cell? ⟨gb1792, 1, none⟩ = some (.int .i64 a0_1) ∧ w'.cell? ⟨gb1792, 2, none⟩ = some (.int .i64 a0_2) ∧ w'.cell? (ad1797.add (x7_1).toNat) = some (.int .i64 (rd l1 x7_1))) (ds := []) #[false, false, false, false, false, false, false, false] (by kernel_rfl) rfl rfl ⟨(blk_cell BK1792.out 0).trans rfl, (blk_cell BK1792.out 1).trans rfl, (blk_cell BK1792.out 2).trans rfl, ((HB.out.cell (World.block_lt_of_cell? w _ hw1797_0)).trans hw1797_0)⟩ (fun hHeld => ?_); refine with_tabW barscanref05_Derive.tab11 barscanref05_Derive.bits11 (fun HT_ HW_ => ?_)
           generalize wr.drew = w15 at HO_6 BK1792 HB hx1797_0 hHeld ⊢
           refine pU 1 (some 29) ?_
           refine pU 2 (some 30) ?_
           refine pU 3 (some 31) ?_
           refine pU 4 (some 32) ?_
           refine tU 0 (some 28) hHeld ?_
           refine tU 5 (some 33) hHeld ?_
           refine oU 6 (some 34) (fun K hK => ?_)
           refine goes_ Try.func110 (by kernel_rfl) rfl #[.agg #[.int .i64 a0_0, .int .i64 a0_1, .int .i64 a0_2], .int .i64 x8_2, .int .i64 (rd l1 x7_1)] (by rfl) rfl rfl zM ?_
           with_reducible refine (barscanref05_plus.calls a0_0 a0_1 a0_2 x8_2 (rd l1 x7_1) t1798 _ A13.out).mono ?_
           rintro e w16 ⟨rfl, hb⟩
           refine ⟨_, rfl, ?_⟩
           replace HO_6 := Aside0.mk (Kd.R_below (zO HO_6) hb)
           replace BK1792 := bB BK1792 hb
           replace HB := bS hb
           (try clear hb)
           (try clear hb2)
           (try clear hk)
           (try clear hi)
           refine hK.out _ _ ⟨(blk_cell BK1792.out 0).trans rfl, (blk_cell BK1792.out 1).trans rfl, (blk_cell BK1792.out 2).trans rfl, ((HB.out.cell (World.block_lt_of_cell? w _ hw1797_0)).trans hw1797_0)⟩ (fun hHeld => ?_)
           clear hK K
           refine nU ?_
           refine pU 7 (some 8) ?_
           refine dU ?_
           try go_wp2
           go_roundg k2
           case measure => have := HK1.out; have := HK2.out; omega
           case rel => exact ⟨(t1798), (wrap64 (x9_2 + 1)), zR, zR, H', ⟨by have := HK1.out; have := HK2.out; omega⟩, ⟨zO HO_6⟩, ⟨zK BK1792⟩, ⟨zB⟩⟩
          ·rw [if_neg c12] at H
           exact absurd H (by simp)
         ·rw [if_neg c11] at H
          exact absurd H (by simp)
        ·rw [if_neg c10] at H
         have c10b0 : decide (x9_2 < (Int.tmod x7_1 a0_0)) = false := decide_eq_false c10
         clear c10
         by_cases c17 : x6_1.length < 17592186044416
         ·rw [if_pos c17] at H
          have LMc17 := Aside0.mk c17
          clear c17
          obtain ⟨y1799, hy1799⟩ : ∃ y_ : List Int, y_ = (x6_1 ++ [x8_2]) := ⟨_, rfl⟩
          replace H : (barscanref05_Derive.l0 k2 l1 y1799 (wrap64 (x7_1 + 1)) a0_0 a0_1 a0_2) = some (r1, r2) := by first | (rw [hy1799]; with_reducible exact H) | (have H2_ := (Option.bind_some _ _).symm.trans H; rw [hy1799]; with_reducible exact H2_) | (have H2_ := (Option.bind_some _ _).symm.trans H; with_reducible exact H2_) | with_reducible exact H | (rw [hy1799]; exact H) | exact H
          have Ny1799 := Aside0.mk hy1799
          clear hy1799
          have H' := zA H
          clear H
          (try clear z1792_0 z1792_1 z1792_2 f1792_0 f1792_1 f1792_2)
          obtain ⟨z1792_0, z1792_1, z1792_2, f1792_0, f1792_1, f1792_2⟩ := cz3 BK1792
          go_wp2_with (first | ((with_reducible refine gate_builtin (b := .append) (xs := #[.tmp 35, .tmp 37]) rfl ?_); at_builtin; refine Kd.R_append (Kd.int .i64) (w0 := w) w.heap.size rfl (.tmp 35) (.tmp 37) 45 3 (.int .i64 0) 8 rfl Try.underlying45 info3 rfl (by decide) (by omega) u6 x6_1 x8_2 [.int .i64 x8_2] (fun _ => True) (fun _ => False) rfl rfl ?aP (fun _ hk => hk.elim) ?aF ?aO ?aB ?aS ?aL ?_; (case aP => exact rfl); (case aB => exact zB); (case aF => exact (fun _ _ => trivial)); (case aO => exact (zO HO_6)); (case aS => exact (below_size zB)); (case aL => have := LMc17.out; omega); intro v1800 w19 ho hb hg hat; rw [← Ny1799.out] at ho; replace BK1792 := Aside0.mk (blk_grown (g := gb1792) (o := .cells #[.int .i64 a0_0, .int .i64 a0_1, .int .i64 a0_2] 23 (0, 0)) (zK BK1792) hg (Kd.R_ne HO_6.out BK1792.out (by decide))); replace HB := Aside0.mk (hb); have HO1801 := Aside0.mk (ho); clear HO_6; clear ho hb hg hat))
          go_roundg k2
          case measure => have := HK1.out; have := HK2.out; omega
          case rel => exact ⟨(y1799), (wrap64 (x7_1 + 1)), zR, H', ⟨by have := HK1.out; have := HK2.out; omega⟩, ⟨zO HO1801⟩, ⟨zK BK1792⟩, ⟨zB⟩⟩
         ·rw [if_neg c17] at H
          exact absurd H (by simp)
    ·rw [if_neg c8] at H
     have c8b0 : decide (x7_1 < (l1.length : Int)) = false := decide_eq_false c8
     clear c8
     obtain ⟨t1794, A20, H⟩ := zD H
     simp only [Option.some.injEq, Prod.mk.injEq] at H
     obtain ⟨rfl, rfl⟩ := H
     obtain ⟨Ao21, co21, eo21⟩ := Kd.R_slice HO_6.out
     subst eo21
     go_wp2_with (first | ((with_reducible refine gate_callee (f := 83) rfl ?_); refine gL (some 40) Try.func83 #[.slice Ao21 x6_1.length co21] ?_; (with_reducible refine (barscanref05_Trim.calls k1 _ _ x6_1 t1794 _ ?side1 ?side2 A20.out).mono ?_); (case side1 => exact zN HO_6); (case side2 => exact (Kd.R_reads' HO_6.out).2.1); rintro e w22 ⟨v1795, rfl, ho0, hb⟩; refine ⟨_, rfl, ?_⟩; have HO1796 := Aside0.mk (Kd.R_lower (Kd.R_new' ho0 (Kd.R_lt (zO HO_6))) (below_size zB)); replace HO_6 := Aside0.mk (Kd.R_elder' (zO HO_6) (Kd.R_base ho0) hb); replace BK1792 := bB BK1792 hb; replace HB := bS hb; (try clear hb); (try clear ho0)))
     go_ret2
     exact ⟨_, zE, by (with_reducible repeat (first | apply Kd.R_alloc | apply Kd.R_drewN | apply Kd.R_drew)); exact Kd.R_mono HO1796.out (fun _ hk => trivial), zB⟩
 ·replace c4 := Bool.eq_false_iff.mpr c4
  subst c4
  rw [if_neg (show ¬ (false = true) by decide)] at H
  simp only [Option.some.injEq, Prod.mk.injEq] at H
  obtain ⟨rfl, rfl⟩ := H
  go_enter Try.func80, Try.ntmps80
  go_wp2_with (first | ((with_reducible refine gate_dst (N := 2) rfl ?_); refine zBox 2 #[.int .i64 a0_0, .int .i64 a0_1, .int .i64 a0_2] 23 ?_; clear HB; intro gb1792 w23 BK1792 GE1792 HB; (try clear z1792_0 z1792_1 z1792_2 f1792_0 f1792_1 f1792_2); obtain ⟨z1792_0, z1792_1, z1792_2, f1792_0, f1792_1, f1792_2⟩ := cz3 BK1792) | ((with_reducible refine gate_callee (f := 82) rfl ?_); refine gL (some 12) Try.func82 #[.agg #[.int .i64 a0_0, .int .i64 a0_1, .int .i64 a0_2], .slice A1 l1.length c1] ?_; (with_reducible refine zCall (barscanref05_Valid.calls k a0_0 a0_1 a0_2 _ _ l1 false _ ?side1 ?side2 A3.out) ?_); (case side1 => exact zN HR1); (case side2 => exact HC1.out); intro w25 hb; replace BK1792 := bB BK1792 hb; replace HB := bS hb; (try clear hb)))
  go_ret2
  exact ⟨_, zE, by first | exact Kd.R_nil _ _ _ _ _ | exact Kd.N_nil _ _ _ _ _ | exact Kd.V_nil _ _ _ _ _ | exact Kd.Q_nil _ _ _ _ _ | exact Kd.S_nil _ _ _ _ _, zB⟩
end Go.Proofs.Ytlhaclammaaabaa.Pg
