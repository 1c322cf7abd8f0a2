-- Written by a program of this session over the print of the kit.
import Derived.Test.YtlhaclammaaabaaY
import Derived.Test.YtlhaclammaaabaaB1
import Derived.Test.YtlhaclammaaabaaB3
import Derived.Test.YtlhaclammaaabaaHEls
namespace Go.Proofs.Ytlhaclammaaabaa.Pg
open Go.RowKit Go.Proofs.YtlhaclammaaabaaW.PrintWords Go.Proofs.YtlhaclammaaabaaW.PrintLast Go.Proofs.YtlhaclammaaabaaW.PrintMore
attribute [local go_sem] max2_int min2_int max_two min_two max_three min_three max_four min_four
set_option linter.unusedVariables false
set_option maxHeartbeats 8000000
set_option maxRecDepth 100000
set_option linter.unusedSimpArgs false
/-! ### polynomial_fromRoots: function 103 -/
def polynomial_fromRoots.l0 : Nat → List Int → List Int → Int → Int → Int → Int → Int → Option (List Int)
 | 0, _, _, _, _, _, _, _ => none
 | k + 1, x5, x9, x10, x11, x1080000, x1080001, x1080002 => if x11 < x10 then (if 0 ≤ x11 then (if x11 < (x9.length : Int) then ((polynomial_sub.f x1080000 x1080001 x1080002 0 (rd x9 x11)).bind fun t1084 => ((polynomial_product.f k x1080000 x1080001 x1080002 x5 (([t1084, 1] : List Int))).bind fun t1088 => (polynomial_fromRoots.l0 k t1088 x9 x10 (wrap64 (x11 + 1)) x1080000 x1080001 x1080002))) else (none)) else (none)) else (some x5)
def polynomial_fromRoots.f (k : Nat) (a0_0 : Int) (a0_1 : Int) (a0_2 : Int) (l1 : List Int) : Option (List Int) := polynomial_fromRoots.l0 k (([1] : List Int)) l1 (l1.length : Int) 0 a0_0 a0_1 a0_2
theorem polynomial_fromRoots.mono_l : ∀ k, (∀ y0 y1 y2 y3 y4 y5 y6, LeO (polynomial_fromRoots.l0 k y0 y1 y2 y3 y4 y5 y6) (polynomial_fromRoots.l0 (k + 1) y0 y1 y2 y3 y4 y5 y6))
 | 0 => fun _ _ _ _ _ _ _ r h => by simp [polynomial_fromRoots.l0] at h
 | k + 1 => by
  have ih0 := polynomial_fromRoots.mono_l k
  ·intro y0 y1 y2 y3 y4 y5 y6
   unfold polynomial_fromRoots.l0
   have m0_ := @polynomial_product.mono
   exact zMo
theorem polynomial_fromRoots.mono : ∀ a0 a1 a2 a3 k, LeO (polynomial_fromRoots.f k a0 a1 a2 a3) (polynomial_fromRoots.f (k + 1) a0 a1 a2 a3) := by
 intro a0 a1 a2 a3 k
 have ih0 := polynomial_fromRoots.mono_l k
 unfold polynomial_fromRoots.f
 have m0_ := @polynomial_product.mono
 exact zMo
def polynomial_fromRoots.T5 : Bool × List (List Nat × List Nat) := (true, [([], []), ([], []), ([], []), ([], []), ([2, 3], [2, 3]), ([4], [4]), ([0, 1, 5, 4], [0, 1, 5]), ([6, 6, 0, 1, 2, 3, 4, 5, 6], [1, 6])])
def polynomial_fromRoots.B5 : List Nat := [0, 0, 0, 0, 12, 28, 63, 127]
theorem polynomial_fromRoots.tab5 : rtab .any (opsOf Try.f103 5) = polynomial_fromRoots.T5 := by kernel_rfl
theorem polynomial_fromRoots.bits5 : waitsOk polynomial_fromRoots.T5.2 polynomial_fromRoots.B5 = true := by kernel_rfl
theorem polynomial_fromRoots.calls (k : Nat) (a0_0 : Int) (a0_1 : Int) (a0_2 : Int) (A1 : Option Addr) (c1 : Nat) (l1 : List Int) (r : List Int) (w : World) (hr1 : Kd.C (Kd.int .i64) w A1 l1.length l1) (hc1 : l1.length ≤ c1) (h : polynomial_fromRoots.f k a0_0 a0_1 a0_2 l1 = some r) :
  Calls Try.prog 103 #[.agg #[.int .i64 a0_0, .int .i64 a0_1, .int .i64 a0_2], .slice A1 l1.length c1] w fun e w' => ∃ v0_ : Value, e = .returned (v0_) ∧ Kd.R (Kd.int .i64) 3 w' w.heap.size (fun _ => True) v0_ r ∧ Below w.heap.size w w' := by
 have hu23 := Try.underlying23
 have HR1 := Aside0.mk hr1
 have HC1 := Aside0.mk hc1
 clear hr1 hc1
 have HB := Aside0.mk (Below.refl w.heap.size w)
 have H := h
 unfold polynomial_fromRoots.f at H
 clear h
 obtain ⟨y1080, hy1080⟩ : ∃ y_ : List Int, y_ = (([1] : List Int)) := ⟨_, rfl⟩
 replace H : (polynomial_fromRoots.l0 k y1080 l1 (l1.length : Int) 0 a0_0 a0_1 a0_2) = some r := by first | (rw [hy1080]; with_reducible exact H) | (have H2_ := (Option.bind_some _ _).symm.trans H; rw [hy1080]; with_reducible exact H2_) | (have H2_ := (Option.bind_some _ _).symm.trans H; with_reducible exact H2_) | with_reducible exact H | (rw [hy1080]; exact H) | exact H
 have Ny1080 := Aside0.mk hy1080
 clear hy1080
 have H' := zA H
 clear H
 go_enter Try.func103, Try.ntmps103
 go_wp2_with (first | ((with_reducible refine gate_dst (N := 2) rfl ?_); refine zBox 2 #[.int .i64 a0_0, .int .i64 a0_1, .int .i64 a0_2] 23 ?_; clear HB; intro gb1079 w3 BK1079 GE1079 HB) | ((with_reducible refine gate_dst (N := 8) rfl ?_); refine Kd.R_lit (Kd.int .i64) _ 3 ?hg (N := 8) ?hd (xs := ([1] : List Int)) (inner := [.int .i64 1]) (ok := fun _ => True) (okp := fun _ => True) ?hr ?hp (fun _ hk => hk) trivial (Below.refl _ _) (Nat.le_refl _) (by simp) ?_; (case hd => rfl); (case hg => rfl); (case hr => first | (go_simp; done) | (go_simp; rfl)); (case hp => exact (Reps.one (show Kd.M (Kd.int .i64) _ _ _ 1 [.int .i64 1] from rfl) (Reps.none _ _))); intro v1081 w4 ho5 hb hg_ hnew_; clear hg_ hnew_; (first | rw [← Ny1080.out] at ho5 | (simp only [Int.reduceToNat] at ho5; rw [← Ny1080.out] at ho5)); have HO1082 := Aside0.mk (Kd.R_lower ho5 (below_size zB)); replace BK1079 := bB BK1079 hb; replace HB := bS hb; clear hb ho5))
 go_loopg [5, 11] k (fun kq v5 v11 w' => ∃ (x5_1 : List Int) (x11_1 : Int), v11 = .int .i64 x11_1 ∧ Aside0 (polynomial_fromRoots.l0 kq x5_1 l1 (l1.length : Int) x11_1 a0_0 a0_1 a0_2 = some r) ∧ Aside0 (kq ≤ k) ∧ Aside0 (Kd.R (Kd.int .i64) 3 w' w.heap.size (fun _ => True) v5 x5_1) ∧ Aside0 (w'.heap[gb1079]? = some (.cells #[.int .i64 a0_0, .int .i64 a0_1, .int .i64 a0_2] 23 (0, 0))) ∧ Aside0 (Below w.heap.size w w'))
 case atStart => exact ⟨(y1080), (0), zR, H', ⟨Nat.le_refl _⟩, ⟨zO HO1082⟩, ⟨zK BK1079⟩, ⟨zB⟩⟩
 case round =>
  clear H'
  try clear c1
  try clear p2
  obtain ⟨x5_1, x11_1, rfl, HA, HK1, HO_5, BK1079, HB⟩ := hrel
  cases gk with
  | zero => exact absurd HA.out (by simp [polynomial_fromRoots.l0])
  | succ k1 =>
   have H := HA.out
   clear HA
   simp only [polynomial_fromRoots.l0] at H
   by_cases c6 : x11_1 < (l1.length : Int)
   ·rw [if_pos c6] at H
    have c6b0 : decide (x11_1 < (l1.length : Int)) = true := decide_eq_true c6
    clear c6
    by_cases c7 : 0 ≤ x11_1
    ·rw [if_pos c7] at H
     have c7b0 : decide (0 ≤ x11_1) = true := decide_eq_true c7
     clear c7
     by_cases c8 : x11_1 < (l1.length : Int)
     ·rw [if_pos c8] at H
      have c8b0 : decide (x11_1 < (l1.length : Int)) = true := decide_eq_true c8
      clear c8
      obtain ⟨t1084, A9, H⟩ := zD H
      obtain ⟨y1085, hy1085⟩ : ∃ y_ : List Int, y_ = (([t1084, 1] : List Int)) := ⟨_, rfl⟩
      replace H : ((polynomial_product.f k1 a0_0 a0_1 a0_2 x5_1 y1085).bind fun t1088 => (polynomial_fromRoots.l0 k1 t1088 l1 (l1.length : Int) (wrap64 (x11_1 + 1)) a0_0 a0_1 a0_2)) = some r := by first | (rw [hy1085]; with_reducible exact H) | (have H2_ := (Option.bind_some _ _).symm.trans H; rw [hy1085]; with_reducible exact H2_) | (have H2_ := (Option.bind_some _ _).symm.trans H; with_reducible exact H2_) | with_reducible exact H | (rw [hy1085]; exact H) | exact H
      have Ny1085 := Aside0.mk hy1085
      clear hy1085
      obtain ⟨t1088, A10, H⟩ := zD H
      have H' := zA H
      clear H
      have p1083 : 0 ≤ (x11_1 : Int) := of_decide_eq_true (by first | (with_reducible assumption) | assumption)
      have q1083 : x11_1 < (l1.length : Int) := of_decide_eq_true (by first | (with_reducible assumption) | assumption)
      obtain ⟨ad1083, e1083, hx1083_0⟩ := Kd.at_int HR1.out x11_1 p1083 q1083
      cases e1083
      replace hx1083_0 := (HB.out.cell (World.block_lt_of_cell? w _ hx1083_0)).trans hx1083_0
      replace p1083 := eq_true p1083
      replace q1083 := eq_true q1083
      try go_wp2
      replace HO_5 := Aside0.mk (Kd.R_drew HO_5.out)
      replace BK1079 := Aside0.mk (blk_drew BK1079.out)
      replace HB := Aside0.mk (below_drew1 HB.out)
      refine start_ (n := 8) (S := fun w' => w'.cell? ⟨gb1079, 0, none⟩ = some (.int .i64 a0_0) ∧ w'.cell? ⟨gb1079, 1, none⟩ = some (.int .i64 a0_1) ∧ w'.cell? ⟨gb1079, 2, none⟩ = some (.int .i64 a0_2)) (ds := []) #[false, false, false, false, false, false, false, false] (by kernel_rfl) rfl rfl zS (fun hHeld => ?_); refine with_tabW polynomial_fromRoots.tab5 polynomial_fromRoots.bits5 (fun HT_ HW_ => ?_)
      generalize wr.drew = w11 at HO_5 BK1079 HB hHeld ⊢
      refine pU 1 (some 16) ?_
      refine pU 3 (some 18) ?_
      refine tU 0 (some 15) hHeld ?_
      refine tU 2 (some 17) hHeld ?_
      refine oU 4 (some 19) (fun K hK => ?_)
      refine goes_ Try.func113 (by kernel_rfl) rfl #[.agg #[.int .i64 a0_0, .int .i64 a0_1, .int .i64 a0_2], .int .i64 0, .int .i64 (rd l1 x11_1)] (by rfl) rfl rfl zM ?_
      with_reducible refine (polynomial_sub.calls a0_0 a0_1 a0_2 0 (rd l1 x11_1) t1084 _ A9.out).mono ?_
      rintro e w12 ⟨rfl, hb⟩
      refine ⟨_, rfl, ?_⟩
      replace HO_5 := Aside0.mk (Kd.R_below (zO HO_5) hb)
      replace BK1079 := bB BK1079 hb
      replace HB := bS hb
      (try clear hb)
      (try clear hb2)
      (try clear hk)
      (try clear hi)
      refine hK.out _ _ zS (fun hHeld => ?_)
      clear hK K
      refine nU ?_
      refine oU 5 (some 20) (fun K hK => ?_)
      refine Kd.R_lit_step (Kd.int .i64) _ 3 ?hg (N := 20) ?hd (xs := ([t1084, 1] : List Int)) (inner := [.int .i64 t1084, .int .i64 1]) (ok := fun _ => True) (okp := fun _ => True) ?hr ?hp (fun _ hk => hk) trivial (Below.refl _ _) (Nat.le_refl _) (by simp) ?_; (case hd => rfl); (case hg => rfl); (case hr => first | (go_simp; done) | (go_simp; rfl)); (case hp => exact (Reps.one (show Kd.M (Kd.int .i64) _ _ _ t1084 [.int .i64 t1084] from rfl) (Reps.one (show Kd.M (Kd.int .i64) _ _ _ 1 [.int .i64 1] from rfl) (Reps.none _ _))))
      intro v1086 w13 ho14 hb hg_ hnew_
      clear hg_ hnew_
      (first | rw [← Ny1085.out] at ho14 | (simp only [Int.reduceToNat] at ho14; rw [← Ny1085.out] at ho14))
      have HO1087 := Aside0.mk (Kd.R_lower (Kd.R_new' ho14 (Kd.R_lt (zO HO_5))) (below_size zB))
      replace HO_5 := Aside0.mk (Kd.R_elder' (zO HO_5) (Kd.R_base ho14) hb)
      replace BK1079 := bB BK1079 hb
      replace HB := bS hb
      clear hb ho14
      obtain ⟨Ao15, co15, eo15⟩ := Kd.R_slice HO_5.out
      (first | subst eo15 | (injection eo15 with f1_ f2_ f3_; have f4_ := f1_.symm; have f5_ := f3_.symm; clear f1_ f2_ f3_; subst f4_; subst f5_))
      obtain ⟨Ao16, co16, eo16⟩ := Kd.R_slice HO1087.out
      (first | subst eo16 | (injection eo16 with f1_ f2_ f3_; have f4_ := f1_.symm; have f5_ := f3_.symm; clear f1_ f2_ f3_; subst f4_; subst f5_))
      refine hK.out _ _ zS (fun hHeld => ?_)
      clear hK K
      refine nU ?_
      refine oU 6 (some 21) (fun K hK => ?_)
      refine goes_ Try.func109 (by kernel_rfl) rfl #[.agg #[.int .i64 a0_0, .int .i64 a0_1, .int .i64 a0_2], .slice Ao15 x5_1.length co15, .slice Ao16 y1085.length co16] (by rfl) rfl rfl zM ?_
      with_reducible refine (polynomial_product.calls k1 a0_0 a0_1 a0_2 _ _ x5_1 _ _ y1085 t1088 _ ?side1 ?side2 ?side3 ?side4 A10.out).mono ?_
      (case side1 => exact zN HO_5)
      (case side2 => exact (Kd.R_reads' HO_5.out).2.1)
      (case side3 => exact zN HO1087)
      (case side4 => exact (Kd.R_reads' HO1087.out).2.1)
      rintro e w17 ⟨v1089, rfl, ho0, hb⟩
      refine ⟨_, rfl, ?_⟩
      have HO1090 := Aside0.mk (Kd.R_lower (Kd.R_new' (Kd.R_new' ho0 (Kd.R_lt (zO HO_5))) (Kd.R_lt (zO HO1087))) (below_size zB))
      replace HO_5 := Aside0.mk (Kd.R_elder' (zO HO_5) (Kd.R_base ho0) hb)
      replace HO1087 := Aside0.mk (Kd.R_elder' (zO HO1087) (Kd.R_base ho0) hb)
      replace BK1079 := bB BK1079 hb
      replace HB := bS hb
      (try clear hb)
      (try clear hb2)
      (try clear hk)
      (try clear hi)
      (try clear ho0)
      refine hK.out _ _ zS (fun hHeld => ?_)
      clear hK K
      refine nU ?_
      refine pU 7 (some 5) ?_
      refine dU ?_
      try go_wp2
      go_roundg k1
      case measure => have := HK1.out; omega
      case rel => exact ⟨(t1088), (wrap64 (x11_1 + 1)), zR, H', zH, ⟨by (with_reducible repeat (first | apply Kd.R_alloc | apply Kd.R_drewN | apply Kd.R_drew)); exact Kd.R_mono HO1090.out (fun _ hk => trivial)⟩, ⟨zK BK1079⟩, ⟨zB⟩⟩
     ·rw [if_neg c8] at H
      exact absurd H (by simp)
    ·rw [if_neg c7] at H
     exact absurd H (by simp)
   ·rw [if_neg c6] at H
    have c6b0 : decide (x11_1 < (l1.length : Int)) = false := decide_eq_false c6
    clear c6
    obtain rfl := Option.some.inj H
    go_wp2
    go_ret
    exact ⟨_, zE, by (with_reducible repeat (first | apply Kd.R_alloc | apply Kd.R_drewN | apply Kd.R_drew)); exact HO_5.out, zB⟩
/-! ### polynomial_FromRoots: function 50 -/
def polynomial_FromRoots.f (k : Nat) (a0_0 : Int) (a0_1 : Int) (a0_2 : Int) (l1 : List Int) : Option (List Int × Int) := (polynomial_elements.f k a0_0 a0_1 a0_2 l1).bind fun t1092 => (if t1092 = true then (if (l1.length : Int) > 4096 then (some (([] : List Int), 4)) else ((polynomial_fromRoots.f k a0_0 a0_1 a0_2 l1).bind fun t1093 => (some (t1093, 0)))) else (some (([] : List Int), 1)))
theorem polynomial_FromRoots.mono : ∀ a0 a1 a2 a3 k, LeO (polynomial_FromRoots.f k a0 a1 a2 a3) (polynomial_FromRoots.f (k + 1) a0 a1 a2 a3) := by
 intro a0 a1 a2 a3 k
 unfold polynomial_FromRoots.f
 have m0_ := @polynomial_elements.mono
 have m1_ := @polynomial_fromRoots.mono
 exact zMo
theorem polynomial_FromRoots.calls (k : Nat) (a0_0 : Int) (a0_1 : Int) (a0_2 : Int) (A1 : Option Addr) (c1 : Nat) (l1 : List Int) (r1 : List Int) (r2 : Int) (w : World) (hr1 : Kd.C (Kd.int .i64) w A1 l1.length l1) (hc1 : l1.length ≤ c1) (h : polynomial_FromRoots.f k a0_0 a0_1 a0_2 l1 = some (r1, r2)) :
  Calls Try.prog 50 #[.agg #[.int .i64 a0_0, .int .i64 a0_1, .int .i64 a0_2], .slice A1 l1.length c1] w fun e w' => ∃ v0_ : Value, e = .returned (.tuple #[v0_, .int .i64 r2]) ∧ Kd.R (Kd.int .i64) 3 w' w.heap.size (fun _ => True) v0_ r1 ∧ Below w.heap.size w w' := by
 have hu23 := Try.underlying23
 have HR1 := Aside0.mk hr1
 have HC1 := Aside0.mk hc1
 clear hr1 hc1
 have HB := Aside0.mk (Below.refl w.heap.size w)
 have H := h
 unfold polynomial_FromRoots.f at H
 clear h
 obtain ⟨t1092, A3, H⟩ := zD H
 by_cases c4 : t1092 = true
 ·subst c4
  rw [if_pos rfl] at H
  by_cases c5 : (l1.length : Int) > 4096
  ·rw [if_pos c5] at H
   have c5b0 : decide (4096 < (l1.length : Int)) = true := decide_eq_true c5
   have c5b1 : decide (4096 < l1.length) = true := decide_eq_true (by omega)
   clear c5
   simp only [Option.some.injEq, Prod.mk.injEq] at H
   obtain ⟨rfl, rfl⟩ := H
   go_enter Try.func50, Try.ntmps50
   go_wp2_with (first | ((with_reducible refine gate_dst (N := 2) rfl ?_); refine zBox 2 #[.int .i64 a0_0, .int .i64 a0_1, .int .i64 a0_2] 23 ?_; clear HB; intro gb1091 w6 BK1091 GE1091 HB; (try clear z1091_0 z1091_1 z1091_2 f1091_0 f1091_1 f1091_2); obtain ⟨z1091_0, z1091_1, z1091_2, f1091_0, f1091_1, f1091_2⟩ := cz3 BK1091) | ((with_reducible refine gate_callee (f := 102) rfl ?_); refine gL (some 9) Try.func102 #[.agg #[.int .i64 a0_0, .int .i64 a0_1, .int .i64 a0_2], .slice A1 l1.length c1] ?_; (with_reducible refine zCall (polynomial_elements.calls k a0_0 a0_1 a0_2 _ _ l1 true _ ?side1 ?side2 A3.out) ?_); (case side1 => exact zN HR1); (case side2 => exact HC1.out); intro w8 hb; replace BK1091 := bB BK1091 hb; replace HB := bS hb; (try clear hb)))
   go_ret2
   exact ⟨_, zE, by first | exact Kd.R_nil _ _ _ _ _ | exact Kd.N_nil _ _ _ _ _ | exact Kd.V_nil _ _ _ _ _ | exact Kd.Q_nil _ _ _ _ _ | exact Kd.S_nil _ _ _ _ _, zB⟩
  ·rw [if_neg c5] at H
   have c5b0 : decide (4096 < (l1.length : Int)) = false := decide_eq_false c5
   have c5b1 : decide (4096 < l1.length) = false := decide_eq_false (by omega)
   clear c5
   obtain ⟨t1093, A9, H⟩ := zD H
   simp only [Option.some.injEq, Prod.mk.injEq] at H
   obtain ⟨rfl, rfl⟩ := H
   go_enter Try.func50, Try.ntmps50
   go_wp2_with (first | ((with_reducible refine gate_dst (N := 2) rfl ?_); refine zBox 2 #[.int .i64 a0_0, .int .i64 a0_1, .int .i64 a0_2] 23 ?_; clear HB; intro gb1091 w10 BK1091 GE1091 HB; (try clear z1091_0 z1091_1 z1091_2 f1091_0 f1091_1 f1091_2); obtain ⟨z1091_0, z1091_1, z1091_2, f1091_0, f1091_1, f1091_2⟩ := cz3 BK1091) | ((with_reducible refine gate_callee (f := 102) rfl ?_); refine gL (some 9) Try.func102 #[.agg #[.int .i64 a0_0, .int .i64 a0_1, .int .i64 a0_2], .slice A1 l1.length c1] ?_; (with_reducible refine zCall (polynomial_elements.calls k a0_0 a0_1 a0_2 _ _ l1 true _ ?side1 ?side2 A3.out) ?_); (case side1 => exact zN HR1); (case side2 => exact HC1.out); intro w12 hb; replace BK1091 := bB BK1091 hb; replace HB := bS hb; (try clear hb); (try clear z1091_0 z1091_1 z1091_2 f1091_0 f1091_1 f1091_2); obtain ⟨z1091_0, z1091_1, z1091_2, f1091_0, f1091_1, f1091_2⟩ := cz3 BK1091) | ((with_reducible refine gate_callee (f := 103) rfl ?_); refine gL (some 17) Try.func103 #[.agg #[.int .i64 a0_0, .int .i64 a0_1, .int .i64 a0_2], .slice A1 l1.length c1] ?_; (with_reducible refine (polynomial_fromRoots.calls k a0_0 a0_1 a0_2 _ _ l1 t1093 _ ?side1 ?side2 A9.out).mono ?_); (case side1 => exact zN HR1); (case side2 => exact HC1.out); rintro e w14 ⟨v1094, rfl, ho0, hb⟩; refine ⟨_, rfl, ?_⟩; have HO1095 := Aside0.mk (Kd.R_lower ho0 (below_size zB)); replace BK1091 := bB BK1091 hb; replace HB := bS hb; (try clear hb); (try clear ho0)))
   go_ret2
   exact ⟨_, zE, by (with_reducible repeat (first | apply Kd.R_alloc | apply Kd.R_drewN | apply Kd.R_drew)); exact HO1095.out, zB⟩
 ·replace c4 := Bool.eq_false_iff.mpr c4
  subst c4
  rw [if_neg (show ¬ (false = true) by decide)] at H
  simp only [Option.some.injEq, Prod.mk.injEq] at H
  obtain ⟨rfl, rfl⟩ := H
  go_enter Try.func50, Try.ntmps50
  go_wp2_with (first | ((with_reducible refine gate_dst (N := 2) rfl ?_); refine zBox 2 #[.int .i64 a0_0, .int .i64 a0_1, .int .i64 a0_2] 23 ?_; clear HB; intro gb1091 w15 BK1091 GE1091 HB; (try clear z1091_0 z1091_1 z1091_2 f1091_0 f1091_1 f1091_2); obtain ⟨z1091_0, z1091_1, z1091_2, f1091_0, f1091_1, f1091_2⟩ := cz3 BK1091) | ((with_reducible refine gate_callee (f := 102) rfl ?_); refine gL (some 9) Try.func102 #[.agg #[.int .i64 a0_0, .int .i64 a0_1, .int .i64 a0_2], .slice A1 l1.length c1] ?_; (with_reducible refine zCall (polynomial_elements.calls k a0_0 a0_1 a0_2 _ _ l1 false _ ?side1 ?side2 A3.out) ?_); (case side1 => exact zN HR1); (case side2 => exact HC1.out); intro w17 hb; replace BK1091 := bB BK1091 hb; replace HB := bS hb; (try clear hb)))
  go_ret2
  exact ⟨_, zE, by first | exact Kd.R_nil _ _ _ _ _ | exact Kd.N_nil _ _ _ _ _ | exact Kd.V_nil _ _ _ _ _ | exact Kd.Q_nil _ _ _ _ _ | exact Kd.S_nil _ _ _ _ _, zB⟩
end Go.Proofs.Ytlhaclammaaabaa.Pg
