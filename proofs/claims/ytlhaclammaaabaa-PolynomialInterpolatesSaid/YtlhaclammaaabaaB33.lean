-- Written by a program of this session over the print of the kit.
import Derived.Test.YtlhaclammaaabaaY
import Derived.Test.YtlhaclammaaabaaB0
import Derived.Test.YtlhaclammaaabaaB1
import Derived.Test.YtlhaclammaaabaaB32
namespace Go.Proofs.Ytlhaclammaaabaa.Pg
open Go.RowKit Go.Proofs.YtlhaclammaaabaaW.PrintWords Go.Proofs.YtlhaclammaaabaaW.PrintLast Go.Proofs.YtlhaclammaaabaaW.PrintMore
attribute [local go_sem] max2_int min2_int max_two min_two max_three min_three max_four min_four
set_option linter.unusedVariables false
set_option maxHeartbeats 8000000
set_option maxRecDepth 100000
set_option linter.unusedSimpArgs false
/-! ### barscanref05_FromRoots: function 74 -/
mutual
def barscanref05_FromRoots.j0 : Nat → List Int → Bool → Int → Int → Int → Option (List Int × Int)
 | 0, _, _, _, _, _ => none
 | k + 1, x1, x18, x1425000, x1425001, x1425002 => if x18 = true then (some (([] : List Int), 1)) else (if (x1.length : Int) > 4096 then (some (([] : List Int), 4)) else (barscanref05_FromRoots.l0 k x1 (([1] : List Int)) 0 x1425000 x1425001 x1425002))
def barscanref05_FromRoots.l0 : Nat → List Int → List Int → Int → Int → Int → Int → Option (List Int × Int)
 | 0, _, _, _, _, _, _ => none
 | k + 1, x1, x6, x7, x1425000, x1425001, x1425002 => if x7 < (x1.length : Int) then ((some (([0] : List Int) : List Int)).bind fun y1430 => (if y1430.length + x6.length < 17592186044416 then (barscanref05_FromRoots.l1 k x1 x6 x7 (y1430 ++ x6) 0 x1425000 x1425001 x1425002) else (none))) else (some (x6, 0))
def barscanref05_FromRoots.l1 : Nat → List Int → List Int → Int → List Int → Int → Int → Int → Int → Option (List Int × Int)
 | 0, _, _, _, _, _, _, _, _ => none
 | k + 1, x1, x6, x7, x8, x9, x1425000, x1425001, x1425002 => if x9 < (x6.length : Int) then (if 0 ≤ x9 then (if x9 < (x8.length : Int) then (if 0 ≤ x7 then (if x7 < (x1.length : Int) then ((barscanref05_times.f k x1425000 x1425001 x1425002 (rd x6 x9) (rd x1 x7)).bind fun t1439 => ((barscanref05_less.f x1425000 x1425001 x1425002 (rd x8 x9) t1439).bind fun t1440 => (barscanref05_FromRoots.l1 k x1 x6 x7 (x8.set (x9 : Int).toNat t1440) (wrap64 (x9 + 1)) x1425000 x1425001 x1425002))) else (none)) else (none)) else (none)) else (none)) else (barscanref05_FromRoots.l0 k x1 x8 (wrap64 (x7 + 1)) x1425000 x1425001 x1425002)
end
def barscanref05_FromRoots.f (k : Nat) (a0_0 : Int) (a0_1 : Int) (a0_2 : Int) (l1 : List Int) : Option (List Int × Int) := (barscanref04_Valid.f k a0_0 a0_1 a0_2).bind fun t1425 => (if t1425 = true then ((barscanref05_elements.f k a0_0 a0_1 a0_2 l1).bind fun t1426 => (barscanref05_FromRoots.j0 k l1 (!t1426) a0_0 a0_1 a0_2)) else (barscanref05_FromRoots.j0 k l1 true a0_0 a0_1 a0_2))
theorem barscanref05_FromRoots.mono_l : ∀ k, (∀ y0 y1 y2 y3 y4, LeO (barscanref05_FromRoots.j0 k y0 y1 y2 y3 y4) (barscanref05_FromRoots.j0 (k + 1) y0 y1 y2 y3 y4)) ∧ (∀ y0 y1 y2 y3 y4 y5, LeO (barscanref05_FromRoots.l0 k y0 y1 y2 y3 y4 y5) (barscanref05_FromRoots.l0 (k + 1) y0 y1 y2 y3 y4 y5)) ∧ (∀ y0 y1 y2 y3 y4 y5 y6 y7, LeO (barscanref05_FromRoots.l1 k y0 y1 y2 y3 y4 y5 y6 y7) (barscanref05_FromRoots.l1 (k + 1) y0 y1 y2 y3 y4 y5 y6 y7))
 | 0 => ⟨fun _ _ _ _ _ r h => by simp [barscanref05_FromRoots.j0] at h, fun _ _ _ _ _ _ r h => by simp [barscanref05_FromRoots.l0] at h, fun _ _ _ _ _ _ _ _ r h => by simp [barscanref05_FromRoots.l1] at h⟩
 | k + 1 => by
  obtain ⟨ih0, ih1, ih2⟩ := barscanref05_FromRoots.mono_l k
  refine ⟨?_, ?_, ?_⟩
  ·intro y0 y1 y2 y3 y4
   unfold barscanref05_FromRoots.j0
   have m0_ := @barscanref04_Valid.mono
   have m1_ := @barscanref05_elements.mono
   have m2_ := @barscanref05_times.mono
   exact zMo
  ·intro y0 y1 y2 y3 y4 y5
   unfold barscanref05_FromRoots.l0
   have m0_ := @barscanref04_Valid.mono
   have m1_ := @barscanref05_elements.mono
   have m2_ := @barscanref05_times.mono
   exact zMo
  ·intro y0 y1 y2 y3 y4 y5 y6 y7
   unfold barscanref05_FromRoots.l1
   have m0_ := @barscanref04_Valid.mono
   have m1_ := @barscanref05_elements.mono
   have m2_ := @barscanref05_times.mono
   exact zMo
theorem barscanref05_FromRoots.mono : ∀ a0 a1 a2 a3 k, LeO (barscanref05_FromRoots.f k a0 a1 a2 a3) (barscanref05_FromRoots.f (k + 1) a0 a1 a2 a3) := by
 intro a0 a1 a2 a3 k
 obtain ⟨ih0, ih1, ih2⟩ := barscanref05_FromRoots.mono_l k
 unfold barscanref05_FromRoots.f
 have m0_ := @barscanref04_Valid.mono
 have m1_ := @barscanref05_elements.mono
 have m2_ := @barscanref05_times.mono
 exact zMo
def barscanref05_FromRoots.T13 : Bool × List (List Nat × List Nat) := (true, [([], []), ([], []), ([], []), ([], []), ([], []), ([3, 4], [3, 4]), ([5], [5]), ([], []), ([], []), ([], []), ([8, 9], [8, 9]), ([10], [10]), ([], []), ([], []), ([12, 13], [12, 13]), ([14], [14]), ([7, 11, 15], [7, 11, 15]), ([2, 6, 16, 16], [2, 6, 16]), ([0, 1, 0, 1, 2, 3, 4, 5, 6, 7, 8, 9, 10, 11, 12, 13, 14, 15, 16, 17], [0, 1]), ([18, 17, 17, 0, 1, 2, 3, 4, 5, 6, 7, 8, 9, 10, 11, 12, 13, 14, 15, 16, 17], [17, 18])])
def barscanref05_FromRoots.B13 : List Nat := [0, 0, 0, 0, 0, 24, 56, 0, 0, 0, 768, 1792, 0, 0, 12288, 28672, 65408, 131068, 262143, 524287]
theorem barscanref05_FromRoots.tab13 : rtab .any (opsOf Try.f74 13) = barscanref05_FromRoots.T13 := by kernel_rfl
theorem barscanref05_FromRoots.bits13 : waitsOk barscanref05_FromRoots.T13.2 barscanref05_FromRoots.B13 = true := by kernel_rfl
theorem barscanref05_FromRoots.calls (k : Nat) (a0_0 : Int) (a0_1 : Int) (a0_2 : Int) (A1 : Option Addr) (c1 : Nat) (l1 : List Int) (r1 : List Int) (r2 : Int) (w : World) (hr1 : Kd.C (Kd.int .i64) w A1 l1.length l1) (hc1 : l1.length ≤ c1) (h : barscanref05_FromRoots.f k a0_0 a0_1 a0_2 l1 = some (r1, r2)) :
  Calls Try.prog 74 #[.agg #[.int .i64 a0_0, .int .i64 a0_1, .int .i64 a0_2], .slice A1 l1.length c1] w fun e w' => ∃ v0_ : Value, e = .returned (.tuple #[v0_, .int .i64 r2]) ∧ Kd.R (Kd.int .i64) 3 w' w.heap.size (fun _ => True) v0_ r1 ∧ Below w.heap.size w w' := by
 have hu23 := Try.underlying23
 have HR1 := Aside0.mk hr1
 have HC1 := Aside0.mk hc1
 clear hr1 hc1
 have HB := Aside0.mk (Below.refl w.heap.size w)
 have H := h
 unfold barscanref05_FromRoots.f at H
 clear h
 have HC3 := Aside0.mk H
 clear H
 go_enter Try.func74, Try.ntmps74
 go_upto_region 1 with (first | ((with_reducible refine gate_dst (N := 2) rfl ?_); refine zBox 2 #[.int .i64 a0_0, .int .i64 a0_1, .int .i64 a0_2] 23 ?_; clear HB; intro gb1424 w4 BK1424 GE1424 HB))
 (try simp only [Act.put, List.setIfInBounds_toArray, List.set_cons_zero, List.set_cons_succ])
 go_cut [18] (fun v18 wc => ∃ (kq : Nat) (x18_2 : Bool), v18 = .bool x18_2 ∧ Aside0 (barscanref05_FromRoots.j0 kq l1 x18_2 a0_0 a0_1 a0_2 = some (r1, r2)) ∧ Aside0 (kq ≤ k) ∧ Aside0 (wc.heap[gb1424]? = some (.cells #[.int .i64 a0_0, .int .i64 a0_1, .int .i64 a0_2] 23 (0, 0))) ∧ Aside0 (Below w.heap.size w wc))
 case first =>
  have H := HC3.out
  clear HC3
  obtain ⟨t1425, A5, H⟩ := zD H
  by_cases c6 : t1425 = true
  ·subst c6
   rw [if_pos rfl] at H
   obtain ⟨t1426, A7, H⟩ := zD H
   have H' := zA H
   clear H
   (try clear z1424_0 z1424_1 z1424_2 f1424_0 f1424_1 f1424_2)
   obtain ⟨z1424_0, z1424_1, z1424_2, f1424_0, f1424_1, f1424_2⟩ := cz3 BK1424
   go_wp2_with (first | ((with_reducible refine gate_callee (f := 26) rfl ?_); refine gL (some 11) Try.func26 #[.agg #[.int .i64 a0_0, .int .i64 a0_1, .int .i64 a0_2]] ?_; (with_reducible refine zCall (barscanref04_Valid.calls k a0_0 a0_1 a0_2 true _ A5.out) ?_); intro w9 hb; replace BK1424 := bB BK1424 hb; replace HB := bS hb; (try clear hb); (try clear z1424_0 z1424_1 z1424_2 f1424_0 f1424_1 f1424_2); obtain ⟨z1424_0, z1424_1, z1424_2, f1424_0, f1424_1, f1424_2⟩ := cz3 BK1424) | (go_at_call 118; (with_reducible refine (barscanref05_elements.calls k a0_0 a0_1 a0_2 _ _ l1 t1426 _ ?side1 ?side2 A7.out).mono ?_); (case side1 => exact zN HR1); (case side2 => exact HC1.out); rintro e w11 ⟨rfl, hb⟩; replace BK1424 := bB BK1424 hb; replace HB := bS hb; (try clear hb)))
   go_meet
   case rel => exact ⟨_, (!t1426), zR, H', zL, ⟨zK BK1424⟩, ⟨zB⟩⟩
  ·replace c6 := Bool.eq_false_iff.mpr c6
   subst c6
   rw [if_neg (show ¬ (false = true) by decide)] at H
   have H' := zA H
   clear H
   (try clear z1424_0 z1424_1 z1424_2 f1424_0 f1424_1 f1424_2)
   obtain ⟨z1424_0, z1424_1, z1424_2, f1424_0, f1424_1, f1424_2⟩ := cz3 BK1424
   go_wp2_with (first | ((with_reducible refine gate_callee (f := 26) rfl ?_); refine gL (some 11) Try.func26 #[.agg #[.int .i64 a0_0, .int .i64 a0_1, .int .i64 a0_2]] ?_; (with_reducible refine zCall (barscanref04_Valid.calls k a0_0 a0_1 a0_2 false _ A5.out) ?_); intro w13 hb; replace BK1424 := bB BK1424 hb; replace HB := bS hb; (try clear hb)))
   go_meet
   case rel => exact ⟨_, (true), zR, H', zL, ⟨zK BK1424⟩, ⟨zB⟩⟩
 case rest =>
  clear HC3
  try clear c1
  try clear c2
  try clear p2
  try clear c6
  try clear c7
  try clear z1424_0 z1424_1 z1424_2 f1424_0 f1424_1 f1424_2
  obtain ⟨kq, x18_2, rfl, HA, HJ2, BK1424, HB⟩ := hcut
  cases kq with
  | zero => exact absurd HA.out (by simp [barscanref05_FromRoots.j0])
  | succ kj2 =>
   have H := HA.out
   clear HA
   simp only [barscanref05_FromRoots.j0] at H
   by_cases c14 : x18_2 = true
   ·subst c14
    rw [if_pos rfl] at H
    simp only [Option.some.injEq, Prod.mk.injEq] at H
    obtain ⟨rfl, rfl⟩ := H
    go_wp2
    go_ret2
    exact ⟨_, zE, by first | exact Kd.R_nil _ _ _ _ _ | exact Kd.N_nil _ _ _ _ _ | exact Kd.V_nil _ _ _ _ _ | exact Kd.Q_nil _ _ _ _ _ | exact Kd.S_nil _ _ _ _ _, zB⟩
   ·replace c14 := Bool.eq_false_iff.mpr c14
    subst c14
    rw [if_neg (show ¬ (false = true) by decide)] at H
    by_cases c15 : (l1.length : Int) > 4096
    ·rw [if_pos c15] at H
     have c15b0 : decide (4096 < (l1.length : Int)) = true := decide_eq_true c15
     have c15b1 : decide (4096 < l1.length) = true := decide_eq_true (by omega)
     clear c15
     simp only [Option.some.injEq, Prod.mk.injEq] at H
     obtain ⟨rfl, rfl⟩ := H
     go_wp2
     go_ret2
     exact ⟨_, zE, by first | exact Kd.R_nil _ _ _ _ _ | exact Kd.N_nil _ _ _ _ _ | exact Kd.V_nil _ _ _ _ _ | exact Kd.Q_nil _ _ _ _ _ | exact Kd.S_nil _ _ _ _ _, zB⟩
    ·rw [if_neg c15] at H
     have c15b0 : decide (4096 < (l1.length : Int)) = false := decide_eq_false c15
     have c15b1 : decide (4096 < l1.length) = false := decide_eq_false (by omega)
     clear c15
     obtain ⟨y1427, hy1427⟩ : ∃ y_ : List Int, y_ = (([1] : List Int)) := ⟨_, rfl⟩
     replace H : (barscanref05_FromRoots.l0 kj2 l1 y1427 0 a0_0 a0_1 a0_2) = some (r1, r2) := by first | (rw [hy1427]; with_reducible exact H) | (have H2_ := (Option.bind_some _ _).symm.trans H; rw [hy1427]; with_reducible exact H2_) | (have H2_ := (Option.bind_some _ _).symm.trans H; with_reducible exact H2_) | with_reducible exact H | (rw [hy1427]; exact H) | exact H
     have Ny1427 := Aside0.mk hy1427
     clear hy1427
     have H' := zA H
     clear H
     go_wp2_with (first | ((with_reducible refine gate_dst (N := 22) rfl ?_); refine Kd.R_lit (Kd.int .i64) _ 3 ?hg (N := 22) ?hd (xs := ([1] : List Int)) (inner := [.int .i64 1]) (ok := fun _ => True) (okp := fun _ => True) ?hr ?hp (fun _ hk => hk) trivial (Below.refl _ _) (Nat.le_refl _) (by simp) ?_; (case hd => rfl); (case hg => rfl); (case hr => first | (go_simp; done) | (go_simp; rfl)); (case hp => exact (Reps.one (show Kd.M (Kd.int .i64) _ _ _ 1 [.int .i64 1] from rfl) (Reps.none _ _))); intro v1428 w16 ho17 hb hg_ hnew_; clear hg_ hnew_; (first | rw [← Ny1427.out] at ho17 | (simp only [Int.reduceToNat] at ho17; rw [← Ny1427.out] at ho17)); have HO1429 := Aside0.mk (Kd.R_lower ho17 (below_size zB)); replace BK1424 := bB BK1424 hb; replace HB := bS hb; clear hb ho17))
     go_loopg [6, 7] kj2 (fun kq v6 v7 w' => ∃ (x6_2 : List Int) (x7_2 : Int), v7 = .int .i64 x7_2 ∧ Aside0 (barscanref05_FromRoots.l0 kq l1 x6_2 x7_2 a0_0 a0_1 a0_2 = some (r1, r2)) ∧ Aside0 (kq ≤ kj2) ∧ Aside0 (Kd.R (Kd.int .i64) 3 w' w.heap.size (fun _ => True) v6 x6_2) ∧ Aside0 (w'.heap[gb1424]? = some (.cells #[.int .i64 a0_0, .int .i64 a0_1, .int .i64 a0_2] 23 (0, 0))) ∧ Aside0 (Below w.heap.size w w'))
     case atStart => exact ⟨(y1427), (0), zR, H', ⟨Nat.le_refl _⟩, ⟨zO HO1429⟩, ⟨zK BK1424⟩, ⟨zB⟩⟩
     case round =>
      clear H'
      try clear c1
      try clear c2
      try clear p2
      try clear c6
      try clear c7
      try clear c14
      try clear c15
      try clear c15b0
      try clear c15b1
      try clear z1424_0 z1424_1 z1424_2 f1424_0 f1424_1 f1424_2
      try clear p2
      obtain ⟨x6_2, x7_2, rfl, HA, HK2, HO_6, BK1424, HB⟩ := hrel
      cases gk with
      | zero => exact absurd HA.out (by simp [barscanref05_FromRoots.l0])
      | succ k2 =>
       have H := HA.out
       clear HA
       simp only [barscanref05_FromRoots.l0] at H
       by_cases c18 : x7_2 < (l1.length : Int)
       ·rw [if_pos c18] at H
        have c18b0 : decide (x7_2 < (l1.length : Int)) = true := decide_eq_true c18
        clear c18
        obtain ⟨y1430, hy1430⟩ : ∃ y_ : List Int, y_ = (([0] : List Int)) := ⟨_, rfl⟩
        replace H : (if y1430.length + x6_2.length < 17592186044416 then (barscanref05_FromRoots.l1 k2 l1 x6_2 x7_2 (y1430 ++ x6_2) 0 a0_0 a0_1 a0_2) else (none)) = some (r1, r2) := by first | (rw [hy1430]; with_reducible exact H) | (have H2_ := (Option.bind_some _ _).symm.trans H; rw [hy1430]; with_reducible exact H2_) | (have H2_ := (Option.bind_some _ _).symm.trans H; with_reducible exact H2_) | with_reducible exact H | (rw [hy1430]; exact H) | exact H
        have Ny1430 := Aside0.mk hy1430
        clear hy1430
        by_cases c19 : y1430.length + x6_2.length < 17592186044416
        ·rw [if_pos c19] at H
         have LMc19 := Aside0.mk c19
         clear c19
         obtain ⟨y1433, hy1433⟩ : ∃ y_ : List Int, y_ = (y1430 ++ x6_2) := ⟨_, rfl⟩
         replace H : (barscanref05_FromRoots.l1 k2 l1 x6_2 x7_2 y1433 0 a0_0 a0_1 a0_2) = some (r1, r2) := by first | (rw [hy1433]; with_reducible exact H) | (have H2_ := (Option.bind_some _ _).symm.trans H; rw [hy1433]; with_reducible exact H2_) | (have H2_ := (Option.bind_some _ _).symm.trans H; with_reducible exact H2_) | with_reducible exact H | (rw [hy1433]; exact H) | exact H
         have Ny1433 := Aside0.mk hy1433
         clear hy1433
         have H' := zA H
         clear H
         go_wp2_with (first | ((with_reducible refine gate_dst (N := 29) rfl ?_); refine Kd.R_lit (Kd.int .i64) _ 3 ?hg (N := 29) ?hd (xs := ([0] : List Int)) (inner := [.int .i64 0]) (ok := fun _ => True) (okp := fun _ => True) ?hr ?hp (fun _ hk => hk) trivial (Below.refl _ _) (Nat.le_refl _) (by simp) ?_; (case hd => rfl); (case hg => rfl); (case hr => first | (go_simp; done) | (go_simp; rfl)); (case hp => exact (Reps.one (show Kd.M (Kd.int .i64) _ _ _ 0 [.int .i64 0] from rfl) (Reps.none _ _))); intro v1431 w20 ho21 hb hg_ hnew_; clear hg_ hnew_; (first | rw [← Ny1430.out] at ho21 | (simp only [Int.reduceToNat] at ho21; rw [← Ny1430.out] at ho21)); have HO1432 := Aside0.mk (Kd.R_lower (Kd.R_new' ho21 (Kd.R_lt (zO HO_6))) (below_size zB)); replace HO_6 := Aside0.mk (Kd.R_elder' (zO HO_6) (Kd.R_base ho21) hb); replace BK1424 := bB BK1424 hb; replace HB := bS hb; clear hb ho21; obtain ⟨Ao23, co23, eo23⟩ := Kd.R_slice HO_6.out; subst eo23) | ((with_reducible refine gate_builtin (b := .append) (xs := #[.tmp 29, .tmp 30]) rfl ?_); at_builtin; refine Kd.R_append_rows (Kd.int .i64) (w0 := w) w.heap.size rfl (.tmp 29) (.tmp 30) 45 3 (.int .i64 0) 8 rfl Try.underlying45 info3 rfl (by decide) (by omega) v1431 y1430 x6_2 _ _ _ (fun k_ => some k_ ≠ (.slice Ao23 x6_2.length co23 : Value).ownBlock) (fun _ => False) rfl rfl ?aO ?aR (fun _ _ h => h) (fun _ h => h.elim) ?aF ?aB ?aS ?aL ?_; (case aR => exact zN HO_6); (case aB => exact zB); (case aF => exact (fun k_ hk => Kd.fresh' (Kd.R_lt (zO HO_6)) k_ hk)); (case aO => exact (by (with_reducible repeat (first | apply Kd.R_alloc | apply Kd.R_drewN | apply Kd.R_drew)); exact Kd.R_mono HO1432.out (fun _ hk => hk.2))); (case aS => exact (below_size zB)); (case aL => have := LMc19.out; omega); intro v1434 w22 ho hb hg hat; rw [← Ny1433.out] at ho; replace HO_6 := Aside0.mk (Kd.R_after (ok := (fun _ => True)) (zO HO_6) hg hat); replace BK1424 := Aside0.mk (blk_grown (g := gb1424) (o := .cells #[.int .i64 a0_0, .int .i64 a0_1, .int .i64 a0_2] 23 (0, 0)) (zK BK1424) hg (Kd.R_ne HO1432.out BK1424.out (by decide))); replace HB := Aside0.mk (hb); have HO1435 := Aside0.mk (ho); clear HO1432; clear ho hb hg hat))
         go_loopg [9] k2 (fun kq v9 w' => ∃ (x8_3 : List Int) (x9_3 : Int), v9 = .int .i64 x9_3 ∧ Aside0 (barscanref05_FromRoots.l1 kq l1 x6_2 x7_2 x8_3 x9_3 a0_0 a0_1 a0_2 = some (r1, r2)) ∧ Aside0 (kq ≤ k2) ∧ Aside0 (Kd.R (Kd.int .i64) 3 w' w.heap.size (fun k_ => some k_ ≠ (v1434 : Value).ownBlock) (.slice Ao23 x6_2.length co23) x6_2) ∧ Aside0 (Kd.R (Kd.int .i64) 3 w' w.heap.size (fun k_ => some k_ ≠ ((.slice Ao23 x6_2.length co23) : Value).ownBlock) v1434 x8_3) ∧ Aside0 (w'.heap[gb1424]? = some (.cells #[.int .i64 a0_0, .int .i64 a0_1, .int .i64 a0_2] 23 (0, 0))) ∧ Aside0 (Below w.heap.size w w'))
         case atStart => exact ⟨(y1433), (0), zR, H', ⟨Nat.le_refl _⟩, ⟨by (with_reducible repeat (first | apply Kd.R_alloc | apply Kd.R_drewN | apply Kd.R_drew)); exact Kd.R_mono HO_6.out (fun _ hk => hk.2)⟩, ⟨zO HO1435⟩, ⟨zK BK1424⟩, ⟨zB⟩⟩
         case round =>
          clear H'
          try clear c1
          try clear c2
          try clear p2
          try clear c6
          try clear c7
          try clear c14
          try clear c15
          try clear c15b0
          try clear c15b1
          try clear c18
          try clear c18b0
          try clear c19
          try clear z1424_0 z1424_1 z1424_2 f1424_0 f1424_1 f1424_2
          try clear p2
          obtain ⟨x8_3, x9_3, rfl, HA, HK3, HO_6, HO_8, BK1424, HB⟩ := hrel
          cases gk with
          | zero => exact absurd HA.out (by simp [barscanref05_FromRoots.l1])
          | succ k3 =>
           have H := HA.out
           clear HA
           simp only [barscanref05_FromRoots.l1] at H
           by_cases c24 : x9_3 < (x6_2.length : Int)
           ·rw [if_pos c24] at H
            have c24b0 : decide (x9_3 < (x6_2.length : Int)) = true := decide_eq_true c24
            clear c24
            by_cases c25 : 0 ≤ x9_3
            ·rw [if_pos c25] at H
             have c25b0 : decide (0 ≤ x9_3) = true := decide_eq_true c25
             clear c25
             by_cases c26 : x9_3 < (x8_3.length : Int)
             ·rw [if_pos c26] at H
              have c26b0 : decide (x9_3 < (x8_3.length : Int)) = true := decide_eq_true c26
              clear c26
              by_cases c27 : 0 ≤ x7_2
              ·rw [if_pos c27] at H
               have c27b0 : decide (0 ≤ x7_2) = true := decide_eq_true c27
               clear c27
               by_cases c28 : x7_2 < (l1.length : Int)
               ·rw [if_pos c28] at H
                have c28b0 : decide (x7_2 < (l1.length : Int)) = true := decide_eq_true c28
                clear c28
                obtain ⟨t1439, A29, H⟩ := zD H
                obtain ⟨t1440, A30, H⟩ := zD H
                obtain ⟨y1441, hy1441⟩ : ∃ y_ : List Int, y_ = (x8_3.set (x9_3 : Int).toNat t1440) := ⟨_, rfl⟩
                replace H : (barscanref05_FromRoots.l1 k3 l1 x6_2 x7_2 y1441 (wrap64 (x9_3 + 1)) a0_0 a0_1 a0_2) = some (r1, r2) := by first | (rw [hy1441]; with_reducible exact H) | (have H2_ := (Option.bind_some _ _).symm.trans H; rw [hy1441]; with_reducible exact H2_) | (have H2_ := (Option.bind_some _ _).symm.trans H; with_reducible exact H2_) | with_reducible exact H | (rw [hy1441]; exact H) | exact H
                have Ny1441 := Aside0.mk hy1441
                clear hy1441
                have H' := zA H
                clear H
                try go_wp2
                replace HO_6 := Aside0.mk (Kd.R_drew HO_6.out)
                replace HO_8 := Aside0.mk (Kd.R_drew HO_8.out)
                replace BK1424 := Aside0.mk (blk_drew BK1424.out)
                replace HB := Aside0.mk (below_drew1 HB.out)
                obtain ⟨Ao33, co33, eo33⟩ := Kd.R_slice HO_8.out
                (first | subst eo33 | (injection eo33 with f1_ f2_ f3_; have f4_ := f1_.symm; have f5_ := f3_.symm; clear f1_ f2_ f3_; subst f4_; subst f5_))
                have p1436 : 0 ≤ (x9_3 : Int) := of_decide_eq_true (by first | (with_reducible assumption) | assumption)
                have q1436 : x9_3 < (x8_3.length : Int) := of_decide_eq_true (by first | (with_reducible assumption) | assumption)
                obtain ⟨ad1436, e1436, hx1436_0⟩ := Kd.at_int (Kd.R_reads' HO_8.out).2.2 x9_3 p1436 q1436
                cases e1436
                replace p1436 := eq_true p1436
                replace q1436 := eq_true q1436
                have p1437 : 0 ≤ (x9_3 : Int) := of_decide_eq_true (by first | (with_reducible assumption) | assumption)
                have q1437 : x9_3 < (x6_2.length : Int) := of_decide_eq_true (by first | (with_reducible assumption) | assumption)
                obtain ⟨ad1437, e1437, hx1437_0⟩ := Kd.at_int (Kd.R_reads' HO_6.out).2.2 x9_3 p1437 q1437
                cases e1437
                replace p1437 := eq_true p1437
                replace q1437 := eq_true q1437
                have p1438 : 0 ≤ (x7_2 : Int) := of_decide_eq_true (by first | (with_reducible assumption) | assumption)
                have q1438 : x7_2 < (l1.length : Int) := of_decide_eq_true (by first | (with_reducible assumption) | assumption)
                obtain ⟨ad1438, e1438, hx1438_0⟩ := Kd.at_int HR1.out x7_2 p1438 q1438
                have hw1438_0 := hx1438_0
                cases e1438
                replace hx1438_0 := (HB.out.cell (World.block_lt_of_cell? w _ hx1438_0)).trans hx1438_0
                replace p1438 := eq_true p1438
                replace q1438 := eq_true q1438
                refine start_ (n := 20) (S := fun w' => w'.cell? ⟨gb1424, 0, none⟩ = some (.int .i64 a0_0) ∧ w'.cell? ⟨gb1424, 1, none⟩ = some (.int .i64 a0_1) ∧ w'.cell? ⟨gb1424, 2, none⟩ = some (.int .i64 a0_2) ∧ w'.cell? (ad1436.add (x9_3).toNat) = some (.int .i64 (rd x8_3 x9_3)) ∧ w'.cell? (ad1437.add (x9_3).toNat) = some (.int .i64 (rd x6_2 x9_3)) ∧ w'.cell? (ad1438.add (x7_2).toNat) = some (.int .i64 (rd l1 x7_2))) (ds := [19]) #[false, false, false, false, false, false, false, false, false, false, false, false, false, false, false, false, false, false, false, false] (by kernel_rfl) rfl rfl ⟨(blk_cell BK1424.out 0).trans rfl, (blk_cell BK1424.out 1).trans rfl, (blk_cell BK1424.out 2).trans rfl, hx1436_0, hx1437_0, ((HB.out.cell (World.block_lt_of_cell? w _ hw1438_0)).trans hw1438_0)⟩ (fun hHeld => ?_); refine with_tabW barscanref05_FromRoots.tab13 barscanref05_FromRoots.bits13 (fun HT_ HW_ => ?_)
                generalize wr.drew = w32 at HO_6 HO_8 BK1424 HB hx1436_0 hx1437_0 hx1438_0 hHeld ⊢
                refine pU 0 (some 38) ?_
                refine pU 1 (some 39) ?_
                refine pU 3 (some 41) ?_
                refine pU 4 (some 42) ?_
                refine pU 5 (some 43) ?_
                refine pU 8 (some 46) ?_
                refine pU 9 (some 47) ?_
                refine pU 10 (some 48) ?_
                refine pU 12 (some 50) ?_
                refine pU 13 (some 51) ?_
                refine pU 14 (some 52) ?_
                refine tU 2 (some 40) hHeld ?_
                refine tU 6 (some 44) hHeld ?_
                refine tU 7 (some 45) hHeld ?_
                refine tU 11 (some 49) hHeld ?_
                refine tU 15 (some 53) hHeld ?_
                refine oU 16 (some 54) (fun K hK => ?_)
                refine goes_ Try.func111 (by kernel_rfl) rfl #[.agg #[.int .i64 a0_0, .int .i64 a0_1, .int .i64 a0_2], .int .i64 (rd x6_2 x9_3), .int .i64 (rd l1 x7_2)] (by rfl) rfl rfl zM ?_
                with_reducible refine (barscanref05_times.calls k3 a0_0 a0_1 a0_2 (rd x6_2 x9_3) (rd l1 x7_2) t1439 _ A29.out).mono ?_
                rintro e w34 ⟨rfl, hb⟩
                have HS3_ := (hb.cell (World.block_lt_of_cell? _ _ (hHeld.2.2.2.1))).trans (hHeld.2.2.2.1)
                have HS4_ := (hb.cell (World.block_lt_of_cell? _ _ (hHeld.2.2.2.2.1))).trans (hHeld.2.2.2.2.1)
                refine ⟨_, rfl, ?_⟩
                replace HO_6 := Aside0.mk (Kd.R_below (zO HO_6) hb)
                replace HO_8 := Aside0.mk (Kd.R_below (zO HO_8) hb)
                replace BK1424 := bB BK1424 hb
                replace HB := bS hb
                (try clear hb)
                (try clear hb2)
                (try clear hk)
                (try clear hi)
                refine hK.out _ _ ⟨(blk_cell BK1424.out 0).trans rfl, (blk_cell BK1424.out 1).trans rfl, (blk_cell BK1424.out 2).trans rfl, HS3_, HS4_, ((HB.out.cell (World.block_lt_of_cell? w _ hw1438_0)).trans hw1438_0)⟩ (fun hHeld => ?_)
                clear hK K
                refine nU ?_
                refine oU 17 (some 55) (fun K hK => ?_)
                refine goes_ Try.func120 (by kernel_rfl) rfl #[.agg #[.int .i64 a0_0, .int .i64 a0_1, .int .i64 a0_2], .int .i64 (rd x8_3 x9_3), .int .i64 t1439] (by rfl) rfl rfl zM ?_
                with_reducible refine (barscanref05_less.calls a0_0 a0_1 a0_2 (rd x8_3 x9_3) t1439 t1440 _ A30.out).mono ?_
                rintro e w35 ⟨rfl, hb⟩
                have HS3_ := (hb.cell (World.block_lt_of_cell? _ _ (hHeld.2.2.2.1))).trans (hHeld.2.2.2.1)
                have HS4_ := (hb.cell (World.block_lt_of_cell? _ _ (hHeld.2.2.2.2.1))).trans (hHeld.2.2.2.2.1)
                refine ⟨_, rfl, ?_⟩
                replace HO_6 := Aside0.mk (Kd.R_below (zO HO_6) hb)
                replace HO_8 := Aside0.mk (Kd.R_below (zO HO_8) hb)
                replace BK1424 := bB BK1424 hb
                replace HB := bS hb
                (try clear hb)
                (try clear hb2)
                (try clear hk)
                (try clear hi)
                have p31 : 0 ≤ (x9_3 : Int) := of_decide_eq_true (by first | (with_reducible assumption) | assumption)
                have q31 : (x9_3 : Int) < ((x8_3.length : Int) : Int) := of_decide_eq_true (by first | (with_reducible assumption) | assumption)
                obtain ⟨go31, co31, eo31, gb31, gl31, cl31, HG31⟩ := Kd.R_form HO_8.out (by omega)
                (first | cases eo31 | (injection eo31 with ea_ en_ ec_; (first | subst ea_ | (injection ea_ with ea_; subst ea_)); subst ec_; clear en_))
                have GB31 := Aside0.mk gb31
                have GG31 := Aside0.mk HG31
                clear gb31 gl31 HG31
                (first | simp only [add_plain] at hx1436_0 | skip)
                obtain ⟨hx31_0, hf31_0⟩ := Kd.R_celln 0 HO_8.out (x9_3 : Int) p31 q31
                replace p31 := eq_true p31
                replace q31 := eq_true q31
                have HP36 := Kd.R_putn HO_8.out (x9_3 : Int) t1440
                rw [← Ny1441.out] at HP36
                have HQ36 := Aside0.mk HP36
                clear HP36
                refine hK.out _ _ ⟨(blk_cell BK1424.out 0).trans rfl, (blk_cell BK1424.out 1).trans rfl, (blk_cell BK1424.out 2).trans rfl, HS3_, HS4_, ((HB.out.cell (World.block_lt_of_cell? w _ hw1438_0)).trans hw1438_0)⟩ (fun hHeld => ?_)
                clear hK K
                refine nU ?_
                refine pU 18 (some 56) ?_
                refine last_ (i := 19) (N := none) #[true, true, true, true, true, true, true, true, true, true, true, true, true, true, true, true, true, true, true, true] rfl rfl (one_of HT_.out (by kernel_rfl)) (by decide) (fun K hK => ?_)
                refine skip_ (w1 := ?_) (by rfl) rfl ?_ ?_
                rotate_left
                ·go_simp
                 rfl
                refine hK.out _ _ ?_
                clear hK K
                refine dU ?_
                try go_wp2
                go_roundg k3
                case measure => have := HJ2.out; have := HK2.out; have := HK3.out; omega
                case rel => exact ⟨(y1441), (wrap64 (x9_3 + 1)), zR, H', ⟨by have := HJ2.out; have := HK2.out; have := HK3.out; omega⟩, ⟨by (with_reducible repeat (first | apply Kd.R_alloc | apply Kd.R_drewN | apply Kd.R_drew)); exact Kd.R_mono (Kd.R_far (p := ⟨go31, (x9_3 : Int).toNat, none⟩) (Kd.R_mono HO_6.out (fun k_ hk => (⟨hk, fun e_ => hk (by rw [e_]; rfl)⟩ : _ ∧ k_ ≠ go31))) (fun _ hk => hk.2) (.int .i64 t1440)) (fun _ hk => hk.1)⟩, ⟨by (with_reducible repeat (first | apply Kd.R_alloc | apply Kd.R_drewN | apply Kd.R_drew)); exact HQ36.out⟩, ⟨by (with_reducible repeat (first | refine blk_drewN ?_ _ | refine blk_drew ?_ | refine blk_alloc ?_ _)); refine blk_far ?_ (by have h_ := Kd.R_ne HO_8.out BK1424.out (by decide); intro e_; exact h_ (by rw [e_]; rfl)) _; (with_reducible repeat (first | refine blk_drewN ?_ _ | refine blk_drew ?_ | refine blk_alloc ?_ _)); exact BK1424.out⟩, ⟨by repeat (first | (with_reducible first | exact HB.out | apply below_alloc | apply pw_below_drewN | apply below_drew1 | refine below_set ?_ GB31.out | refine zSet ?_ (by assumption)) | exact HB.out)⟩⟩
               ·rw [if_neg c28] at H
                exact absurd H (by simp)
              ·rw [if_neg c27] at H
               exact absurd H (by simp)
             ·rw [if_neg c26] at H
              exact absurd H (by simp)
            ·rw [if_neg c25] at H
             exact absurd H (by simp)
           ·rw [if_neg c24] at H
            have c24b0 : decide (x9_3 < (x6_2.length : Int)) = false := decide_eq_false c24
            clear c24
            have H' := zA H
            clear H
            go_wp2
            go_roundg k3
            case measure => have := HJ2.out; have := HK2.out; have := HK3.out; omega
            case rel => exact ⟨(x8_3), (wrap64 (x7_2 + 1)), zR, H', ⟨by have := HJ2.out; have := HK2.out; have := HK3.out; omega⟩, ⟨by (with_reducible repeat (first | apply Kd.R_alloc | apply Kd.R_drewN | apply Kd.R_drew)); exact Kd.R_mono HO_8.out (fun _ hk => trivial)⟩, ⟨zK BK1424⟩, ⟨zB⟩⟩
        ·rw [if_neg c19] at H
         exact absurd H (by simp)
       ·rw [if_neg c18] at H
        have c18b0 : decide (x7_2 < (l1.length : Int)) = false := decide_eq_false c18
        clear c18
        simp only [Option.some.injEq, Prod.mk.injEq] at H
        obtain ⟨rfl, rfl⟩ := H
        go_wp2
        go_ret2
        exact ⟨_, zE, by (with_reducible repeat (first | apply Kd.R_alloc | apply Kd.R_drewN | apply Kd.R_drew)); exact HO_6.out, zB⟩
end Go.Proofs.Ytlhaclammaaabaa.Pg
