-- Written by a program of this session over the print of the kit.
import Derived.Test.YtlhaclammaaabaaP0
import Derived.Test.YtlhaclammaaabaaP11
import Derived.Test.YtlhaclammaaabaaP19
import Derived.Test.YtlhaclammaaabaaP57
namespace Go.Proofs.Ytlhaclammaaabaa.Pg
open Go.RowKit Go.Proofs.YtlhaclammaaabaaW.PrintWords Go.Proofs.YtlhaclammaaabaaW.PrintLast Go.Proofs.YtlhaclammaaabaaW.PrintMore
attribute [local go_sem] max2_int min2_int max_two min_two max_three min_three max_four min_four   -- for this text's walks alone
set_option linter.unusedVariables false
set_option linter.unusedSimpArgs false

/-! ### barscanref04_Pow: function 59 -/
def barscanref04_Pow.j0 : Nat → Int → Int → Bool → Int → Int → Int → Option (Int × Int)
  | 0, _, _, _, _, _, _ => none
  | k + 1, x1, x2, x16, x1280000, x1280001, x1280002 => if x16 = true then (some (0, 1)) else (if x1 = 0 then (if x2 < 0 then (some (0, 12)) else ((barscanref04_raise.f k x1280000 x1280001 x1280002 x1 x2).bind fun t1282 => (some (t1282, 0)))) else ((barscanref04_raise.f k x1280000 x1280001 x1280002 x1 x2).bind fun t1283 => (some (t1283, 0))))
def barscanref04_Pow.f (k : Nat) (a0_0 : Int) (a0_1 : Int) (a0_2 : Int) (a1 : Int) (a2 : Int) : Option (Int × Int) := (barscanref04_Valid.f k a0_0 a0_1 a0_2).bind fun t1280 => (if t1280 = true then ((barscanref04_Is.f a0_0 a0_1 a0_2 a1).bind fun t1281 => (barscanref04_Pow.j0 k a1 a2 (!t1281) a0_0 a0_1 a0_2)) else (barscanref04_Pow.j0 k a1 a2 true a0_0 a0_1 a0_2))
theorem barscanref04_Pow.mono_l : ∀ k, (∀ y0 y1 y2 y3 y4 y5, LeO (barscanref04_Pow.j0 k y0 y1 y2 y3 y4 y5) (barscanref04_Pow.j0 (k + 1) y0 y1 y2 y3 y4 y5))
  | 0 => fun _ _ _ _ _ _ r h => by simp [barscanref04_Pow.j0] at h
  | k + 1 => by
    have ih0 := barscanref04_Pow.mono_l k
    · intro y0 y1 y2 y3 y4 y5
      unfold barscanref04_Pow.j0
      repeat' first
      | (with_reducible exact ih0 _ _ _ _ _ _)
      | (with_reducible exact barscanref04_Valid.mono _ _ _ _)
      | (with_reducible exact barscanref04_raise.mono _ _ _ _ _ _)
      | (with_reducible exact LeO.refl _)
      | (with_reducible exact LeO.none _)
      | (with_reducible refine LeO.ite ?_ ?_)
      | (with_reducible refine LeO.bind ?_ (fun _ => ?_))
      | exact ih0 _ _ _ _ _ _
      | exact barscanref04_Valid.mono _ _ _ _
      | exact barscanref04_raise.mono _ _ _ _ _ _
      | exact LeO.none _
      | refine LeO.ite ?_ ?_
      | refine LeO.bind ?_ (fun _ => ?_)
theorem barscanref04_Pow.mono : ∀ a0 a1 a2 a3 a4 k, LeO (barscanref04_Pow.f k a0 a1 a2 a3 a4) (barscanref04_Pow.f (k + 1) a0 a1 a2 a3 a4) := by
  intro a0 a1 a2 a3 a4 k
  have ih0 := barscanref04_Pow.mono_l k
  unfold barscanref04_Pow.f
  repeat' first
      | (with_reducible exact ih0 _ _ _ _ _ _)
      | (with_reducible exact barscanref04_Valid.mono _ _ _ _)
      | (with_reducible exact barscanref04_raise.mono _ _ _ _ _ _)
      | (with_reducible exact LeO.refl _)
      | (with_reducible exact LeO.none _)
      | (with_reducible refine LeO.ite ?_ ?_)
      | (with_reducible refine LeO.bind ?_ (fun _ => ?_))
      | exact ih0 _ _ _ _ _ _
      | exact barscanref04_Valid.mono _ _ _ _
      | exact barscanref04_raise.mono _ _ _ _ _ _
      | exact LeO.none _
      | refine LeO.ite ?_ ?_
      | refine LeO.bind ?_ (fun _ => ?_)
set_option maxHeartbeats 8000000 in
set_option maxRecDepth 100000 in
theorem barscanref04_Pow.calls (k : Nat) (a0_0 : Int) (a0_1 : Int) (a0_2 : Int) (a1 : Int) (a2 : Int) (r1 : Int) (r2 : Int) (w : World) (h : barscanref04_Pow.f k a0_0 a0_1 a0_2 a1 a2 = some (r1, r2)) :
    Calls Try.prog 59 #[.agg #[.int .i64 a0_0, .int .i64 a0_1, .int .i64 a0_2], .int .i64 a1, .int .i64 a2] w fun e w' => e = .returned (.tuple #[.int .i64 r1, .int .i64 r2]) ∧ Below w.heap.size w w' := by
  have hu23 := Try.underlying23
  have HB := Aside0.mk (Below.refl w.heap.size w)
  have H : ((barscanref04_Valid.f k a0_0 a0_1 a0_2).bind fun t1280 => (if t1280 = true then ((barscanref04_Is.f a0_0 a0_1 a0_2 a1).bind fun t1281 => (barscanref04_Pow.j0 k a1 a2 (!t1281) a0_0 a0_1 a0_2)) else (barscanref04_Pow.j0 k a1 a2 true a0_0 a0_1 a0_2))) = some (r1, r2) := h
  clear h
  have HC4 := Aside0.mk H
  clear H
  go_enter Try.func59, Try.ntmps59
  go_upto_region 1 with (first | ((with_reducible refine gate_dst (N := 3) rfl ?_); refine box_event ?hg (N := 3) ?hd (cs := #[.int .i64 a0_0, .int .i64 a0_1, .int .i64 a0_2]) (t := 23) ?hr ?_; (case hd => rfl); (case hg => rfl); (case hr => first | (go_simp; done) | (go_simp; rfl)); intro gb1279 hg w5 hbox hb; have n0_ := Aside0.mk (below_step (by repeat (first | (with_reducible first | exact HB.out | apply below_alloc | apply pw_below_drewN | apply below_drew1) | exact HB.out)) hb); have n1_ := Aside0.mk (hbox); have n2_ := Aside0.mk ((by rw [hg]; exact (below_size (by repeat (first | (with_reducible first | exact HB.out | apply below_alloc | apply pw_below_drewN | apply below_drew1) | exact HB.out))) : w.heap.size ≤ gb1279)); have n3_ := Aside0.mk ((by rw [hg]; exact (below_size (by repeat (first | (with_reducible first | exact HB.out | apply below_alloc | apply pw_below_drewN | apply below_drew1) | exact HB.out))) : w.heap.size ≤ gb1279)); clear HB; have HB := n0_; have BK1279 := n1_; have GW1279 := n2_; have GE1279 := n3_; clear n0_ n1_ n2_ n3_; clear hb hbox hg))
  (try simp only [Act.put, List.setIfInBounds_toArray, List.set_cons_zero, List.set_cons_succ])
  go_cut [16] (fun v16 wc => ∃ (kq : Nat) (x16_3 : Bool), v16 = .bool x16_3 ∧ Aside0 (barscanref04_Pow.j0 kq a1 a2 x16_3 a0_0 a0_1 a0_2 = some (r1, r2)) ∧ Aside0 (kq ≤ k) ∧ Aside0 (wc.heap[gb1279]? = some (.cells #[.int .i64 a0_0, .int .i64 a0_1, .int .i64 a0_2] 23 (0, 0))) ∧ Aside0 (Below w.heap.size w wc))
  case first =>
    have H := HC4.out
    clear HC4
    replace H := Option.bind_eq_some_iff.mp H
    obtain ⟨t1280, A60, H⟩ := H
    replace H : (if t1280 = true then ((barscanref04_Is.f a0_0 a0_1 a0_2 a1).bind fun t1281 => (barscanref04_Pow.j0 k a1 a2 (!t1281) a0_0 a0_1 a0_2)) else (barscanref04_Pow.j0 k a1 a2 true a0_0 a0_1 a0_2)) = some (r1, r2) := H
    have A6 := Aside0.mk A60
    clear A60
    by_cases c7 : t1280 = true
    · subst c7
      have H1 : ((barscanref04_Is.f a0_0 a0_1 a0_2 a1).bind fun t1281 => (barscanref04_Pow.j0 k a1 a2 (!t1281) a0_0 a0_1 a0_2)) = some (r1, r2) := by rw [if_pos rfl] at H; exact H
      clear H
      have H := H1
      clear H1
      replace H := Option.bind_eq_some_iff.mp H
      obtain ⟨t1281, A80, H⟩ := H
      replace H : (barscanref04_Pow.j0 k a1 a2 (!t1281) a0_0 a0_1 a0_2) = some (r1, r2) := H
      have A8 := Aside0.mk A80
      clear A80
      have H' := Aside0.mk H
      clear H
      have hcz9_0 : w5.cell? ⟨gb1279, 0, none⟩ = some (.int .i64 a0_0) := (blk_cell BK1279.out 0).trans rfl
      have hcz9_1 : w5.cell? ⟨gb1279, 1, none⟩ = some (.int .i64 a0_1) := (blk_cell BK1279.out 1).trans rfl
      have hcz9_2 : w5.cell? ⟨gb1279, 2, none⟩ = some (.int .i64 a0_2) := (blk_cell BK1279.out 2).trans rfl
      have hfz9_0 := blk_frozen BK1279.out 0
      have hfz9_1 := blk_frozen BK1279.out 1
      have hfz9_2 := blk_frozen BK1279.out 2
      go_wp2_with (first | ((with_reducible refine gate_callee (f := 26) rfl ?_); refine goesL_ (some 9) rfl rfl Try.func26 (by kernel_rfl) rfl #[.agg #[.int .i64 a0_0, .int .i64 a0_1, .int .i64 a0_2]] rfl (by (try simp only [List.map_toArray, List.map_cons, List.map_nil]); first | done | rfl | (simp only [List.length_drop, List.length_take]; rfl)) ?_; (with_reducible refine (barscanref04_Valid.calls k a0_0 a0_1 a0_2 true _ A6.out).mono ?_); rintro e w10 ⟨rfl, hb⟩; refine ⟨_, rfl, ?_⟩; have n0_ := Aside0.mk (blk_below (g := gb1279) (o := .cells #[.int .i64 a0_0, .int .i64 a0_1, .int .i64 a0_2] 23 (0, 0)) (by (with_reducible repeat (first | refine blk_drewN ?_ _ | refine blk_drew ?_ | refine blk_alloc ?_ _)); exact BK1279.out) hb); have n1_ := Aside0.mk (below_step (by repeat (first | (with_reducible first | exact HB.out | apply below_alloc | apply pw_below_drewN | apply below_drew1 | refine below_set ?_ GE1279.out) | exact HB.out)) hb); clear BK1279; clear HB; have BK1279 := n0_; have HB := n1_; clear n0_ n1_; (try clear hb); (try clear hb2); (try clear hk); (try clear hi); have hcz11_0 : w10.cell? ⟨gb1279, 0, none⟩ = some (.int .i64 a0_0) := (blk_cell BK1279.out 0).trans rfl; have hcz11_1 : w10.cell? ⟨gb1279, 1, none⟩ = some (.int .i64 a0_1) := (blk_cell BK1279.out 1).trans rfl; have hcz11_2 : w10.cell? ⟨gb1279, 2, none⟩ = some (.int .i64 a0_2) := (blk_cell BK1279.out 2).trans rfl; have hfz11_0 := blk_frozen BK1279.out 0; have hfz11_1 := blk_frozen BK1279.out 1; have hfz11_2 := blk_frozen BK1279.out 2) | (go_at_call 44; (with_reducible refine (barscanref04_Is.calls a0_0 a0_1 a0_2 a1 t1281 _ A8.out).mono ?_); rintro e w12 ⟨rfl, hb⟩; have n0_ := Aside0.mk (blk_below (g := gb1279) (o := .cells #[.int .i64 a0_0, .int .i64 a0_1, .int .i64 a0_2] 23 (0, 0)) (by (with_reducible repeat (first | refine blk_drewN ?_ _ | refine blk_drew ?_ | refine blk_alloc ?_ _)); exact BK1279.out) hb); have n1_ := Aside0.mk (below_step (by repeat (first | (with_reducible first | exact HB.out | apply below_alloc | apply pw_below_drewN | apply below_drew1 | refine below_set ?_ GE1279.out) | exact HB.out)) hb); clear BK1279; clear HB; have BK1279 := n0_; have HB := n1_; clear n0_ n1_; (try clear hb); (try clear hb2); (try clear hk); (try clear hi)))
      go_meet
      case rel => exact ⟨_, (!t1281), (by first | rfl | (simp; done) | (simp [*]; done)), H', ⟨by first | omega | exact Nat.le_refl _⟩, ⟨by (with_reducible repeat (first | refine blk_drewN ?_ _ | refine blk_drew ?_ | refine blk_alloc ?_ _)); exact BK1279.out⟩, ⟨by repeat (first | (with_reducible first | exact HB.out | apply below_alloc | apply pw_below_drewN | apply below_drew1 | refine below_set ?_ GE1279.out) | exact HB.out)⟩⟩
    · replace c7 := Bool.eq_false_iff.mpr c7
      subst c7
      have H1 : (barscanref04_Pow.j0 k a1 a2 true a0_0 a0_1 a0_2) = some (r1, r2) := by rw [if_neg (show ¬ (false = true) by decide)] at H; exact H
      clear H
      have H := H1
      clear H1
      have H' := Aside0.mk H
      clear H
      have hcz13_0 : w5.cell? ⟨gb1279, 0, none⟩ = some (.int .i64 a0_0) := (blk_cell BK1279.out 0).trans rfl
      have hcz13_1 : w5.cell? ⟨gb1279, 1, none⟩ = some (.int .i64 a0_1) := (blk_cell BK1279.out 1).trans rfl
      have hcz13_2 : w5.cell? ⟨gb1279, 2, none⟩ = some (.int .i64 a0_2) := (blk_cell BK1279.out 2).trans rfl
      have hfz13_0 := blk_frozen BK1279.out 0
      have hfz13_1 := blk_frozen BK1279.out 1
      have hfz13_2 := blk_frozen BK1279.out 2
      go_wp2_with (first | ((with_reducible refine gate_callee (f := 26) rfl ?_); refine goesL_ (some 9) rfl rfl Try.func26 (by kernel_rfl) rfl #[.agg #[.int .i64 a0_0, .int .i64 a0_1, .int .i64 a0_2]] rfl (by (try simp only [List.map_toArray, List.map_cons, List.map_nil]); first | done | rfl | (simp only [List.length_drop, List.length_take]; rfl)) ?_; (with_reducible refine (barscanref04_Valid.calls k a0_0 a0_1 a0_2 false _ A6.out).mono ?_); rintro e w14 ⟨rfl, hb⟩; refine ⟨_, rfl, ?_⟩; have n0_ := Aside0.mk (blk_below (g := gb1279) (o := .cells #[.int .i64 a0_0, .int .i64 a0_1, .int .i64 a0_2] 23 (0, 0)) (by (with_reducible repeat (first | refine blk_drewN ?_ _ | refine blk_drew ?_ | refine blk_alloc ?_ _)); exact BK1279.out) hb); have n1_ := Aside0.mk (below_step (by repeat (first | (with_reducible first | exact HB.out | apply below_alloc | apply pw_below_drewN | apply below_drew1 | refine below_set ?_ GE1279.out) | exact HB.out)) hb); clear BK1279; clear HB; have BK1279 := n0_; have HB := n1_; clear n0_ n1_; (try clear hb); (try clear hb2); (try clear hk); (try clear hi)))
      go_meet
      case rel => exact ⟨_, (true), (by first | rfl | (simp; done) | (simp [*]; done)), H', ⟨by first | omega | exact Nat.le_refl _⟩, ⟨by (with_reducible repeat (first | refine blk_drewN ?_ _ | refine blk_drew ?_ | refine blk_alloc ?_ _)); exact BK1279.out⟩, ⟨by repeat (first | (with_reducible first | exact HB.out | apply below_alloc | apply pw_below_drewN | apply below_drew1 | refine below_set ?_ GE1279.out) | exact HB.out)⟩⟩
  case rest =>
    clear HC4
    try clear c2
    try clear p2
    try clear c5
    try clear c7
    try clear hcz11_0
    try clear hcz11_1
    try clear hcz11_2
    try clear hcz13_0
    try clear hcz13_1
    try clear hcz13_2
    try clear hcz9_0
    try clear hcz9_1
    try clear hcz9_2
    try clear hfz11_0
    try clear hfz11_1
    try clear hfz11_2
    try clear hfz13_0
    try clear hfz13_1
    try clear hfz13_2
    try clear hfz9_0
    try clear hfz9_1
    try clear hfz9_2
    obtain ⟨kq, x16_3, rfl, HA, HJ3, BK1279, HB⟩ := hcut
    cases kq with
    | zero => exact absurd HA.out (by simp [barscanref04_Pow.j0])
    | succ kj3 =>
      have H := HA.out
      clear HA
      simp only [barscanref04_Pow.j0] at H
      by_cases c15 : x16_3 = true
      · subst c15
        have H1 : (some (0, 1)) = some (r1, r2) := by rw [if_pos rfl] at H; exact H
        clear H
        have H := H1
        clear H1
        simp only [Option.some.injEq, Prod.mk.injEq] at H
        obtain ⟨rfl, rfl⟩ := H
        go_wp2
        go_ret2
        exact ⟨by first | rfl | (simp [errW_none, errW_some] <;> rfl) | (simp [*, errW_none, errW_some] <;> rfl), by repeat (first | (with_reducible first | exact HB.out | apply below_alloc | apply pw_below_drewN | apply below_drew1 | refine below_set ?_ GE1279.out) | exact HB.out)⟩
      · replace c15 := Bool.eq_false_iff.mpr c15
        subst c15
        have H1 : (if a1 = 0 then (if a2 < 0 then (some (0, 12)) else ((barscanref04_raise.f kj3 a0_0 a0_1 a0_2 a1 a2).bind fun t1282 => (some (t1282, 0)))) else ((barscanref04_raise.f kj3 a0_0 a0_1 a0_2 a1 a2).bind fun t1283 => (some (t1283, 0)))) = some (r1, r2) := by rw [if_neg (show ¬ (false = true) by decide)] at H; exact H
        clear H
        have H := H1
        clear H1
        by_cases c16 : a1 = 0
        · rw [if_pos c16] at H
          have c16b0 : (a1 == 0) = true := beq_iff_eq.mpr c16
          have c16b1 : (a1 != 0) = false := bne_eq_false_iff_eq.mpr c16
          clear c16
          by_cases c17 : a2 < 0
          · rw [if_pos c17] at H
            have c17b0 : decide (a2 < 0) = true := decide_eq_true c17
            clear c17
            simp only [Option.some.injEq, Prod.mk.injEq] at H
            obtain ⟨rfl, rfl⟩ := H
            go_wp2
            go_ret2
            exact ⟨by first | rfl | (simp [errW_none, errW_some] <;> rfl) | (simp [*, errW_none, errW_some] <;> rfl), by repeat (first | (with_reducible first | exact HB.out | apply below_alloc | apply pw_below_drewN | apply below_drew1 | refine below_set ?_ GE1279.out) | exact HB.out)⟩
          · rw [if_neg c17] at H
            have c17b0 : decide (a2 < 0) = false := decide_eq_false c17
            clear c17
            replace H := Option.bind_eq_some_iff.mp H
            obtain ⟨t1282, A180, H⟩ := H
            replace H : (some (t1282, 0)) = some (r1, r2) := H
            have A18 := Aside0.mk A180
            clear A180
            simp only [Option.some.injEq, Prod.mk.injEq] at H
            obtain ⟨rfl, rfl⟩ := H
            have hcz19_0 : wc.cell? ⟨gb1279, 0, none⟩ = some (.int .i64 a0_0) := (blk_cell BK1279.out 0).trans rfl
            have hcz19_1 : wc.cell? ⟨gb1279, 1, none⟩ = some (.int .i64 a0_1) := (blk_cell BK1279.out 1).trans rfl
            have hcz19_2 : wc.cell? ⟨gb1279, 2, none⟩ = some (.int .i64 a0_2) := (blk_cell BK1279.out 2).trans rfl
            have hfz19_0 := blk_frozen BK1279.out 0
            have hfz19_1 := blk_frozen BK1279.out 1
            have hfz19_2 := blk_frozen BK1279.out 2
            go_wp2_with (first | ((with_reducible refine gate_callee (f := 108) rfl ?_); refine goesL_ (some 26) rfl rfl Try.func108 (by kernel_rfl) rfl #[.agg #[.int .i64 a0_0, .int .i64 a0_1, .int .i64 a0_2], .int .i64 a1, .int .i64 a2] rfl (by (try simp only [List.map_toArray, List.map_cons, List.map_nil]); first | done | rfl | (simp only [List.length_drop, List.length_take]; rfl)) ?_; (with_reducible refine (barscanref04_raise.calls kj3 a0_0 a0_1 a0_2 a1 a2 t1282 _ A18.out).mono ?_); rintro e w20 ⟨rfl, hb⟩; refine ⟨_, rfl, ?_⟩; have n0_ := Aside0.mk (blk_below (g := gb1279) (o := .cells #[.int .i64 a0_0, .int .i64 a0_1, .int .i64 a0_2] 23 (0, 0)) (by (with_reducible repeat (first | refine blk_drewN ?_ _ | refine blk_drew ?_ | refine blk_alloc ?_ _)); exact BK1279.out) hb); have n1_ := Aside0.mk (below_step (by repeat (first | (with_reducible first | exact HB.out | apply below_alloc | apply pw_below_drewN | apply below_drew1 | refine below_set ?_ GE1279.out) | exact HB.out)) hb); clear BK1279; clear HB; have BK1279 := n0_; have HB := n1_; clear n0_ n1_; (try clear hb); (try clear hb2); (try clear hk); (try clear hi)))
            go_ret2
            exact ⟨by first | rfl | (simp [errW_none, errW_some] <;> rfl) | (simp [*, errW_none, errW_some] <;> rfl), by repeat (first | (with_reducible first | exact HB.out | apply below_alloc | apply pw_below_drewN | apply below_drew1 | refine below_set ?_ GE1279.out) | exact HB.out)⟩
        · rw [if_neg c16] at H
          have c16b0 : (a1 == 0) = false := beq_eq_false_iff_ne.mpr c16
          have c16b1 : (a1 != 0) = true := bne_iff_ne.mpr c16
          replace H := Option.bind_eq_some_iff.mp H
          obtain ⟨t1283, A210, H⟩ := H
          replace H : (some (t1283, 0)) = some (r1, r2) := H
          have A21 := Aside0.mk A210
          clear A210
          simp only [Option.some.injEq, Prod.mk.injEq] at H
          obtain ⟨rfl, rfl⟩ := H
          have hcz22_0 : wc.cell? ⟨gb1279, 0, none⟩ = some (.int .i64 a0_0) := (blk_cell BK1279.out 0).trans rfl
          have hcz22_1 : wc.cell? ⟨gb1279, 1, none⟩ = some (.int .i64 a0_1) := (blk_cell BK1279.out 1).trans rfl
          have hcz22_2 : wc.cell? ⟨gb1279, 2, none⟩ = some (.int .i64 a0_2) := (blk_cell BK1279.out 2).trans rfl
          have hfz22_0 := blk_frozen BK1279.out 0
          have hfz22_1 := blk_frozen BK1279.out 1
          have hfz22_2 := blk_frozen BK1279.out 2
          go_wp2_with (first | ((with_reducible refine gate_callee (f := 108) rfl ?_); refine goesL_ (some 26) rfl rfl Try.func108 (by kernel_rfl) rfl #[.agg #[.int .i64 a0_0, .int .i64 a0_1, .int .i64 a0_2], .int .i64 a1, .int .i64 a2] rfl (by (try simp only [List.map_toArray, List.map_cons, List.map_nil]); first | done | rfl | (simp only [List.length_drop, List.length_take]; rfl)) ?_; (with_reducible refine (barscanref04_raise.calls kj3 a0_0 a0_1 a0_2 a1 a2 t1283 _ A21.out).mono ?_); rintro e w23 ⟨rfl, hb⟩; refine ⟨_, rfl, ?_⟩; have n0_ := Aside0.mk (blk_below (g := gb1279) (o := .cells #[.int .i64 a0_0, .int .i64 a0_1, .int .i64 a0_2] 23 (0, 0)) (by (with_reducible repeat (first | refine blk_drewN ?_ _ | refine blk_drew ?_ | refine blk_alloc ?_ _)); exact BK1279.out) hb); have n1_ := Aside0.mk (below_step (by repeat (first | (with_reducible first | exact HB.out | apply below_alloc | apply pw_below_drewN | apply below_drew1 | refine below_set ?_ GE1279.out) | exact HB.out)) hb); clear BK1279; clear HB; have BK1279 := n0_; have HB := n1_; clear n0_ n1_; (try clear hb); (try clear hb2); (try clear hk); (try clear hi)))
          go_ret2
          exact ⟨by first | rfl | (simp [errW_none, errW_some] <;> rfl) | (simp [*, errW_none, errW_some] <;> rfl), by repeat (first | (with_reducible first | exact HB.out | apply below_alloc | apply pw_below_drewN | apply below_drew1 | refine below_set ?_ GE1279.out) | exact HB.out)⟩

end Go.Proofs.Ytlhaclammaaabaa.Pg
