-- Written by a program of this session over the print of the kit.
import Derived.Test.YtlhaclammaaabaaP0
import Derived.Test.YtlhaclammaaabaaP14
import Derived.Test.YtlhaclammaaabaaP15
import Derived.Test.YtlhaclammaaabaaP16
import Derived.Test.YtlhaclammaaabaaP17
import Derived.Test.YtlhaclammaaabaaP25
import Derived.Test.YtlhaclammaaabaaP26
import Derived.Test.YtlhaclammaaabaaP28
import Derived.Test.YtlhaclammaaabaaP29
namespace Go.Proofs.Ytlhaclammaaabaa.Pg
open Go.RowKit Go.Proofs.YtlhaclammaaabaaW.PrintWords Go.Proofs.YtlhaclammaaabaaW.PrintLast Go.Proofs.YtlhaclammaaabaaW.PrintMore
attribute [local go_sem] max2_int min2_int max_two min_two max_three min_three max_four min_four   -- for this text's walks alone
set_option linter.unusedVariables false
set_option linter.unusedSimpArgs false

theorem tS30_0 {p : Prop} (h : p := by (try simp only [List.map_toArray, List.map_cons, List.map_nil]); first | done | rfl | (simp only [List.length_drop, List.length_take]; rfl)) : p := h
/-! ### barscanlaw04_GaloisCalculates: function 5 -/
mutual
def barscanlaw04_GaloisCalculates.j0 : Nat → Bool → Int → Int → Int → Int → Int → Int → Option (Bool)
  | 0, _, _, _, _, _, _, _ => none
  | k + 1, x68, x304000, x304001, x304002, x304003, x304004, x304005 => if x68 = true then (some false) else ((galois_Mul.f k x304000 x304001 x304002 x304003 x304004).bind fun bt312 => ((barscanref04_Mul.f k x304000 x304001 x304002 x304003 x304004).bind fun bt314 => ((galois_Div.f k x304000 x304001 x304002 x304003 x304004).bind fun bt316 => ((barscanref04_Div.f k x304000 x304001 x304002 x304003 x304004).bind fun bt318 => (if bt312.1 = bt314.1 then (if bt312.2 = bt314.2 then (if bt316.1 = bt318.1 then (barscanlaw04_GaloisCalculates.j1 k (bt316.2 != bt318.2) x304000 x304001 x304002 x304003 x304004 x304005) else (barscanlaw04_GaloisCalculates.j1 k true x304000 x304001 x304002 x304003 x304004 x304005)) else (barscanlaw04_GaloisCalculates.j1 k true x304000 x304001 x304002 x304003 x304004 x304005)) else (barscanlaw04_GaloisCalculates.j1 k true x304000 x304001 x304002 x304003 x304004 x304005))))))
def barscanlaw04_GaloisCalculates.j1 : Nat → Bool → Int → Int → Int → Int → Int → Int → Option (Bool)
  | 0, _, _, _, _, _, _, _ => none
  | k + 1, x126, x304000, x304001, x304002, x304003, x304004, x304005 => if x126 = true then (some false) else ((galois_Inv.f k x304000 x304001 x304002 x304003).bind fun bt320 => ((barscanref04_Inv.f k x304000 x304001 x304002 x304003).bind fun bt322 => (if bt320.1 = bt322.1 then (if bt320.2 = bt322.2 then ((barscanlaw04_alive.f k).bind fun t324 => (some t324)) else (some false)) else (some false))))
end
def barscanlaw04_GaloisCalculates.f (k : Nat) (a0_0 : Int) (a0_1 : Int) (a0_2 : Int) (a0_3 : Int) (a0_4 : Int) (a0_5 : Int) : Option (Bool) := (galois_Add.f k a0_0 a0_1 a0_2 a0_3 a0_4).bind fun bt304 => ((barscanref04_Add.f k a0_0 a0_1 a0_2 a0_3 a0_4).bind fun bt306 => ((galois_Sub.f k a0_0 a0_1 a0_2 a0_3 a0_4).bind fun bt308 => ((barscanref04_Sub.f k a0_0 a0_1 a0_2 a0_3 a0_4).bind fun bt310 => (if bt304.1 = bt306.1 then (if bt304.2 = bt306.2 then (if bt308.1 = bt310.1 then (barscanlaw04_GaloisCalculates.j0 k (bt308.2 != bt310.2) a0_0 a0_1 a0_2 a0_3 a0_4 a0_5) else (barscanlaw04_GaloisCalculates.j0 k true a0_0 a0_1 a0_2 a0_3 a0_4 a0_5)) else (barscanlaw04_GaloisCalculates.j0 k true a0_0 a0_1 a0_2 a0_3 a0_4 a0_5)) else (barscanlaw04_GaloisCalculates.j0 k true a0_0 a0_1 a0_2 a0_3 a0_4 a0_5)))))
theorem barscanlaw04_GaloisCalculates.mono_l : ∀ k, (∀ y0 y1 y2 y3 y4 y5 y6, LeO (barscanlaw04_GaloisCalculates.j0 k y0 y1 y2 y3 y4 y5 y6) (barscanlaw04_GaloisCalculates.j0 (k + 1) y0 y1 y2 y3 y4 y5 y6)) ∧ (∀ y0 y1 y2 y3 y4 y5 y6, LeO (barscanlaw04_GaloisCalculates.j1 k y0 y1 y2 y3 y4 y5 y6) (barscanlaw04_GaloisCalculates.j1 (k + 1) y0 y1 y2 y3 y4 y5 y6))
  | 0 => ⟨fun _ _ _ _ _ _ _ r h => by simp [barscanlaw04_GaloisCalculates.j0] at h, fun _ _ _ _ _ _ _ r h => by simp [barscanlaw04_GaloisCalculates.j1] at h⟩
  | k + 1 => by
    obtain ⟨ih0, ih1⟩ := barscanlaw04_GaloisCalculates.mono_l k
    refine ⟨?_, ?_⟩
    · intro y0 y1 y2 y3 y4 y5 y6
      unfold barscanlaw04_GaloisCalculates.j0
      repeat' first
      | (with_reducible exact ih0 _ _ _ _ _ _ _)
      | (with_reducible exact ih1 _ _ _ _ _ _ _)
      | (with_reducible exact barscanlaw04_alive.mono _)
      | (with_reducible exact barscanref04_Add.mono _ _ _ _ _ _)
      | (with_reducible exact barscanref04_Div.mono _ _ _ _ _ _)
      | (with_reducible exact barscanref04_Inv.mono _ _ _ _ _)
      | (with_reducible exact barscanref04_Mul.mono _ _ _ _ _ _)
      | (with_reducible exact barscanref04_Sub.mono _ _ _ _ _ _)
      | (with_reducible exact galois_Add.mono _ _ _ _ _ _)
      | (with_reducible exact galois_Div.mono _ _ _ _ _ _)
      | (with_reducible exact galois_Inv.mono _ _ _ _ _)
      | (with_reducible exact galois_Mul.mono _ _ _ _ _ _)
      | (with_reducible exact galois_Sub.mono _ _ _ _ _ _)
      | (with_reducible exact LeO.refl _)
      | (with_reducible exact LeO.none _)
      | (with_reducible refine LeO.ite ?_ ?_)
      | (with_reducible refine LeO.bind ?_ (fun _ => ?_))
      | exact ih0 _ _ _ _ _ _ _
      | exact ih1 _ _ _ _ _ _ _
      | exact barscanlaw04_alive.mono _
      | exact barscanref04_Add.mono _ _ _ _ _ _
      | exact barscanref04_Div.mono _ _ _ _ _ _
      | exact barscanref04_Inv.mono _ _ _ _ _
      | exact barscanref04_Mul.mono _ _ _ _ _ _
      | exact barscanref04_Sub.mono _ _ _ _ _ _
      | exact galois_Add.mono _ _ _ _ _ _
      | exact galois_Div.mono _ _ _ _ _ _
      | exact galois_Inv.mono _ _ _ _ _
      | exact galois_Mul.mono _ _ _ _ _ _
      | exact galois_Sub.mono _ _ _ _ _ _
      | exact LeO.none _
      | refine LeO.ite ?_ ?_
      | refine LeO.bind ?_ (fun _ => ?_)
    · intro y0 y1 y2 y3 y4 y5 y6
      unfold barscanlaw04_GaloisCalculates.j1
      repeat' first
      | (with_reducible exact ih0 _ _ _ _ _ _ _)
      | (with_reducible exact ih1 _ _ _ _ _ _ _)
      | (with_reducible exact barscanlaw04_alive.mono _)
      | (with_reducible exact barscanref04_Add.mono _ _ _ _ _ _)
      | (with_reducible exact barscanref04_Div.mono _ _ _ _ _ _)
      | (with_reducible exact barscanref04_Inv.mono _ _ _ _ _)
      | (with_reducible exact barscanref04_Mul.mono _ _ _ _ _ _)
      | (with_reducible exact barscanref04_Sub.mono _ _ _ _ _ _)
      | (with_reducible exact galois_Add.mono _ _ _ _ _ _)
      | (with_reducible exact galois_Div.mono _ _ _ _ _ _)
      | (with_reducible exact galois_Inv.mono _ _ _ _ _)
      | (with_reducible exact galois_Mul.mono _ _ _ _ _ _)
      | (with_reducible exact galois_Sub.mono _ _ _ _ _ _)
      | (with_reducible exact LeO.refl _)
      | (with_reducible exact LeO.none _)
      | (with_reducible refine LeO.ite ?_ ?_)
      | (with_reducible refine LeO.bind ?_ (fun _ => ?_))
      | exact ih0 _ _ _ _ _ _ _
      | exact ih1 _ _ _ _ _ _ _
      | exact barscanlaw04_alive.mono _
      | exact barscanref04_Add.mono _ _ _ _ _ _
      | exact barscanref04_Div.mono _ _ _ _ _ _
      | exact barscanref04_Inv.mono _ _ _ _ _
      | exact barscanref04_Mul.mono _ _ _ _ _ _
      | exact barscanref04_Sub.mono _ _ _ _ _ _
      | exact galois_Add.mono _ _ _ _ _ _
      | exact galois_Div.mono _ _ _ _ _ _
      | exact galois_Inv.mono _ _ _ _ _
      | exact galois_Mul.mono _ _ _ _ _ _
      | exact galois_Sub.mono _ _ _ _ _ _
      | exact LeO.none _
      | refine LeO.ite ?_ ?_
      | refine LeO.bind ?_ (fun _ => ?_)
theorem barscanlaw04_GaloisCalculates.mono : ∀ a0 a1 a2 a3 a4 a5 k, LeO (barscanlaw04_GaloisCalculates.f k a0 a1 a2 a3 a4 a5) (barscanlaw04_GaloisCalculates.f (k + 1) a0 a1 a2 a3 a4 a5) := by
  intro a0 a1 a2 a3 a4 a5 k
  obtain ⟨ih0, ih1⟩ := barscanlaw04_GaloisCalculates.mono_l k
  unfold barscanlaw04_GaloisCalculates.f
  repeat' first
      | (with_reducible exact ih0 _ _ _ _ _ _ _)
      | (with_reducible exact ih1 _ _ _ _ _ _ _)
      | (with_reducible exact barscanlaw04_alive.mono _)
      | (with_reducible exact barscanref04_Add.mono _ _ _ _ _ _)
      | (with_reducible exact barscanref04_Div.mono _ _ _ _ _ _)
      | (with_reducible exact barscanref04_Inv.mono _ _ _ _ _)
      | (with_reducible exact barscanref04_Mul.mono _ _ _ _ _ _)
      | (with_reducible exact barscanref04_Sub.mono _ _ _ _ _ _)
      | (with_reducible exact galois_Add.mono _ _ _ _ _ _)
      | (with_reducible exact galois_Div.mono _ _ _ _ _ _)
      | (with_reducible exact galois_Inv.mono _ _ _ _ _)
      | (with_reducible exact galois_Mul.mono _ _ _ _ _ _)
      | (with_reducible exact galois_Sub.mono _ _ _ _ _ _)
      | (with_reducible exact LeO.refl _)
      | (with_reducible exact LeO.none _)
      | (with_reducible refine LeO.ite ?_ ?_)
      | (with_reducible refine LeO.bind ?_ (fun _ => ?_))
      | exact ih0 _ _ _ _ _ _ _
      | exact ih1 _ _ _ _ _ _ _
      | exact barscanlaw04_alive.mono _
      | exact barscanref04_Add.mono _ _ _ _ _ _
      | exact barscanref04_Div.mono _ _ _ _ _ _
      | exact barscanref04_Inv.mono _ _ _ _ _
      | exact barscanref04_Mul.mono _ _ _ _ _ _
      | exact barscanref04_Sub.mono _ _ _ _ _ _
      | exact galois_Add.mono _ _ _ _ _ _
      | exact galois_Div.mono _ _ _ _ _ _
      | exact galois_Inv.mono _ _ _ _ _
      | exact galois_Mul.mono _ _ _ _ _ _
      | exact galois_Sub.mono _ _ _ _ _ _
      | exact LeO.none _
      | refine LeO.ite ?_ ?_
      | refine LeO.bind ?_ (fun _ => ?_)
set_option maxHeartbeats 8000000 in
set_option maxRecDepth 100000 in
theorem barscanlaw04_GaloisCalculates.calls (k : Nat) (a0_0 : Int) (a0_1 : Int) (a0_2 : Int) (a0_3 : Int) (a0_4 : Int) (a0_5 : Int) (r : Bool) (w : World) (h : barscanlaw04_GaloisCalculates.f k a0_0 a0_1 a0_2 a0_3 a0_4 a0_5 = some r) :
    Calls Try.prog 5 #[.agg #[.int .i64 a0_0, .int .i64 a0_1, .int .i64 a0_2, .int .i64 a0_3, .int .i64 a0_4, .int .i64 a0_5]] w fun e w' => e = .returned (.bool r) ∧ Below w.heap.size w w' := by
  have hu32 := Try.underlying32
  have hu23 := Try.underlying23
  have HB := Aside0.mk (Below.refl w.heap.size w)
  have H : ((galois_Add.f k a0_0 a0_1 a0_2 a0_3 a0_4).bind fun bt304 => ((barscanref04_Add.f k a0_0 a0_1 a0_2 a0_3 a0_4).bind fun bt306 => ((galois_Sub.f k a0_0 a0_1 a0_2 a0_3 a0_4).bind fun bt308 => ((barscanref04_Sub.f k a0_0 a0_1 a0_2 a0_3 a0_4).bind fun bt310 => (if bt304.1 = bt306.1 then (if bt304.2 = bt306.2 then (if bt308.1 = bt310.1 then (barscanlaw04_GaloisCalculates.j0 k (bt308.2 != bt310.2) a0_0 a0_1 a0_2 a0_3 a0_4 a0_5) else (barscanlaw04_GaloisCalculates.j0 k true a0_0 a0_1 a0_2 a0_3 a0_4 a0_5)) else (barscanlaw04_GaloisCalculates.j0 k true a0_0 a0_1 a0_2 a0_3 a0_4 a0_5)) else (barscanlaw04_GaloisCalculates.j0 k true a0_0 a0_1 a0_2 a0_3 a0_4 a0_5)))))) = some r := h
  clear h
  replace H := Option.bind_eq_some_iff.mp H
  obtain ⟨⟨t304, t305⟩, A20, H⟩ := H
  replace H : ((barscanref04_Add.f k a0_0 a0_1 a0_2 a0_3 a0_4).bind fun bt306 => ((galois_Sub.f k a0_0 a0_1 a0_2 a0_3 a0_4).bind fun bt308 => ((barscanref04_Sub.f k a0_0 a0_1 a0_2 a0_3 a0_4).bind fun bt310 => (if t304 = bt306.1 then (if t305 = bt306.2 then (if bt308.1 = bt310.1 then (barscanlaw04_GaloisCalculates.j0 k (bt308.2 != bt310.2) a0_0 a0_1 a0_2 a0_3 a0_4 a0_5) else (barscanlaw04_GaloisCalculates.j0 k true a0_0 a0_1 a0_2 a0_3 a0_4 a0_5)) else (barscanlaw04_GaloisCalculates.j0 k true a0_0 a0_1 a0_2 a0_3 a0_4 a0_5)) else (barscanlaw04_GaloisCalculates.j0 k true a0_0 a0_1 a0_2 a0_3 a0_4 a0_5))))) = some r := H
  have A2 := Aside0.mk A20
  clear A20
  replace H := Option.bind_eq_some_iff.mp H
  obtain ⟨⟨t306, t307⟩, A30, H⟩ := H
  replace H : ((galois_Sub.f k a0_0 a0_1 a0_2 a0_3 a0_4).bind fun bt308 => ((barscanref04_Sub.f k a0_0 a0_1 a0_2 a0_3 a0_4).bind fun bt310 => (if t304 = t306 then (if t305 = t307 then (if bt308.1 = bt310.1 then (barscanlaw04_GaloisCalculates.j0 k (bt308.2 != bt310.2) a0_0 a0_1 a0_2 a0_3 a0_4 a0_5) else (barscanlaw04_GaloisCalculates.j0 k true a0_0 a0_1 a0_2 a0_3 a0_4 a0_5)) else (barscanlaw04_GaloisCalculates.j0 k true a0_0 a0_1 a0_2 a0_3 a0_4 a0_5)) else (barscanlaw04_GaloisCalculates.j0 k true a0_0 a0_1 a0_2 a0_3 a0_4 a0_5)))) = some r := H
  have A3 := Aside0.mk A30
  clear A30
  replace H := Option.bind_eq_some_iff.mp H
  obtain ⟨⟨t308, t309⟩, A40, H⟩ := H
  replace H : ((barscanref04_Sub.f k a0_0 a0_1 a0_2 a0_3 a0_4).bind fun bt310 => (if t304 = t306 then (if t305 = t307 then (if t308 = bt310.1 then (barscanlaw04_GaloisCalculates.j0 k (t309 != bt310.2) a0_0 a0_1 a0_2 a0_3 a0_4 a0_5) else (barscanlaw04_GaloisCalculates.j0 k true a0_0 a0_1 a0_2 a0_3 a0_4 a0_5)) else (barscanlaw04_GaloisCalculates.j0 k true a0_0 a0_1 a0_2 a0_3 a0_4 a0_5)) else (barscanlaw04_GaloisCalculates.j0 k true a0_0 a0_1 a0_2 a0_3 a0_4 a0_5))) = some r := H
  have A4 := Aside0.mk A40
  clear A40
  replace H := Option.bind_eq_some_iff.mp H
  obtain ⟨⟨t310, t311⟩, A50, H⟩ := H
  replace H : (if t304 = t306 then (if t305 = t307 then (if t308 = t310 then (barscanlaw04_GaloisCalculates.j0 k (t309 != t311) a0_0 a0_1 a0_2 a0_3 a0_4 a0_5) else (barscanlaw04_GaloisCalculates.j0 k true a0_0 a0_1 a0_2 a0_3 a0_4 a0_5)) else (barscanlaw04_GaloisCalculates.j0 k true a0_0 a0_1 a0_2 a0_3 a0_4 a0_5)) else (barscanlaw04_GaloisCalculates.j0 k true a0_0 a0_1 a0_2 a0_3 a0_4 a0_5)) = some r := H
  have A5 := Aside0.mk A50
  clear A50
  have HC6 := Aside0.mk H
  clear H
  go_enter Try.func5, Try.ntmps5
  go_upto_region 5 with (first | ((with_reducible refine gate_dst (N := 1) rfl ?_); refine box_event ?hg (N := 1) ?hd (cs := #[.int .i64 a0_0, .int .i64 a0_1, .int .i64 a0_2, .int .i64 a0_3, .int .i64 a0_4, .int .i64 a0_5]) (t := 32) ?hr ?_; (case hd => rfl); (case hg => rfl); (case hr => first | (go_simp; done) | (go_simp; rfl)); intro gb303 hg w7 hbox hb; have n0_ := Aside0.mk (below_step (by repeat (first | (with_reducible first | exact HB.out | apply below_alloc | apply pw_below_drewN | apply below_drew1) | exact HB.out)) hb); have n1_ := Aside0.mk (hbox); have n2_ := Aside0.mk ((by rw [hg]; exact (below_size (by repeat (first | (with_reducible first | exact HB.out | apply below_alloc | apply pw_below_drewN | apply below_drew1) | exact HB.out))) : w.heap.size ≤ gb303)); have n3_ := Aside0.mk ((by rw [hg]; exact (below_size (by repeat (first | (with_reducible first | exact HB.out | apply below_alloc | apply pw_below_drewN | apply below_drew1) | exact HB.out))) : w.heap.size ≤ gb303)); clear HB; have HB := n0_; have BK303 := n1_; have GW303 := n2_; have GE303 := n3_; clear n0_ n1_ n2_ n3_; clear hb hbox hg; have hcz8_0 : w7.cell? ⟨gb303, 0, none⟩ = some (.int .i64 a0_0) := (blk_cell BK303.out 0).trans rfl; have hcz8_1 : w7.cell? ⟨gb303, 1, none⟩ = some (.int .i64 a0_1) := (blk_cell BK303.out 1).trans rfl; have hcz8_2 : w7.cell? ⟨gb303, 2, none⟩ = some (.int .i64 a0_2) := (blk_cell BK303.out 2).trans rfl; have hcz8_3 : w7.cell? ⟨gb303, 3, none⟩ = some (.int .i64 a0_3) := (blk_cell BK303.out 3).trans rfl; have hcz8_4 : w7.cell? ⟨gb303, 4, none⟩ = some (.int .i64 a0_4) := (blk_cell BK303.out 4).trans rfl; have hcz8_5 : w7.cell? ⟨gb303, 5, none⟩ = some (.int .i64 a0_5) := (blk_cell BK303.out 5).trans rfl; have hfz8_0 := blk_frozen BK303.out 0; have hfz8_1 := blk_frozen BK303.out 1; have hfz8_2 := blk_frozen BK303.out 2; have hfz8_3 := blk_frozen BK303.out 3; have hfz8_4 := blk_frozen BK303.out 4; have hfz8_5 := blk_frozen BK303.out 5) | ((with_reducible refine gate_callee (f := 34) rfl ?_); refine goesL_ (some 18) rfl rfl Try.func34 (by kernel_rfl) rfl #[.agg #[.int .i64 a0_0, .int .i64 a0_1, .int .i64 a0_2], .int .i64 a0_3, .int .i64 a0_4] rfl tS30_0 ?_; (with_reducible refine (galois_Add.calls k a0_0 a0_1 a0_2 a0_3 a0_4 t304 t305 _ A2.out).mono ?_); rintro e w9 ⟨rfl, hb⟩; refine ⟨_, rfl, ?_⟩; have n0_ := Aside0.mk (blk_below (g := gb303) (o := .cells #[.int .i64 a0_0, .int .i64 a0_1, .int .i64 a0_2, .int .i64 a0_3, .int .i64 a0_4, .int .i64 a0_5] 32 (0, 0)) (by (with_reducible repeat (first | refine blk_drewN ?_ _ | refine blk_drew ?_ | refine blk_alloc ?_ _)); exact BK303.out) hb); have n1_ := Aside0.mk (below_step (by repeat (first | (with_reducible first | exact HB.out | apply below_alloc | apply pw_below_drewN | apply below_drew1 | refine below_set ?_ GE303.out) | exact HB.out)) hb); clear BK303; clear HB; have BK303 := n0_; have HB := n1_; clear n0_ n1_; (try clear hb); (try clear hb2); (try clear hk); (try clear hi); have hcz10_0 : w9.cell? ⟨gb303, 0, none⟩ = some (.int .i64 a0_0) := (blk_cell BK303.out 0).trans rfl; have hcz10_1 : w9.cell? ⟨gb303, 1, none⟩ = some (.int .i64 a0_1) := (blk_cell BK303.out 1).trans rfl; have hcz10_2 : w9.cell? ⟨gb303, 2, none⟩ = some (.int .i64 a0_2) := (blk_cell BK303.out 2).trans rfl; have hcz10_3 : w9.cell? ⟨gb303, 3, none⟩ = some (.int .i64 a0_3) := (blk_cell BK303.out 3).trans rfl; have hcz10_4 : w9.cell? ⟨gb303, 4, none⟩ = some (.int .i64 a0_4) := (blk_cell BK303.out 4).trans rfl; have hcz10_5 : w9.cell? ⟨gb303, 5, none⟩ = some (.int .i64 a0_5) := (blk_cell BK303.out 5).trans rfl; have hfz10_0 := blk_frozen BK303.out 0; have hfz10_1 := blk_frozen BK303.out 1; have hfz10_2 := blk_frozen BK303.out 2; have hfz10_3 := blk_frozen BK303.out 3; have hfz10_4 := blk_frozen BK303.out 4; have hfz10_5 := blk_frozen BK303.out 5) | ((with_reducible refine gate_callee (f := 35) rfl ?_); refine goesL_ (some 28) rfl rfl Try.func35 (by kernel_rfl) rfl #[.agg #[.int .i64 a0_0, .int .i64 a0_1, .int .i64 a0_2], .int .i64 a0_3, .int .i64 a0_4] rfl tS30_0 ?_; (with_reducible refine (barscanref04_Add.calls k a0_0 a0_1 a0_2 a0_3 a0_4 t306 t307 _ A3.out).mono ?_); rintro e w11 ⟨rfl, hb⟩; refine ⟨_, rfl, ?_⟩; have n0_ := Aside0.mk (blk_below (g := gb303) (o := .cells #[.int .i64 a0_0, .int .i64 a0_1, .int .i64 a0_2, .int .i64 a0_3, .int .i64 a0_4, .int .i64 a0_5] 32 (0, 0)) (by (with_reducible repeat (first | refine blk_drewN ?_ _ | refine blk_drew ?_ | refine blk_alloc ?_ _)); exact BK303.out) hb); have n1_ := Aside0.mk (below_step (by repeat (first | (with_reducible first | exact HB.out | apply below_alloc | apply pw_below_drewN | apply below_drew1 | refine below_set ?_ GE303.out) | exact HB.out)) hb); clear BK303; clear HB; have BK303 := n0_; have HB := n1_; clear n0_ n1_; (try clear hb); (try clear hb2); (try clear hk); (try clear hi); have hcz12_0 : w11.cell? ⟨gb303, 0, none⟩ = some (.int .i64 a0_0) := (blk_cell BK303.out 0).trans rfl; have hcz12_1 : w11.cell? ⟨gb303, 1, none⟩ = some (.int .i64 a0_1) := (blk_cell BK303.out 1).trans rfl; have hcz12_2 : w11.cell? ⟨gb303, 2, none⟩ = some (.int .i64 a0_2) := (blk_cell BK303.out 2).trans rfl; have hcz12_3 : w11.cell? ⟨gb303, 3, none⟩ = some (.int .i64 a0_3) := (blk_cell BK303.out 3).trans rfl; have hcz12_4 : w11.cell? ⟨gb303, 4, none⟩ = some (.int .i64 a0_4) := (blk_cell BK303.out 4).trans rfl; have hcz12_5 : w11.cell? ⟨gb303, 5, none⟩ = some (.int .i64 a0_5) := (blk_cell BK303.out 5).trans rfl; have hfz12_0 := blk_frozen BK303.out 0; have hfz12_1 := blk_frozen BK303.out 1; have hfz12_2 := blk_frozen BK303.out 2; have hfz12_3 := blk_frozen BK303.out 3; have hfz12_4 := blk_frozen BK303.out 4; have hfz12_5 := blk_frozen BK303.out 5) | ((with_reducible refine gate_callee (f := 36) rfl ?_); refine goesL_ (some 38) rfl rfl Try.func36 (by kernel_rfl) rfl #[.agg #[.int .i64 a0_0, .int .i64 a0_1, .int .i64 a0_2], .int .i64 a0_3, .int .i64 a0_4] rfl tS30_0 ?_; (with_reducible refine (galois_Sub.calls k a0_0 a0_1 a0_2 a0_3 a0_4 t308 t309 _ A4.out).mono ?_); rintro e w13 ⟨rfl, hb⟩; refine ⟨_, rfl, ?_⟩; have n0_ := Aside0.mk (blk_below (g := gb303) (o := .cells #[.int .i64 a0_0, .int .i64 a0_1, .int .i64 a0_2, .int .i64 a0_3, .int .i64 a0_4, .int .i64 a0_5] 32 (0, 0)) (by (with_reducible repeat (first | refine blk_drewN ?_ _ | refine blk_drew ?_ | refine blk_alloc ?_ _)); exact BK303.out) hb); have n1_ := Aside0.mk (below_step (by repeat (first | (with_reducible first | exact HB.out | apply below_alloc | apply pw_below_drewN | apply below_drew1 | refine below_set ?_ GE303.out) | exact HB.out)) hb); clear BK303; clear HB; have BK303 := n0_; have HB := n1_; clear n0_ n1_; (try clear hb); (try clear hb2); (try clear hk); (try clear hi); have hcz14_0 : w13.cell? ⟨gb303, 0, none⟩ = some (.int .i64 a0_0) := (blk_cell BK303.out 0).trans rfl; have hcz14_1 : w13.cell? ⟨gb303, 1, none⟩ = some (.int .i64 a0_1) := (blk_cell BK303.out 1).trans rfl; have hcz14_2 : w13.cell? ⟨gb303, 2, none⟩ = some (.int .i64 a0_2) := (blk_cell BK303.out 2).trans rfl; have hcz14_3 : w13.cell? ⟨gb303, 3, none⟩ = some (.int .i64 a0_3) := (blk_cell BK303.out 3).trans rfl; have hcz14_4 : w13.cell? ⟨gb303, 4, none⟩ = some (.int .i64 a0_4) := (blk_cell BK303.out 4).trans rfl; have hcz14_5 : w13.cell? ⟨gb303, 5, none⟩ = some (.int .i64 a0_5) := (blk_cell BK303.out 5).trans rfl; have hfz14_0 := blk_frozen BK303.out 0; have hfz14_1 := blk_frozen BK303.out 1; have hfz14_2 := blk_frozen BK303.out 2; have hfz14_3 := blk_frozen BK303.out 3; have hfz14_4 := blk_frozen BK303.out 4; have hfz14_5 := blk_frozen BK303.out 5) | ((with_reducible refine gate_callee (f := 37) rfl ?_); refine goesL_ (some 48) rfl rfl Try.func37 (by kernel_rfl) rfl #[.agg #[.int .i64 a0_0, .int .i64 a0_1, .int .i64 a0_2], .int .i64 a0_3, .int .i64 a0_4] rfl tS30_0 ?_; (with_reducible refine (barscanref04_Sub.calls k a0_0 a0_1 a0_2 a0_3 a0_4 t310 t311 _ A5.out).mono ?_); rintro e w15 ⟨rfl, hb⟩; refine ⟨_, rfl, ?_⟩; have n0_ := Aside0.mk (blk_below (g := gb303) (o := .cells #[.int .i64 a0_0, .int .i64 a0_1, .int .i64 a0_2, .int .i64 a0_3, .int .i64 a0_4, .int .i64 a0_5] 32 (0, 0)) (by (with_reducible repeat (first | refine blk_drewN ?_ _ | refine blk_drew ?_ | refine blk_alloc ?_ _)); exact BK303.out) hb); have n1_ := Aside0.mk (below_step (by repeat (first | (with_reducible first | exact HB.out | apply below_alloc | apply pw_below_drewN | apply below_drew1 | refine below_set ?_ GE303.out) | exact HB.out)) hb); clear BK303; clear HB; have BK303 := n0_; have HB := n1_; clear n0_ n1_; (try clear hb); (try clear hb2); (try clear hk); (try clear hi)))
  (try simp only [Act.put, List.setIfInBounds_toArray, List.set_cons_zero, List.set_cons_succ])
  go_cut [68] (fun v68 wc => ∃ (kq : Nat) (x68_5 : Bool), v68 = .bool x68_5 ∧ Aside0 (barscanlaw04_GaloisCalculates.j0 kq x68_5 a0_0 a0_1 a0_2 a0_3 a0_4 a0_5 = some r) ∧ Aside0 (kq ≤ k) ∧ Aside0 (wc.heap[gb303]? = some (.cells #[.int .i64 a0_0, .int .i64 a0_1, .int .i64 a0_2, .int .i64 a0_3, .int .i64 a0_4, .int .i64 a0_5] 32 (0, 0))) ∧ Aside0 (Below w.heap.size w wc))
  case first =>
    have H := HC6.out
    clear HC6
    by_cases c16 : t304 = t306
    · rw [if_pos c16] at H
      have c16b0 : (t304 == t306) = true := beq_iff_eq.mpr c16
      have c16b1 : (t304 != t306) = false := bne_eq_false_iff_eq.mpr c16
      clear c16
      (first | rw [c16b0] | (simp only [i64_w, i32_w]; rw [c16b0]) | skip)
      by_cases c17 : t305 = t307
      · rw [if_pos c17] at H
        have c17b0 : (t305 == t307) = true := beq_iff_eq.mpr c17
        have c17b1 : (t305 != t307) = false := bne_eq_false_iff_eq.mpr c17
        clear c17
        by_cases c18 : t308 = t310
        · rw [if_pos c18] at H
          have c18b0 : (t308 == t310) = true := beq_iff_eq.mpr c18
          have c18b1 : (t308 != t310) = false := bne_eq_false_iff_eq.mpr c18
          clear c18
          have H' := Aside0.mk H
          clear H
          go_wp2
          go_meet
          case rel => exact ⟨_, ((t309 != t311)), (by first | rfl | (simp; done) | (simp [*]; done)), H', ⟨by first | omega | exact Nat.le_refl _⟩, ⟨by (with_reducible repeat (first | refine blk_drewN ?_ _ | refine blk_drew ?_ | refine blk_alloc ?_ _)); exact BK303.out⟩, ⟨by repeat (first | (with_reducible first | exact HB.out | apply below_alloc | apply pw_below_drewN | apply below_drew1 | refine below_set ?_ GE303.out) | exact HB.out)⟩⟩
        · rw [if_neg c18] at H
          have c18b0 : (t308 == t310) = false := beq_eq_false_iff_ne.mpr c18
          have c18b1 : (t308 != t310) = true := bne_iff_ne.mpr c18
          have H' := Aside0.mk H
          clear H
          go_wp2
          go_meet
          case rel => exact ⟨_, (true), (by first | rfl | (simp; done) | (simp [*]; done)), H', ⟨by first | omega | exact Nat.le_refl _⟩, ⟨by (with_reducible repeat (first | refine blk_drewN ?_ _ | refine blk_drew ?_ | refine blk_alloc ?_ _)); exact BK303.out⟩, ⟨by repeat (first | (with_reducible first | exact HB.out | apply below_alloc | apply pw_below_drewN | apply below_drew1 | refine below_set ?_ GE303.out) | exact HB.out)⟩⟩
      · rw [if_neg c17] at H
        have c17b0 : (t305 == t307) = false := beq_eq_false_iff_ne.mpr c17
        have c17b1 : (t305 != t307) = true := bne_iff_ne.mpr c17
        have H' := Aside0.mk H
        clear H
        go_wp2
        go_meet
        case rel => exact ⟨_, (true), (by first | rfl | (simp; done) | (simp [*]; done)), H', ⟨by first | omega | exact Nat.le_refl _⟩, ⟨by (with_reducible repeat (first | refine blk_drewN ?_ _ | refine blk_drew ?_ | refine blk_alloc ?_ _)); exact BK303.out⟩, ⟨by repeat (first | (with_reducible first | exact HB.out | apply below_alloc | apply pw_below_drewN | apply below_drew1 | refine below_set ?_ GE303.out) | exact HB.out)⟩⟩
    · rw [if_neg c16] at H
      have c16b0 : (t304 == t306) = false := beq_eq_false_iff_ne.mpr c16
      have c16b1 : (t304 != t306) = true := bne_iff_ne.mpr c16
      (first | rw [c16b0] | (simp only [i64_w, i32_w]; rw [c16b0]) | skip)
      have H' := Aside0.mk H
      clear H
      go_wp2
      go_meet
      case rel => exact ⟨_, (true), (by first | rfl | (simp; done) | (simp [*]; done)), H', ⟨by first | omega | exact Nat.le_refl _⟩, ⟨by (with_reducible repeat (first | refine blk_drewN ?_ _ | refine blk_drew ?_ | refine blk_alloc ?_ _)); exact BK303.out⟩, ⟨by repeat (first | (with_reducible first | exact HB.out | apply below_alloc | apply pw_below_drewN | apply below_drew1 | refine below_set ?_ GE303.out) | exact HB.out)⟩⟩
  case rest =>
    clear HC6
    try clear c1
    try clear p2
    try clear c3
    try clear c5
    try clear c16
    try clear c16b0
    try clear c16b1
    try clear c17
    try clear c17b0
    try clear c17b1
    try clear c18
    try clear c18b0
    try clear c18b1
    try clear hcz10_0
    try clear hcz10_1
    try clear hcz10_2
    try clear hcz10_3
    try clear hcz10_4
    try clear hcz10_5
    try clear hcz12_0
    try clear hcz12_1
    try clear hcz12_2
    try clear hcz12_3
    try clear hcz12_4
    try clear hcz12_5
    try clear hcz14_0
    try clear hcz14_1
    try clear hcz14_2
    try clear hcz14_3
    try clear hcz14_4
    try clear hcz14_5
    try clear hcz8_0
    try clear hcz8_1
    try clear hcz8_2
    try clear hcz8_3
    try clear hcz8_4
    try clear hcz8_5
    try clear hfz10_0
    try clear hfz10_1
    try clear hfz10_2
    try clear hfz10_3
    try clear hfz10_4
    try clear hfz10_5
    try clear hfz12_0
    try clear hfz12_1
    try clear hfz12_2
    try clear hfz12_3
    try clear hfz12_4
    try clear hfz12_5
    try clear hfz14_0
    try clear hfz14_1
    try clear hfz14_2
    try clear hfz14_3
    try clear hfz14_4
    try clear hfz14_5
    try clear hfz8_0
    try clear hfz8_1
    try clear hfz8_2
    try clear hfz8_3
    try clear hfz8_4
    try clear hfz8_5
    obtain ⟨kq, x68_5, rfl, HA, HJ5, BK303, HB⟩ := hcut
    cases kq with
    | zero => exact absurd HA.out (by simp [barscanlaw04_GaloisCalculates.j0])
    | succ kj5 =>
      have H := HA.out
      clear HA
      simp only [barscanlaw04_GaloisCalculates.j0] at H
      by_cases c19 : x68_5 = true
      · subst c19
        have H1 : (some false) = some r := by rw [if_pos rfl] at H; exact H
        clear H
        have H := H1
        clear H1
        obtain rfl := Option.some.inj H
        go_wp2
        go_ret
        exact ⟨by first | rfl | (simp [errW_none, errW_some] <;> rfl) | (simp [*, errW_none, errW_some] <;> rfl), by repeat (first | (with_reducible first | exact HB.out | apply below_alloc | apply pw_below_drewN | apply below_drew1 | refine below_set ?_ GE303.out) | exact HB.out)⟩
      · replace c19 := Bool.eq_false_iff.mpr c19
        subst c19
        have H1 : ((galois_Mul.f kj5 a0_0 a0_1 a0_2 a0_3 a0_4).bind fun bt312 => ((barscanref04_Mul.f kj5 a0_0 a0_1 a0_2 a0_3 a0_4).bind fun bt314 => ((galois_Div.f kj5 a0_0 a0_1 a0_2 a0_3 a0_4).bind fun bt316 => ((barscanref04_Div.f kj5 a0_0 a0_1 a0_2 a0_3 a0_4).bind fun bt318 => (if bt312.1 = bt314.1 then (if bt312.2 = bt314.2 then (if bt316.1 = bt318.1 then (barscanlaw04_GaloisCalculates.j1 kj5 (bt316.2 != bt318.2) a0_0 a0_1 a0_2 a0_3 a0_4 a0_5) else (barscanlaw04_GaloisCalculates.j1 kj5 true a0_0 a0_1 a0_2 a0_3 a0_4 a0_5)) else (barscanlaw04_GaloisCalculates.j1 kj5 true a0_0 a0_1 a0_2 a0_3 a0_4 a0_5)) else (barscanlaw04_GaloisCalculates.j1 kj5 true a0_0 a0_1 a0_2 a0_3 a0_4 a0_5)))))) = some r := by rw [if_neg (show ¬ (false = true) by decide)] at H; exact H
        clear H
        have H := H1
        clear H1
        replace H := Option.bind_eq_some_iff.mp H
        obtain ⟨⟨t312, t313⟩, A200, H⟩ := H
        replace H : ((barscanref04_Mul.f kj5 a0_0 a0_1 a0_2 a0_3 a0_4).bind fun bt314 => ((galois_Div.f kj5 a0_0 a0_1 a0_2 a0_3 a0_4).bind fun bt316 => ((barscanref04_Div.f kj5 a0_0 a0_1 a0_2 a0_3 a0_4).bind fun bt318 => (if t312 = bt314.1 then (if t313 = bt314.2 then (if bt316.1 = bt318.1 then (barscanlaw04_GaloisCalculates.j1 kj5 (bt316.2 != bt318.2) a0_0 a0_1 a0_2 a0_3 a0_4 a0_5) else (barscanlaw04_GaloisCalculates.j1 kj5 true a0_0 a0_1 a0_2 a0_3 a0_4 a0_5)) else (barscanlaw04_GaloisCalculates.j1 kj5 true a0_0 a0_1 a0_2 a0_3 a0_4 a0_5)) else (barscanlaw04_GaloisCalculates.j1 kj5 true a0_0 a0_1 a0_2 a0_3 a0_4 a0_5))))) = some r := H
        have A20 := Aside0.mk A200
        clear A200
        replace H := Option.bind_eq_some_iff.mp H
        obtain ⟨⟨t314, t315⟩, A210, H⟩ := H
        replace H : ((galois_Div.f kj5 a0_0 a0_1 a0_2 a0_3 a0_4).bind fun bt316 => ((barscanref04_Div.f kj5 a0_0 a0_1 a0_2 a0_3 a0_4).bind fun bt318 => (if t312 = t314 then (if t313 = t315 then (if bt316.1 = bt318.1 then (barscanlaw04_GaloisCalculates.j1 kj5 (bt316.2 != bt318.2) a0_0 a0_1 a0_2 a0_3 a0_4 a0_5) else (barscanlaw04_GaloisCalculates.j1 kj5 true a0_0 a0_1 a0_2 a0_3 a0_4 a0_5)) else (barscanlaw04_GaloisCalculates.j1 kj5 true a0_0 a0_1 a0_2 a0_3 a0_4 a0_5)) else (barscanlaw04_GaloisCalculates.j1 kj5 true a0_0 a0_1 a0_2 a0_3 a0_4 a0_5)))) = some r := H
        have A21 := Aside0.mk A210
        clear A210
        replace H := Option.bind_eq_some_iff.mp H
        obtain ⟨⟨t316, t317⟩, A220, H⟩ := H
        replace H : ((barscanref04_Div.f kj5 a0_0 a0_1 a0_2 a0_3 a0_4).bind fun bt318 => (if t312 = t314 then (if t313 = t315 then (if t316 = bt318.1 then (barscanlaw04_GaloisCalculates.j1 kj5 (t317 != bt318.2) a0_0 a0_1 a0_2 a0_3 a0_4 a0_5) else (barscanlaw04_GaloisCalculates.j1 kj5 true a0_0 a0_1 a0_2 a0_3 a0_4 a0_5)) else (barscanlaw04_GaloisCalculates.j1 kj5 true a0_0 a0_1 a0_2 a0_3 a0_4 a0_5)) else (barscanlaw04_GaloisCalculates.j1 kj5 true a0_0 a0_1 a0_2 a0_3 a0_4 a0_5))) = some r := H
        have A22 := Aside0.mk A220
        clear A220
        replace H := Option.bind_eq_some_iff.mp H
        obtain ⟨⟨t318, t319⟩, A230, H⟩ := H
        replace H : (if t312 = t314 then (if t313 = t315 then (if t316 = t318 then (barscanlaw04_GaloisCalculates.j1 kj5 (t317 != t319) a0_0 a0_1 a0_2 a0_3 a0_4 a0_5) else (barscanlaw04_GaloisCalculates.j1 kj5 true a0_0 a0_1 a0_2 a0_3 a0_4 a0_5)) else (barscanlaw04_GaloisCalculates.j1 kj5 true a0_0 a0_1 a0_2 a0_3 a0_4 a0_5)) else (barscanlaw04_GaloisCalculates.j1 kj5 true a0_0 a0_1 a0_2 a0_3 a0_4 a0_5)) = some r := H
        have A23 := Aside0.mk A230
        clear A230
        have HC24 := Aside0.mk H
        clear H
        have hcz25_0 : wc.cell? ⟨gb303, 0, none⟩ = some (.int .i64 a0_0) := (blk_cell BK303.out 0).trans rfl
        have hcz25_1 : wc.cell? ⟨gb303, 1, none⟩ = some (.int .i64 a0_1) := (blk_cell BK303.out 1).trans rfl
        have hcz25_2 : wc.cell? ⟨gb303, 2, none⟩ = some (.int .i64 a0_2) := (blk_cell BK303.out 2).trans rfl
        have hcz25_3 : wc.cell? ⟨gb303, 3, none⟩ = some (.int .i64 a0_3) := (blk_cell BK303.out 3).trans rfl
        have hcz25_4 : wc.cell? ⟨gb303, 4, none⟩ = some (.int .i64 a0_4) := (blk_cell BK303.out 4).trans rfl
        have hcz25_5 : wc.cell? ⟨gb303, 5, none⟩ = some (.int .i64 a0_5) := (blk_cell BK303.out 5).trans rfl
        have hfz25_0 := blk_frozen BK303.out 0
        have hfz25_1 := blk_frozen BK303.out 1
        have hfz25_2 := blk_frozen BK303.out 2
        have hfz25_3 := blk_frozen BK303.out 3
        have hfz25_4 := blk_frozen BK303.out 4
        have hfz25_5 := blk_frozen BK303.out 5
        go_upto_region 11 with (first | ((with_reducible refine gate_callee (f := 38) rfl ?_); refine goesL_ (some 76) rfl rfl Try.func38 (by kernel_rfl) rfl #[.agg #[.int .i64 a0_0, .int .i64 a0_1, .int .i64 a0_2], .int .i64 a0_3, .int .i64 a0_4] rfl tS30_0 ?_; (with_reducible refine (galois_Mul.calls kj5 a0_0 a0_1 a0_2 a0_3 a0_4 t312 t313 _ A20.out).mono ?_); rintro e w26 ⟨rfl, hb⟩; refine ⟨_, rfl, ?_⟩; have n0_ := Aside0.mk (blk_below (g := gb303) (o := .cells #[.int .i64 a0_0, .int .i64 a0_1, .int .i64 a0_2, .int .i64 a0_3, .int .i64 a0_4, .int .i64 a0_5] 32 (0, 0)) (by (with_reducible repeat (first | refine blk_drewN ?_ _ | refine blk_drew ?_ | refine blk_alloc ?_ _)); exact BK303.out) hb); have n1_ := Aside0.mk (below_step (by repeat (first | (with_reducible first | exact HB.out | apply below_alloc | apply pw_below_drewN | apply below_drew1 | refine below_set ?_ GE303.out) | exact HB.out)) hb); clear BK303; clear HB; have BK303 := n0_; have HB := n1_; clear n0_ n1_; (try clear hb); (try clear hb2); (try clear hk); (try clear hi); have hcz27_0 : w26.cell? ⟨gb303, 0, none⟩ = some (.int .i64 a0_0) := (blk_cell BK303.out 0).trans rfl; have hcz27_1 : w26.cell? ⟨gb303, 1, none⟩ = some (.int .i64 a0_1) := (blk_cell BK303.out 1).trans rfl; have hcz27_2 : w26.cell? ⟨gb303, 2, none⟩ = some (.int .i64 a0_2) := (blk_cell BK303.out 2).trans rfl; have hcz27_3 : w26.cell? ⟨gb303, 3, none⟩ = some (.int .i64 a0_3) := (blk_cell BK303.out 3).trans rfl; have hcz27_4 : w26.cell? ⟨gb303, 4, none⟩ = some (.int .i64 a0_4) := (blk_cell BK303.out 4).trans rfl; have hcz27_5 : w26.cell? ⟨gb303, 5, none⟩ = some (.int .i64 a0_5) := (blk_cell BK303.out 5).trans rfl; have hfz27_0 := blk_frozen BK303.out 0; have hfz27_1 := blk_frozen BK303.out 1; have hfz27_2 := blk_frozen BK303.out 2; have hfz27_3 := blk_frozen BK303.out 3; have hfz27_4 := blk_frozen BK303.out 4; have hfz27_5 := blk_frozen BK303.out 5) | ((with_reducible refine gate_callee (f := 39) rfl ?_); refine goesL_ (some 86) rfl rfl Try.func39 (by kernel_rfl) rfl #[.agg #[.int .i64 a0_0, .int .i64 a0_1, .int .i64 a0_2], .int .i64 a0_3, .int .i64 a0_4] rfl tS30_0 ?_; (with_reducible refine (barscanref04_Mul.calls kj5 a0_0 a0_1 a0_2 a0_3 a0_4 t314 t315 _ A21.out).mono ?_); rintro e w28 ⟨rfl, hb⟩; refine ⟨_, rfl, ?_⟩; have n0_ := Aside0.mk (blk_below (g := gb303) (o := .cells #[.int .i64 a0_0, .int .i64 a0_1, .int .i64 a0_2, .int .i64 a0_3, .int .i64 a0_4, .int .i64 a0_5] 32 (0, 0)) (by (with_reducible repeat (first | refine blk_drewN ?_ _ | refine blk_drew ?_ | refine blk_alloc ?_ _)); exact BK303.out) hb); have n1_ := Aside0.mk (below_step (by repeat (first | (with_reducible first | exact HB.out | apply below_alloc | apply pw_below_drewN | apply below_drew1 | refine below_set ?_ GE303.out) | exact HB.out)) hb); clear BK303; clear HB; have BK303 := n0_; have HB := n1_; clear n0_ n1_; (try clear hb); (try clear hb2); (try clear hk); (try clear hi); have hcz29_0 : w28.cell? ⟨gb303, 0, none⟩ = some (.int .i64 a0_0) := (blk_cell BK303.out 0).trans rfl; have hcz29_1 : w28.cell? ⟨gb303, 1, none⟩ = some (.int .i64 a0_1) := (blk_cell BK303.out 1).trans rfl; have hcz29_2 : w28.cell? ⟨gb303, 2, none⟩ = some (.int .i64 a0_2) := (blk_cell BK303.out 2).trans rfl; have hcz29_3 : w28.cell? ⟨gb303, 3, none⟩ = some (.int .i64 a0_3) := (blk_cell BK303.out 3).trans rfl; have hcz29_4 : w28.cell? ⟨gb303, 4, none⟩ = some (.int .i64 a0_4) := (blk_cell BK303.out 4).trans rfl; have hcz29_5 : w28.cell? ⟨gb303, 5, none⟩ = some (.int .i64 a0_5) := (blk_cell BK303.out 5).trans rfl; have hfz29_0 := blk_frozen BK303.out 0; have hfz29_1 := blk_frozen BK303.out 1; have hfz29_2 := blk_frozen BK303.out 2; have hfz29_3 := blk_frozen BK303.out 3; have hfz29_4 := blk_frozen BK303.out 4; have hfz29_5 := blk_frozen BK303.out 5) | ((with_reducible refine gate_callee (f := 40) rfl ?_); refine goesL_ (some 96) rfl rfl Try.func40 (by kernel_rfl) rfl #[.agg #[.int .i64 a0_0, .int .i64 a0_1, .int .i64 a0_2], .int .i64 a0_3, .int .i64 a0_4] rfl tS30_0 ?_; (with_reducible refine (galois_Div.calls kj5 a0_0 a0_1 a0_2 a0_3 a0_4 t316 t317 _ A22.out).mono ?_); rintro e w30 ⟨rfl, hb⟩; refine ⟨_, rfl, ?_⟩; have n0_ := Aside0.mk (blk_below (g := gb303) (o := .cells #[.int .i64 a0_0, .int .i64 a0_1, .int .i64 a0_2, .int .i64 a0_3, .int .i64 a0_4, .int .i64 a0_5] 32 (0, 0)) (by (with_reducible repeat (first | refine blk_drewN ?_ _ | refine blk_drew ?_ | refine blk_alloc ?_ _)); exact BK303.out) hb); have n1_ := Aside0.mk (below_step (by repeat (first | (with_reducible first | exact HB.out | apply below_alloc | apply pw_below_drewN | apply below_drew1 | refine below_set ?_ GE303.out) | exact HB.out)) hb); clear BK303; clear HB; have BK303 := n0_; have HB := n1_; clear n0_ n1_; (try clear hb); (try clear hb2); (try clear hk); (try clear hi); have hcz31_0 : w30.cell? ⟨gb303, 0, none⟩ = some (.int .i64 a0_0) := (blk_cell BK303.out 0).trans rfl; have hcz31_1 : w30.cell? ⟨gb303, 1, none⟩ = some (.int .i64 a0_1) := (blk_cell BK303.out 1).trans rfl; have hcz31_2 : w30.cell? ⟨gb303, 2, none⟩ = some (.int .i64 a0_2) := (blk_cell BK303.out 2).trans rfl; have hcz31_3 : w30.cell? ⟨gb303, 3, none⟩ = some (.int .i64 a0_3) := (blk_cell BK303.out 3).trans rfl; have hcz31_4 : w30.cell? ⟨gb303, 4, none⟩ = some (.int .i64 a0_4) := (blk_cell BK303.out 4).trans rfl; have hcz31_5 : w30.cell? ⟨gb303, 5, none⟩ = some (.int .i64 a0_5) := (blk_cell BK303.out 5).trans rfl; have hfz31_0 := blk_frozen BK303.out 0; have hfz31_1 := blk_frozen BK303.out 1; have hfz31_2 := blk_frozen BK303.out 2; have hfz31_3 := blk_frozen BK303.out 3; have hfz31_4 := blk_frozen BK303.out 4; have hfz31_5 := blk_frozen BK303.out 5) | ((with_reducible refine gate_callee (f := 41) rfl ?_); refine goesL_ (some 106) rfl rfl Try.func41 (by kernel_rfl) rfl #[.agg #[.int .i64 a0_0, .int .i64 a0_1, .int .i64 a0_2], .int .i64 a0_3, .int .i64 a0_4] rfl tS30_0 ?_; (with_reducible refine (barscanref04_Div.calls kj5 a0_0 a0_1 a0_2 a0_3 a0_4 t318 t319 _ A23.out).mono ?_); rintro e w32 ⟨rfl, hb⟩; refine ⟨_, rfl, ?_⟩; have n0_ := Aside0.mk (blk_below (g := gb303) (o := .cells #[.int .i64 a0_0, .int .i64 a0_1, .int .i64 a0_2, .int .i64 a0_3, .int .i64 a0_4, .int .i64 a0_5] 32 (0, 0)) (by (with_reducible repeat (first | refine blk_drewN ?_ _ | refine blk_drew ?_ | refine blk_alloc ?_ _)); exact BK303.out) hb); have n1_ := Aside0.mk (below_step (by repeat (first | (with_reducible first | exact HB.out | apply below_alloc | apply pw_below_drewN | apply below_drew1 | refine below_set ?_ GE303.out) | exact HB.out)) hb); clear BK303; clear HB; have BK303 := n0_; have HB := n1_; clear n0_ n1_; (try clear hb); (try clear hb2); (try clear hk); (try clear hi)))
        (try simp only [Act.put, List.setIfInBounds_toArray, List.set_cons_zero, List.set_cons_succ])
        go_cut [126] (fun v126 wc => ∃ (kq : Nat) (x126_23 : Bool), v126 = .bool x126_23 ∧ Aside0 (barscanlaw04_GaloisCalculates.j1 kq x126_23 a0_0 a0_1 a0_2 a0_3 a0_4 a0_5 = some r) ∧ Aside0 (kq ≤ kj5) ∧ Aside0 (wc.heap[gb303]? = some (.cells #[.int .i64 a0_0, .int .i64 a0_1, .int .i64 a0_2, .int .i64 a0_3, .int .i64 a0_4, .int .i64 a0_5] 32 (0, 0))) ∧ Aside0 (Below w.heap.size w wc))
        case first =>
          have H := HC24.out
          clear HC24
          by_cases c33 : t312 = t314
          · rw [if_pos c33] at H
            have c33b0 : (t312 == t314) = true := beq_iff_eq.mpr c33
            have c33b1 : (t312 != t314) = false := bne_eq_false_iff_eq.mpr c33
            clear c33
            (first | rw [c33b0] | (simp only [i64_w, i32_w]; rw [c33b0]) | skip)
            by_cases c34 : t313 = t315
            · rw [if_pos c34] at H
              have c34b0 : (t313 == t315) = true := beq_iff_eq.mpr c34
              have c34b1 : (t313 != t315) = false := bne_eq_false_iff_eq.mpr c34
              clear c34
              by_cases c35 : t316 = t318
              · rw [if_pos c35] at H
                have c35b0 : (t316 == t318) = true := beq_iff_eq.mpr c35
                have c35b1 : (t316 != t318) = false := bne_eq_false_iff_eq.mpr c35
                clear c35
                have H' := Aside0.mk H
                clear H
                go_wp2
                go_meet
                case rel => exact ⟨_, ((t317 != t319)), (by first | rfl | (simp; done) | (simp [*]; done)), H', ⟨by have := HJ5.out; first | omega | exact Nat.le_refl _⟩, ⟨by (with_reducible repeat (first | refine blk_drewN ?_ _ | refine blk_drew ?_ | refine blk_alloc ?_ _)); exact BK303.out⟩, ⟨by repeat (first | (with_reducible first | exact HB.out | apply below_alloc | apply pw_below_drewN | apply below_drew1 | refine below_set ?_ GE303.out) | exact HB.out)⟩⟩
              · rw [if_neg c35] at H
                have c35b0 : (t316 == t318) = false := beq_eq_false_iff_ne.mpr c35
                have c35b1 : (t316 != t318) = true := bne_iff_ne.mpr c35
                have H' := Aside0.mk H
                clear H
                go_wp2
                go_meet
                case rel => exact ⟨_, (true), (by first | rfl | (simp; done) | (simp [*]; done)), H', ⟨by have := HJ5.out; first | omega | exact Nat.le_refl _⟩, ⟨by (with_reducible repeat (first | refine blk_drewN ?_ _ | refine blk_drew ?_ | refine blk_alloc ?_ _)); exact BK303.out⟩, ⟨by repeat (first | (with_reducible first | exact HB.out | apply below_alloc | apply pw_below_drewN | apply below_drew1 | refine below_set ?_ GE303.out) | exact HB.out)⟩⟩
            · rw [if_neg c34] at H
              have c34b0 : (t313 == t315) = false := beq_eq_false_iff_ne.mpr c34
              have c34b1 : (t313 != t315) = true := bne_iff_ne.mpr c34
              have H' := Aside0.mk H
              clear H
              go_wp2
              go_meet
              case rel => exact ⟨_, (true), (by first | rfl | (simp; done) | (simp [*]; done)), H', ⟨by have := HJ5.out; first | omega | exact Nat.le_refl _⟩, ⟨by (with_reducible repeat (first | refine blk_drewN ?_ _ | refine blk_drew ?_ | refine blk_alloc ?_ _)); exact BK303.out⟩, ⟨by repeat (first | (with_reducible first | exact HB.out | apply below_alloc | apply pw_below_drewN | apply below_drew1 | refine below_set ?_ GE303.out) | exact HB.out)⟩⟩
          · rw [if_neg c33] at H
            have c33b0 : (t312 == t314) = false := beq_eq_false_iff_ne.mpr c33
            have c33b1 : (t312 != t314) = true := bne_iff_ne.mpr c33
            (first | rw [c33b0] | (simp only [i64_w, i32_w]; rw [c33b0]) | skip)
            have H' := Aside0.mk H
            clear H
            go_wp2
            go_meet
            case rel => exact ⟨_, (true), (by first | rfl | (simp; done) | (simp [*]; done)), H', ⟨by have := HJ5.out; first | omega | exact Nat.le_refl _⟩, ⟨by (with_reducible repeat (first | refine blk_drewN ?_ _ | refine blk_drew ?_ | refine blk_alloc ?_ _)); exact BK303.out⟩, ⟨by repeat (first | (with_reducible first | exact HB.out | apply below_alloc | apply pw_below_drewN | apply below_drew1 | refine below_set ?_ GE303.out) | exact HB.out)⟩⟩
        case rest =>
          clear HC24
          try clear c1
          try clear p2
          try clear c3
          try clear c4
          try clear c5
          try clear c16
          try clear c16b0
          try clear c16b1
          try clear c17
          try clear c17b0
          try clear c17b1
          try clear c18
          try clear c18b0
          try clear c18b1
          try clear c19
          try clear c33
          try clear c33b0
          try clear c33b1
          try clear c34
          try clear c34b0
          try clear c34b1
          try clear c35
          try clear c35b0
          try clear c35b1
          try clear hcz10_0
          try clear hcz10_1
          try clear hcz10_2
          try clear hcz10_3
          try clear hcz10_4
          try clear hcz10_5
          try clear hcz12_0
          try clear hcz12_1
          try clear hcz12_2
          try clear hcz12_3
          try clear hcz12_4
          try clear hcz12_5
          try clear hcz14_0
          try clear hcz14_1
          try clear hcz14_2
          try clear hcz14_3
          try clear hcz14_4
          try clear hcz14_5
          try clear hcz25_0
          try clear hcz25_1
          try clear hcz25_2
          try clear hcz25_3
          try clear hcz25_4
          try clear hcz25_5
          try clear hcz27_0
          try clear hcz27_1
          try clear hcz27_2
          try clear hcz27_3
          try clear hcz27_4
          try clear hcz27_5
          try clear hcz29_0
          try clear hcz29_1
          try clear hcz29_2
          try clear hcz29_3
          try clear hcz29_4
          try clear hcz29_5
          try clear hcz31_0
          try clear hcz31_1
          try clear hcz31_2
          try clear hcz31_3
          try clear hcz31_4
          try clear hcz31_5
          try clear hcz8_0
          try clear hcz8_1
          try clear hcz8_2
          try clear hcz8_3
          try clear hcz8_4
          try clear hcz8_5
          try clear hfz10_0
          try clear hfz10_1
          try clear hfz10_2
          try clear hfz10_3
          try clear hfz10_4
          try clear hfz10_5
          try clear hfz12_0
          try clear hfz12_1
          try clear hfz12_2
          try clear hfz12_3
          try clear hfz12_4
          try clear hfz12_5
          try clear hfz14_0
          try clear hfz14_1
          try clear hfz14_2
          try clear hfz14_3
          try clear hfz14_4
          try clear hfz14_5
          try clear hfz25_0
          try clear hfz25_1
          try clear hfz25_2
          try clear hfz25_3
          try clear hfz25_4
          try clear hfz25_5
          try clear hfz27_0
          try clear hfz27_1
          try clear hfz27_2
          try clear hfz27_3
          try clear hfz27_4
          try clear hfz27_5
          try clear hfz29_0
          try clear hfz29_1
          try clear hfz29_2
          try clear hfz29_3
          try clear hfz29_4
          try clear hfz29_5
          try clear hfz31_0
          try clear hfz31_1
          try clear hfz31_2
          try clear hfz31_3
          try clear hfz31_4
          try clear hfz31_5
          try clear hfz8_0
          try clear hfz8_1
          try clear hfz8_2
          try clear hfz8_3
          try clear hfz8_4
          try clear hfz8_5
          try clear p2
          obtain ⟨kq, x126_23, rfl, HA, HJ23, BK303, HB⟩ := hcut
          cases kq with
          | zero => exact absurd HA.out (by simp [barscanlaw04_GaloisCalculates.j1])
          | succ kj23 =>
            have H := HA.out
            clear HA
            simp only [barscanlaw04_GaloisCalculates.j1] at H
            by_cases c36 : x126_23 = true
            · subst c36
              have H1 : (some false) = some r := by rw [if_pos rfl] at H; exact H
              clear H
              have H := H1
              clear H1
              obtain rfl := Option.some.inj H
              go_wp2
              go_ret
              exact ⟨by first | rfl | (simp [errW_none, errW_some] <;> rfl) | (simp [*, errW_none, errW_some] <;> rfl), by repeat (first | (with_reducible first | exact HB.out | apply below_alloc | apply pw_below_drewN | apply below_drew1 | refine below_set ?_ GE303.out) | exact HB.out)⟩
            · replace c36 := Bool.eq_false_iff.mpr c36
              subst c36
              have H1 : ((galois_Inv.f kj23 a0_0 a0_1 a0_2 a0_3).bind fun bt320 => ((barscanref04_Inv.f kj23 a0_0 a0_1 a0_2 a0_3).bind fun bt322 => (if bt320.1 = bt322.1 then (if bt320.2 = bt322.2 then ((barscanlaw04_alive.f kj23).bind fun t324 => (some t324)) else (some false)) else (some false)))) = some r := by rw [if_neg (show ¬ (false = true) by decide)] at H; exact H
              clear H
              have H := H1
              clear H1
              replace H := Option.bind_eq_some_iff.mp H
              obtain ⟨⟨t320, t321⟩, A370, H⟩ := H
              replace H : ((barscanref04_Inv.f kj23 a0_0 a0_1 a0_2 a0_3).bind fun bt322 => (if t320 = bt322.1 then (if t321 = bt322.2 then ((barscanlaw04_alive.f kj23).bind fun t324 => (some t324)) else (some false)) else (some false))) = some r := H
              have A37 := Aside0.mk A370
              clear A370
              replace H := Option.bind_eq_some_iff.mp H
              obtain ⟨⟨t322, t323⟩, A380, H⟩ := H
              replace H : (if t320 = t322 then (if t321 = t323 then ((barscanlaw04_alive.f kj23).bind fun t324 => (some t324)) else (some false)) else (some false)) = some r := H
              have A38 := Aside0.mk A380
              clear A380
              by_cases c39 : t320 = t322
              · rw [if_pos c39] at H
                have c39b0 : (t320 == t322) = true := beq_iff_eq.mpr c39
                have c39b1 : (t320 != t322) = false := bne_eq_false_iff_eq.mpr c39
                clear c39
                by_cases c40 : t321 = t323
                · rw [if_pos c40] at H
                  have c40b0 : (t321 == t323) = true := beq_iff_eq.mpr c40
                  have c40b1 : (t321 != t323) = false := bne_eq_false_iff_eq.mpr c40
                  clear c40
                  replace H := Option.bind_eq_some_iff.mp H
                  obtain ⟨t324, A410, H⟩ := H
                  replace H : (some t324) = some r := H
                  have A41 := Aside0.mk A410
                  clear A410
                  obtain rfl := Option.some.inj H
                  have hcz42_0 : wc.cell? ⟨gb303, 0, none⟩ = some (.int .i64 a0_0) := (blk_cell BK303.out 0).trans rfl
                  have hcz42_1 : wc.cell? ⟨gb303, 1, none⟩ = some (.int .i64 a0_1) := (blk_cell BK303.out 1).trans rfl
                  have hcz42_2 : wc.cell? ⟨gb303, 2, none⟩ = some (.int .i64 a0_2) := (blk_cell BK303.out 2).trans rfl
                  have hcz42_3 : wc.cell? ⟨gb303, 3, none⟩ = some (.int .i64 a0_3) := (blk_cell BK303.out 3).trans rfl
                  have hcz42_4 : wc.cell? ⟨gb303, 4, none⟩ = some (.int .i64 a0_4) := (blk_cell BK303.out 4).trans rfl
                  have hcz42_5 : wc.cell? ⟨gb303, 5, none⟩ = some (.int .i64 a0_5) := (blk_cell BK303.out 5).trans rfl
                  have hfz42_0 := blk_frozen BK303.out 0
                  have hfz42_1 := blk_frozen BK303.out 1
                  have hfz42_2 := blk_frozen BK303.out 2
                  have hfz42_3 := blk_frozen BK303.out 3
                  have hfz42_4 := blk_frozen BK303.out 4
                  have hfz42_5 := blk_frozen BK303.out 5
                  go_wp2_with (first | ((with_reducible refine gate_callee (f := 42) rfl ?_); refine goesL_ (some 132) rfl rfl Try.func42 (by kernel_rfl) rfl #[.agg #[.int .i64 a0_0, .int .i64 a0_1, .int .i64 a0_2], .int .i64 a0_3] rfl tS30_0 ?_; (with_reducible refine (galois_Inv.calls kj23 a0_0 a0_1 a0_2 a0_3 t320 t321 _ A37.out).mono ?_); rintro e w43 ⟨rfl, hb⟩; refine ⟨_, rfl, ?_⟩; have n0_ := Aside0.mk (blk_below (g := gb303) (o := .cells #[.int .i64 a0_0, .int .i64 a0_1, .int .i64 a0_2, .int .i64 a0_3, .int .i64 a0_4, .int .i64 a0_5] 32 (0, 0)) (by (with_reducible repeat (first | refine blk_drewN ?_ _ | refine blk_drew ?_ | refine blk_alloc ?_ _)); exact BK303.out) hb); have n1_ := Aside0.mk (below_step (by repeat (first | (with_reducible first | exact HB.out | apply below_alloc | apply pw_below_drewN | apply below_drew1 | refine below_set ?_ GE303.out) | exact HB.out)) hb); clear BK303; clear HB; have BK303 := n0_; have HB := n1_; clear n0_ n1_; (try clear hb); (try clear hb2); (try clear hk); (try clear hi); have hcz44_0 : w43.cell? ⟨gb303, 0, none⟩ = some (.int .i64 a0_0) := (blk_cell BK303.out 0).trans rfl; have hcz44_1 : w43.cell? ⟨gb303, 1, none⟩ = some (.int .i64 a0_1) := (blk_cell BK303.out 1).trans rfl; have hcz44_2 : w43.cell? ⟨gb303, 2, none⟩ = some (.int .i64 a0_2) := (blk_cell BK303.out 2).trans rfl; have hcz44_3 : w43.cell? ⟨gb303, 3, none⟩ = some (.int .i64 a0_3) := (blk_cell BK303.out 3).trans rfl; have hcz44_4 : w43.cell? ⟨gb303, 4, none⟩ = some (.int .i64 a0_4) := (blk_cell BK303.out 4).trans rfl; have hcz44_5 : w43.cell? ⟨gb303, 5, none⟩ = some (.int .i64 a0_5) := (blk_cell BK303.out 5).trans rfl; have hfz44_0 := blk_frozen BK303.out 0; have hfz44_1 := blk_frozen BK303.out 1; have hfz44_2 := blk_frozen BK303.out 2; have hfz44_3 := blk_frozen BK303.out 3; have hfz44_4 := blk_frozen BK303.out 4; have hfz44_5 := blk_frozen BK303.out 5) | ((with_reducible refine gate_callee (f := 43) rfl ?_); refine goesL_ (some 140) rfl rfl Try.func43 (by kernel_rfl) rfl #[.agg #[.int .i64 a0_0, .int .i64 a0_1, .int .i64 a0_2], .int .i64 a0_3] rfl tS30_0 ?_; (with_reducible refine (barscanref04_Inv.calls kj23 a0_0 a0_1 a0_2 a0_3 t322 t323 _ A38.out).mono ?_); rintro e w45 ⟨rfl, hb⟩; refine ⟨_, rfl, ?_⟩; have n0_ := Aside0.mk (blk_below (g := gb303) (o := .cells #[.int .i64 a0_0, .int .i64 a0_1, .int .i64 a0_2, .int .i64 a0_3, .int .i64 a0_4, .int .i64 a0_5] 32 (0, 0)) (by (with_reducible repeat (first | refine blk_drewN ?_ _ | refine blk_drew ?_ | refine blk_alloc ?_ _)); exact BK303.out) hb); have n1_ := Aside0.mk (below_step (by repeat (first | (with_reducible first | exact HB.out | apply below_alloc | apply pw_below_drewN | apply below_drew1 | refine below_set ?_ GE303.out) | exact HB.out)) hb); clear BK303; clear HB; have BK303 := n0_; have HB := n1_; clear n0_ n1_; (try clear hb); (try clear hb2); (try clear hk); (try clear hi)) | (go_at_call 27; (with_reducible refine (barscanlaw04_alive.calls kj23  t324 _ A41.out).mono ?_); rintro e w46 ⟨rfl, hb⟩; have n0_ := Aside0.mk (blk_below (g := gb303) (o := .cells #[.int .i64 a0_0, .int .i64 a0_1, .int .i64 a0_2, .int .i64 a0_3, .int .i64 a0_4, .int .i64 a0_5] 32 (0, 0)) (by (with_reducible repeat (first | refine blk_drewN ?_ _ | refine blk_drew ?_ | refine blk_alloc ?_ _)); exact BK303.out) hb); have n1_ := Aside0.mk (below_step (by repeat (first | (with_reducible first | exact HB.out | apply below_alloc | apply pw_below_drewN | apply below_drew1 | refine below_set ?_ GE303.out) | exact HB.out)) hb); clear BK303; clear HB; have BK303 := n0_; have HB := n1_; clear n0_ n1_; (try clear hb); (try clear hb2); (try clear hk); (try clear hi)))
                  go_ret
                  exact ⟨by first | rfl | (simp [errW_none, errW_some] <;> rfl) | (simp [*, errW_none, errW_some] <;> rfl), by repeat (first | (with_reducible first | exact HB.out | apply below_alloc | apply pw_below_drewN | apply below_drew1 | refine below_set ?_ GE303.out) | exact HB.out)⟩
                · rw [if_neg c40] at H
                  have c40b0 : (t321 == t323) = false := beq_eq_false_iff_ne.mpr c40
                  have c40b1 : (t321 != t323) = true := bne_iff_ne.mpr c40
                  obtain rfl := Option.some.inj H
                  have hcz47_0 : wc.cell? ⟨gb303, 0, none⟩ = some (.int .i64 a0_0) := (blk_cell BK303.out 0).trans rfl
                  have hcz47_1 : wc.cell? ⟨gb303, 1, none⟩ = some (.int .i64 a0_1) := (blk_cell BK303.out 1).trans rfl
                  have hcz47_2 : wc.cell? ⟨gb303, 2, none⟩ = some (.int .i64 a0_2) := (blk_cell BK303.out 2).trans rfl
                  have hcz47_3 : wc.cell? ⟨gb303, 3, none⟩ = some (.int .i64 a0_3) := (blk_cell BK303.out 3).trans rfl
                  have hcz47_4 : wc.cell? ⟨gb303, 4, none⟩ = some (.int .i64 a0_4) := (blk_cell BK303.out 4).trans rfl
                  have hcz47_5 : wc.cell? ⟨gb303, 5, none⟩ = some (.int .i64 a0_5) := (blk_cell BK303.out 5).trans rfl
                  have hfz47_0 := blk_frozen BK303.out 0
                  have hfz47_1 := blk_frozen BK303.out 1
                  have hfz47_2 := blk_frozen BK303.out 2
                  have hfz47_3 := blk_frozen BK303.out 3
                  have hfz47_4 := blk_frozen BK303.out 4
                  have hfz47_5 := blk_frozen BK303.out 5
                  go_wp2_with (first | ((with_reducible refine gate_callee (f := 42) rfl ?_); refine goesL_ (some 132) rfl rfl Try.func42 (by kernel_rfl) rfl #[.agg #[.int .i64 a0_0, .int .i64 a0_1, .int .i64 a0_2], .int .i64 a0_3] rfl tS30_0 ?_; (with_reducible refine (galois_Inv.calls kj23 a0_0 a0_1 a0_2 a0_3 t320 t321 _ A37.out).mono ?_); rintro e w48 ⟨rfl, hb⟩; refine ⟨_, rfl, ?_⟩; have n0_ := Aside0.mk (blk_below (g := gb303) (o := .cells #[.int .i64 a0_0, .int .i64 a0_1, .int .i64 a0_2, .int .i64 a0_3, .int .i64 a0_4, .int .i64 a0_5] 32 (0, 0)) (by (with_reducible repeat (first | refine blk_drewN ?_ _ | refine blk_drew ?_ | refine blk_alloc ?_ _)); exact BK303.out) hb); have n1_ := Aside0.mk (below_step (by repeat (first | (with_reducible first | exact HB.out | apply below_alloc | apply pw_below_drewN | apply below_drew1 | refine below_set ?_ GE303.out) | exact HB.out)) hb); clear BK303; clear HB; have BK303 := n0_; have HB := n1_; clear n0_ n1_; (try clear hb); (try clear hb2); (try clear hk); (try clear hi); have hcz49_0 : w48.cell? ⟨gb303, 0, none⟩ = some (.int .i64 a0_0) := (blk_cell BK303.out 0).trans rfl; have hcz49_1 : w48.cell? ⟨gb303, 1, none⟩ = some (.int .i64 a0_1) := (blk_cell BK303.out 1).trans rfl; have hcz49_2 : w48.cell? ⟨gb303, 2, none⟩ = some (.int .i64 a0_2) := (blk_cell BK303.out 2).trans rfl; have hcz49_3 : w48.cell? ⟨gb303, 3, none⟩ = some (.int .i64 a0_3) := (blk_cell BK303.out 3).trans rfl; have hcz49_4 : w48.cell? ⟨gb303, 4, none⟩ = some (.int .i64 a0_4) := (blk_cell BK303.out 4).trans rfl; have hcz49_5 : w48.cell? ⟨gb303, 5, none⟩ = some (.int .i64 a0_5) := (blk_cell BK303.out 5).trans rfl; have hfz49_0 := blk_frozen BK303.out 0; have hfz49_1 := blk_frozen BK303.out 1; have hfz49_2 := blk_frozen BK303.out 2; have hfz49_3 := blk_frozen BK303.out 3; have hfz49_4 := blk_frozen BK303.out 4; have hfz49_5 := blk_frozen BK303.out 5) | ((with_reducible refine gate_callee (f := 43) rfl ?_); refine goesL_ (some 140) rfl rfl Try.func43 (by kernel_rfl) rfl #[.agg #[.int .i64 a0_0, .int .i64 a0_1, .int .i64 a0_2], .int .i64 a0_3] rfl tS30_0 ?_; (with_reducible refine (barscanref04_Inv.calls kj23 a0_0 a0_1 a0_2 a0_3 t322 t323 _ A38.out).mono ?_); rintro e w50 ⟨rfl, hb⟩; refine ⟨_, rfl, ?_⟩; have n0_ := Aside0.mk (blk_below (g := gb303) (o := .cells #[.int .i64 a0_0, .int .i64 a0_1, .int .i64 a0_2, .int .i64 a0_3, .int .i64 a0_4, .int .i64 a0_5] 32 (0, 0)) (by (with_reducible repeat (first | refine blk_drewN ?_ _ | refine blk_drew ?_ | refine blk_alloc ?_ _)); exact BK303.out) hb); have n1_ := Aside0.mk (below_step (by repeat (first | (with_reducible first | exact HB.out | apply below_alloc | apply pw_below_drewN | apply below_drew1 | refine below_set ?_ GE303.out) | exact HB.out)) hb); clear BK303; clear HB; have BK303 := n0_; have HB := n1_; clear n0_ n1_; (try clear hb); (try clear hb2); (try clear hk); (try clear hi)))
                  go_ret
                  exact ⟨by first | rfl | (simp [errW_none, errW_some] <;> rfl) | (simp [*, errW_none, errW_some] <;> rfl), by repeat (first | (with_reducible first | exact HB.out | apply below_alloc | apply pw_below_drewN | apply below_drew1 | refine below_set ?_ GE303.out) | exact HB.out)⟩
              · rw [if_neg c39] at H
                have c39b0 : (t320 == t322) = false := beq_eq_false_iff_ne.mpr c39
                have c39b1 : (t320 != t322) = true := bne_iff_ne.mpr c39
                obtain rfl := Option.some.inj H
                have hcz51_0 : wc.cell? ⟨gb303, 0, none⟩ = some (.int .i64 a0_0) := (blk_cell BK303.out 0).trans rfl
                have hcz51_1 : wc.cell? ⟨gb303, 1, none⟩ = some (.int .i64 a0_1) := (blk_cell BK303.out 1).trans rfl
                have hcz51_2 : wc.cell? ⟨gb303, 2, none⟩ = some (.int .i64 a0_2) := (blk_cell BK303.out 2).trans rfl
                have hcz51_3 : wc.cell? ⟨gb303, 3, none⟩ = some (.int .i64 a0_3) := (blk_cell BK303.out 3).trans rfl
                have hcz51_4 : wc.cell? ⟨gb303, 4, none⟩ = some (.int .i64 a0_4) := (blk_cell BK303.out 4).trans rfl
                have hcz51_5 : wc.cell? ⟨gb303, 5, none⟩ = some (.int .i64 a0_5) := (blk_cell BK303.out 5).trans rfl
                have hfz51_0 := blk_frozen BK303.out 0
                have hfz51_1 := blk_frozen BK303.out 1
                have hfz51_2 := blk_frozen BK303.out 2
                have hfz51_3 := blk_frozen BK303.out 3
                have hfz51_4 := blk_frozen BK303.out 4
                have hfz51_5 := blk_frozen BK303.out 5
                go_wp2_with (first | ((with_reducible refine gate_callee (f := 42) rfl ?_); refine goesL_ (some 132) rfl rfl Try.func42 (by kernel_rfl) rfl #[.agg #[.int .i64 a0_0, .int .i64 a0_1, .int .i64 a0_2], .int .i64 a0_3] rfl tS30_0 ?_; (with_reducible refine (galois_Inv.calls kj23 a0_0 a0_1 a0_2 a0_3 t320 t321 _ A37.out).mono ?_); rintro e w52 ⟨rfl, hb⟩; refine ⟨_, rfl, ?_⟩; have n0_ := Aside0.mk (blk_below (g := gb303) (o := .cells #[.int .i64 a0_0, .int .i64 a0_1, .int .i64 a0_2, .int .i64 a0_3, .int .i64 a0_4, .int .i64 a0_5] 32 (0, 0)) (by (with_reducible repeat (first | refine blk_drewN ?_ _ | refine blk_drew ?_ | refine blk_alloc ?_ _)); exact BK303.out) hb); have n1_ := Aside0.mk (below_step (by repeat (first | (with_reducible first | exact HB.out | apply below_alloc | apply pw_below_drewN | apply below_drew1 | refine below_set ?_ GE303.out) | exact HB.out)) hb); clear BK303; clear HB; have BK303 := n0_; have HB := n1_; clear n0_ n1_; (try clear hb); (try clear hb2); (try clear hk); (try clear hi); have hcz53_0 : w52.cell? ⟨gb303, 0, none⟩ = some (.int .i64 a0_0) := (blk_cell BK303.out 0).trans rfl; have hcz53_1 : w52.cell? ⟨gb303, 1, none⟩ = some (.int .i64 a0_1) := (blk_cell BK303.out 1).trans rfl; have hcz53_2 : w52.cell? ⟨gb303, 2, none⟩ = some (.int .i64 a0_2) := (blk_cell BK303.out 2).trans rfl; have hcz53_3 : w52.cell? ⟨gb303, 3, none⟩ = some (.int .i64 a0_3) := (blk_cell BK303.out 3).trans rfl; have hcz53_4 : w52.cell? ⟨gb303, 4, none⟩ = some (.int .i64 a0_4) := (blk_cell BK303.out 4).trans rfl; have hcz53_5 : w52.cell? ⟨gb303, 5, none⟩ = some (.int .i64 a0_5) := (blk_cell BK303.out 5).trans rfl; have hfz53_0 := blk_frozen BK303.out 0; have hfz53_1 := blk_frozen BK303.out 1; have hfz53_2 := blk_frozen BK303.out 2; have hfz53_3 := blk_frozen BK303.out 3; have hfz53_4 := blk_frozen BK303.out 4; have hfz53_5 := blk_frozen BK303.out 5) | ((with_reducible refine gate_callee (f := 43) rfl ?_); refine goesL_ (some 140) rfl rfl Try.func43 (by kernel_rfl) rfl #[.agg #[.int .i64 a0_0, .int .i64 a0_1, .int .i64 a0_2], .int .i64 a0_3] rfl tS30_0 ?_; (with_reducible refine (barscanref04_Inv.calls kj23 a0_0 a0_1 a0_2 a0_3 t322 t323 _ A38.out).mono ?_); rintro e w54 ⟨rfl, hb⟩; refine ⟨_, rfl, ?_⟩; have n0_ := Aside0.mk (blk_below (g := gb303) (o := .cells #[.int .i64 a0_0, .int .i64 a0_1, .int .i64 a0_2, .int .i64 a0_3, .int .i64 a0_4, .int .i64 a0_5] 32 (0, 0)) (by (with_reducible repeat (first | refine blk_drewN ?_ _ | refine blk_drew ?_ | refine blk_alloc ?_ _)); exact BK303.out) hb); have n1_ := Aside0.mk (below_step (by repeat (first | (with_reducible first | exact HB.out | apply below_alloc | apply pw_below_drewN | apply below_drew1 | refine below_set ?_ GE303.out) | exact HB.out)) hb); clear BK303; clear HB; have BK303 := n0_; have HB := n1_; clear n0_ n1_; (try clear hb); (try clear hb2); (try clear hk); (try clear hi)))
                go_ret
                exact ⟨by first | rfl | (simp [errW_none, errW_some] <;> rfl) | (simp [*, errW_none, errW_some] <;> rfl), by repeat (first | (with_reducible first | exact HB.out | apply below_alloc | apply pw_below_drewN | apply below_drew1 | refine below_set ?_ GE303.out) | exact HB.out)⟩

end Go.Proofs.Ytlhaclammaaabaa.Pg
