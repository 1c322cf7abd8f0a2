-- Written by a program of this session over the print of the kit.
import Derived.Test.YtlhaclammaaabaaY
import Derived.Test.YtlhaclammaaabaaB0
import Derived.Test.YtlhaclammaaabaaB1
import Derived.Test.YtlhaclammaaabaaB7
import Derived.Test.YtlhaclammaaabaaHGen
namespace Go.Proofs.Ytlhaclammaaabaa.Pg
open Go.RowKit Go.Proofs.YtlhaclammaaabaaW.PrintWords Go.Proofs.YtlhaclammaaabaaW.PrintLast Go.Proofs.YtlhaclammaaabaaW.PrintMore
attribute [local go_sem] max2_int min2_int max_two min_two max_three min_three max_four min_four
set_option linter.unusedVariables false
set_option maxHeartbeats 8000000
set_option maxRecDepth 100000
set_option linter.unusedSimpArgs false
/-! ### galois_Generator: function 30 -/
def galois_Generator.f (k : Nat) (a0_0 : Int) (a0_1 : Int) (a0_2 : Int) : Option (Int × Int) := (galois_Valid.f k a0_0 a0_1 a0_2).bind fun t143 => (if t143 = true then ((galois_generator.f k a0_0 a0_1 a0_2).bind fun t144 => (some (t144, 0))) else (some (0, 1)))
theorem galois_Generator.mono : ∀ a0 a1 a2 k, LeO (galois_Generator.f k a0 a1 a2) (galois_Generator.f (k + 1) a0 a1 a2) := by
 intro a0 a1 a2 k
 unfold galois_Generator.f
 have m0_ := @galois_Valid.mono
 have m1_ := @galois_generator.mono
 exact zMo
theorem galois_Generator.calls (k : Nat) (a0_0 : Int) (a0_1 : Int) (a0_2 : Int) (r1 : Int) (r2 : Int) (w : World) (h : galois_Generator.f k a0_0 a0_1 a0_2 = some (r1, r2)) :
  Calls Try.prog 30 #[.agg #[.int .i64 a0_0, .int .i64 a0_1, .int .i64 a0_2]] w fun e w' => e = .returned (.tuple #[.int .i64 r1, .int .i64 r2]) ∧ Below w.heap.size w w' := by
 have hu23 := Try.underlying23
 have HB := Aside0.mk (Below.refl w.heap.size w)
 have H := h
 unfold galois_Generator.f at H
 clear h
 obtain ⟨t143, A2, H⟩ := zD H
 by_cases c3 : t143 = true
 ·subst c3
  rw [if_pos rfl] at H
  obtain ⟨t144, A4, H⟩ := zD H
  simp only [Option.some.injEq, Prod.mk.injEq] at H
  obtain ⟨rfl, rfl⟩ := H
  go_enter Try.func30, Try.ntmps30
  go_wp2_with (first | ((with_reducible refine gate_dst (N := 1) rfl ?_); refine zBox 1 #[.int .i64 a0_0, .int .i64 a0_1, .int .i64 a0_2] 23 ?_; clear HB; intro gb142 w5 BK142 GE142 HB; (try clear z142_0 z142_1 z142_2 f142_0 f142_1 f142_2); obtain ⟨z142_0, z142_1, z142_2, f142_0, f142_1, f142_2⟩ := cz3 BK142) | ((with_reducible refine gate_callee (f := 25) rfl ?_); refine gL (some 5) Try.func25 #[.agg #[.int .i64 a0_0, .int .i64 a0_1, .int .i64 a0_2]] ?_; (with_reducible refine zCall (galois_Valid.calls k a0_0 a0_1 a0_2 true _ A2.out) ?_); intro w7 hb; replace BK142 := bB BK142 hb; replace HB := bS hb; (try clear hb); (try clear z142_0 z142_1 z142_2 f142_0 f142_1 f142_2); obtain ⟨z142_0, z142_1, z142_2, f142_0, f142_1, f142_2⟩ := cz3 BK142) | ((with_reducible refine gate_callee (f := 93) rfl ?_); refine gL (some 8) Try.func93 #[.agg #[.int .i64 a0_0, .int .i64 a0_1, .int .i64 a0_2]] ?_; (with_reducible refine zCall (galois_generator.calls k a0_0 a0_1 a0_2 t144 _ A4.out) ?_); intro w9 hb; replace BK142 := bB BK142 hb; replace HB := bS hb; (try clear hb)))
  go_ret2
  exact ⟨zE, zB⟩
 ·replace c3 := Bool.eq_false_iff.mpr c3
  subst c3
  rw [if_neg (show ¬ (false = true) by decide)] at H
  simp only [Option.some.injEq, Prod.mk.injEq] at H
  obtain ⟨rfl, rfl⟩ := H
  go_enter Try.func30, Try.ntmps30
  go_wp2_with (first | ((with_reducible refine gate_dst (N := 1) rfl ?_); refine zBox 1 #[.int .i64 a0_0, .int .i64 a0_1, .int .i64 a0_2] 23 ?_; clear HB; intro gb142 w10 BK142 GE142 HB; (try clear z142_0 z142_1 z142_2 f142_0 f142_1 f142_2); obtain ⟨z142_0, z142_1, z142_2, f142_0, f142_1, f142_2⟩ := cz3 BK142) | ((with_reducible refine gate_callee (f := 25) rfl ?_); refine gL (some 5) Try.func25 #[.agg #[.int .i64 a0_0, .int .i64 a0_1, .int .i64 a0_2]] ?_; (with_reducible refine zCall (galois_Valid.calls k a0_0 a0_1 a0_2 false _ A2.out) ?_); intro w12 hb; replace BK142 := bB BK142 hb; replace HB := bS hb; (try clear hb)))
  go_ret2
  exact ⟨zE, zB⟩
/-! ### galois_Log: function 32 -/
def galois_Log.l0 : Nat → Int → Int → Int → Int → Int → Int → Int → Option (Int × Int)
 | 0, _, _, _, _, _, _, _ => none
 | k + 1, x1, x6, x7, x8, x149000, x149001, x149002 => if x8 = x1 then (some (x7, 0)) else ((galois_times.f k x149000 x149001 x149002 x8 x6).bind fun t154 => (galois_Log.l0 k x1 x6 (wrap64 (x7 + 1)) t154 x149000 x149001 x149002))
def galois_Log.f (k : Nat) (a0_0 : Int) (a0_1 : Int) (a0_2 : Int) (a1 : Int) : Option (Int × Int) := (galois_member.f k a0_0 a0_1 a0_2 (([a1] : List Int))).bind fun t152 => (if t152 = true then (if a1 = 0 then (some (0, 12)) else ((galois_generator.f k a0_0 a0_1 a0_2).bind fun t153 => (galois_Log.l0 k a1 t153 0 1 a0_0 a0_1 a0_2))) else (some (0, 1)))
theorem galois_Log.mono_l : ∀ k, (∀ y0 y1 y2 y3 y4 y5 y6, LeO (galois_Log.l0 k y0 y1 y2 y3 y4 y5 y6) (galois_Log.l0 (k + 1) y0 y1 y2 y3 y4 y5 y6))
 | 0 => fun _ _ _ _ _ _ _ r h => by simp [galois_Log.l0] at h
 | k + 1 => by
  have ih0 := galois_Log.mono_l k
  ·intro y0 y1 y2 y3 y4 y5 y6
   unfold galois_Log.l0
   have m0_ := @galois_generator.mono
   have m1_ := @galois_member.mono
   have m2_ := @galois_times.mono
   exact zMo
theorem galois_Log.mono : ∀ a0 a1 a2 a3 k, LeO (galois_Log.f k a0 a1 a2 a3) (galois_Log.f (k + 1) a0 a1 a2 a3) := by
 intro a0 a1 a2 a3 k
 have ih0 := galois_Log.mono_l k
 unfold galois_Log.f
 have m0_ := @galois_generator.mono
 have m1_ := @galois_member.mono
 have m2_ := @galois_times.mono
 exact zMo
theorem galois_Log.calls (k : Nat) (a0_0 : Int) (a0_1 : Int) (a0_2 : Int) (a1 : Int) (r1 : Int) (r2 : Int) (w : World) (h : galois_Log.f k a0_0 a0_1 a0_2 a1 = some (r1, r2)) :
  Calls Try.prog 32 #[.agg #[.int .i64 a0_0, .int .i64 a0_1, .int .i64 a0_2], .int .i64 a1] w fun e w' => e = .returned (.tuple #[.int .i64 r1, .int .i64 r2]) ∧ Below w.heap.size w w' := by
 have hu23 := Try.underlying23
 have HB := Aside0.mk (Below.refl w.heap.size w)
 have H := h
 unfold galois_Log.f at H
 clear h
 obtain ⟨y149, hy149⟩ : ∃ y_ : List Int, y_ = (([a1] : List Int)) := ⟨_, rfl⟩
 replace H : ((galois_member.f k a0_0 a0_1 a0_2 y149).bind fun t152 => (if t152 = true then (if a1 = 0 then (some (0, 12)) else ((galois_generator.f k a0_0 a0_1 a0_2).bind fun t153 => (galois_Log.l0 k a1 t153 0 1 a0_0 a0_1 a0_2))) else (some (0, 1)))) = some (r1, r2) := by first | (rw [hy149]; with_reducible exact H) | (have H2_ := (Option.bind_some _ _).symm.trans H; rw [hy149]; with_reducible exact H2_) | (have H2_ := (Option.bind_some _ _).symm.trans H; with_reducible exact H2_) | with_reducible exact H | (rw [hy149]; exact H) | exact H
 have Ny149 := Aside0.mk hy149
 clear hy149
 obtain ⟨t152, A3, H⟩ := zD H
 by_cases c4 : t152 = true
 ·subst c4
  rw [if_pos rfl] at H
  by_cases c5 : a1 = 0
  ·rw [if_pos c5] at H
   have c5b0 := beq_iff_eq.mpr c5
   have c5b1 := bne_eq_false_iff_eq.mpr c5
   clear c5
   simp only [Option.some.injEq, Prod.mk.injEq] at H
   obtain ⟨rfl, rfl⟩ := H
   go_enter Try.func32, Try.ntmps32
   go_wp2_with (first | ((with_reducible refine gate_dst (N := 2) rfl ?_); refine zBox 2 #[.int .i64 a0_0, .int .i64 a0_1, .int .i64 a0_2] 23 ?_; clear HB; intro gb148 w6 BK148 GE148 HB; (try clear z148_0 z148_1 z148_2 f148_0 f148_1 f148_2); obtain ⟨z148_0, z148_1, z148_2, f148_0, f148_1, f148_2⟩ := cz3 BK148) | ((with_reducible refine gate_dst (N := 12) rfl ?_); refine Kd.R_lit (Kd.int .i64) _ 3 ?hg (N := 12) ?hd (xs := ([a1] : List Int)) (inner := [.int .i64 a1]) (ok := fun _ => True) (okp := fun _ => True) ?hr ?hp (fun _ hk => hk) trivial (Below.refl _ _) (Nat.le_refl _) (by simp) ?_; (case hd => rfl); (case hg => rfl); (case hr => first | (go_simp; done) | (go_simp; rfl)); (case hp => exact (Reps.one (show Kd.M (Kd.int .i64) _ _ _ a1 [.int .i64 a1] from rfl) (Reps.none _ _))); intro v150 w8 ho9 hb hg_ hnew_; clear hg_ hnew_; (first | rw [← Ny149.out] at ho9 | (simp only [Int.reduceToNat] at ho9; rw [← Ny149.out] at ho9)); have HO151 := Aside0.mk (Kd.R_lower ho9 (below_size zB)); replace BK148 := bB BK148 hb; replace HB := bS hb; clear hb ho9; obtain ⟨Ao10, co10, eo10⟩ := Kd.R_slice HO151.out; subst eo10) | ((with_reducible refine gate_callee (f := 90) rfl ?_); refine gL (some 13) Try.func90 #[.agg #[.int .i64 a0_0, .int .i64 a0_1, .int .i64 a0_2], .slice Ao10 y149.length co10] ?_; (with_reducible refine zCall (galois_member.calls k a0_0 a0_1 a0_2 _ _ y149 true _ ?side1 ?side2 A3.out) ?_); (case side1 => exact zN HO151); (case side2 => exact (Kd.R_reads' HO151.out).2.1); intro w11 hb; replace HO151 := Aside0.mk (Kd.R_below (zO HO151) hb); replace BK148 := bB BK148 hb; replace HB := bS hb; (try clear hb)))
   go_ret2
   exact ⟨zE, zB⟩
  ·rw [if_neg c5] at H
   have c5b0 := beq_eq_false_iff_ne.mpr c5
   have c5b1 := bne_iff_ne.mpr c5
   obtain ⟨t153, A12, H⟩ := zD H
   have H' := zA H
   clear H
   go_enter Try.func32, Try.ntmps32
   go_wp2_with (first | ((with_reducible refine gate_dst (N := 2) rfl ?_); refine zBox 2 #[.int .i64 a0_0, .int .i64 a0_1, .int .i64 a0_2] 23 ?_; clear HB; intro gb148 w13 BK148 GE148 HB; (try clear z148_0 z148_1 z148_2 f148_0 f148_1 f148_2); obtain ⟨z148_0, z148_1, z148_2, f148_0, f148_1, f148_2⟩ := cz3 BK148) | ((with_reducible refine gate_dst (N := 12) rfl ?_); refine Kd.R_lit (Kd.int .i64) _ 3 ?hg (N := 12) ?hd (xs := ([a1] : List Int)) (inner := [.int .i64 a1]) (ok := fun _ => True) (okp := fun _ => True) ?hr ?hp (fun _ hk => hk) trivial (Below.refl _ _) (Nat.le_refl _) (by simp) ?_; (case hd => rfl); (case hg => rfl); (case hr => first | (go_simp; done) | (go_simp; rfl)); (case hp => exact (Reps.one (show Kd.M (Kd.int .i64) _ _ _ a1 [.int .i64 a1] from rfl) (Reps.none _ _))); intro v150 w15 ho16 hb hg_ hnew_; clear hg_ hnew_; (first | rw [← Ny149.out] at ho16 | (simp only [Int.reduceToNat] at ho16; rw [← Ny149.out] at ho16)); have HO151 := Aside0.mk (Kd.R_lower ho16 (below_size zB)); replace BK148 := bB BK148 hb; replace HB := bS hb; clear hb ho16; obtain ⟨Ao17, co17, eo17⟩ := Kd.R_slice HO151.out; subst eo17) | ((with_reducible refine gate_callee (f := 90) rfl ?_); refine gL (some 13) Try.func90 #[.agg #[.int .i64 a0_0, .int .i64 a0_1, .int .i64 a0_2], .slice Ao17 y149.length co17] ?_; (with_reducible refine zCall (galois_member.calls k a0_0 a0_1 a0_2 _ _ y149 true _ ?side1 ?side2 A3.out) ?_); (case side1 => exact zN HO151); (case side2 => exact (Kd.R_reads' HO151.out).2.1); intro w18 hb; replace HO151 := Aside0.mk (Kd.R_below (zO HO151) hb); replace BK148 := bB BK148 hb; replace HB := bS hb; (try clear hb); (try clear z148_0 z148_1 z148_2 f148_0 f148_1 f148_2); obtain ⟨z148_0, z148_1, z148_2, f148_0, f148_1, f148_2⟩ := cz3 BK148) | ((with_reducible refine gate_callee (f := 93) rfl ?_); refine gL (some 19) Try.func93 #[.agg #[.int .i64 a0_0, .int .i64 a0_1, .int .i64 a0_2]] ?_; (with_reducible refine zCall (galois_generator.calls k a0_0 a0_1 a0_2 t153 _ A12.out) ?_); intro w20 hb; replace HO151 := Aside0.mk (Kd.R_below (zO HO151) hb); replace BK148 := bB BK148 hb; replace HB := bS hb; (try clear hb)))
   go_loopg [7, 8] k (fun kq v7 v8 w' => ∃ (x7_1 : Int) (x8_1 : Int), v7 = .int .i64 x7_1 ∧ v8 = .int .i64 x8_1 ∧ Aside0 (galois_Log.l0 kq a1 t153 x7_1 x8_1 a0_0 a0_1 a0_2 = some (r1, r2)) ∧ Aside0 (kq ≤ k) ∧ Aside0 (w'.heap[gb148]? = some (.cells #[.int .i64 a0_0, .int .i64 a0_1, .int .i64 a0_2] 23 (0, 0))) ∧ Aside0 (Below w.heap.size w w'))
   case atStart => exact ⟨(0), (1), zR, zR, H', ⟨Nat.le_refl _⟩, ⟨zK BK148⟩, ⟨zB⟩⟩
   case round =>
    clear H'
    try clear p2
    try clear c3
    try clear c4
    try clear c5
    try clear c5b0
    try clear c5b1
    try clear c9
    try clear z148_0 z148_1 z148_2 f148_0 f148_1 f148_2
    obtain ⟨x7_1, x8_1, rfl, rfl, HA, HK1, BK148, HB⟩ := hrel
    cases gk with
    | zero => exact absurd HA.out (by simp [galois_Log.l0])
    | succ k1 =>
     have H := HA.out
     clear HA
     simp only [galois_Log.l0] at H
     by_cases c21 : x8_1 = a1
     ·rw [if_pos c21] at H
      have c21b0 := beq_iff_eq.mpr c21
      have c21b1 := bne_eq_false_iff_eq.mpr c21
      clear c21
      simp only [Option.some.injEq, Prod.mk.injEq] at H
      obtain ⟨rfl, rfl⟩ := H
      go_wp2
      go_ret2
      exact ⟨zE, zB⟩
     ·rw [if_neg c21] at H
      have c21b0 := beq_eq_false_iff_ne.mpr c21
      have c21b1 := bne_iff_ne.mpr c21
      obtain ⟨t154, A22, H⟩ := zD H
      have H' := zA H
      clear H
      (try clear z148_0 z148_1 z148_2 f148_0 f148_1 f148_2)
      obtain ⟨z148_0, z148_1, z148_2, f148_0, f148_1, f148_2⟩ := cz3 BK148
      go_wp2_with (first | ((with_reducible refine gate_callee (f := 95) rfl ?_); refine gL (some 26) Try.func95 #[.agg #[.int .i64 a0_0, .int .i64 a0_1, .int .i64 a0_2], .int .i64 x8_1, .int .i64 t153] ?_; (with_reducible refine zCall (galois_times.calls k1 a0_0 a0_1 a0_2 x8_1 t153 t154 _ A22.out) ?_); intro w24 hb; replace BK148 := bB BK148 hb; replace HB := bS hb; (try clear hb)))
      go_roundg k1
      case measure => have := HK1.out; omega
      case rel => exact ⟨(wrap64 (x7_1 + 1)), (t154), zR, zR, H', zH, ⟨zK BK148⟩, ⟨zB⟩⟩
 ·replace c4 := Bool.eq_false_iff.mpr c4
  subst c4
  rw [if_neg (show ¬ (false = true) by decide)] at H
  simp only [Option.some.injEq, Prod.mk.injEq] at H
  obtain ⟨rfl, rfl⟩ := H
  go_enter Try.func32, Try.ntmps32
  go_wp2_with (first | ((with_reducible refine gate_dst (N := 2) rfl ?_); refine zBox 2 #[.int .i64 a0_0, .int .i64 a0_1, .int .i64 a0_2] 23 ?_; clear HB; intro gb148 w25 BK148 GE148 HB; (try clear z148_0 z148_1 z148_2 f148_0 f148_1 f148_2); obtain ⟨z148_0, z148_1, z148_2, f148_0, f148_1, f148_2⟩ := cz3 BK148) | ((with_reducible refine gate_dst (N := 12) rfl ?_); refine Kd.R_lit (Kd.int .i64) _ 3 ?hg (N := 12) ?hd (xs := ([a1] : List Int)) (inner := [.int .i64 a1]) (ok := fun _ => True) (okp := fun _ => True) ?hr ?hp (fun _ hk => hk) trivial (Below.refl _ _) (Nat.le_refl _) (by simp) ?_; (case hd => rfl); (case hg => rfl); (case hr => first | (go_simp; done) | (go_simp; rfl)); (case hp => exact (Reps.one (show Kd.M (Kd.int .i64) _ _ _ a1 [.int .i64 a1] from rfl) (Reps.none _ _))); intro v150 w27 ho28 hb hg_ hnew_; clear hg_ hnew_; (first | rw [← Ny149.out] at ho28 | (simp only [Int.reduceToNat] at ho28; rw [← Ny149.out] at ho28)); have HO151 := Aside0.mk (Kd.R_lower ho28 (below_size zB)); replace BK148 := bB BK148 hb; replace HB := bS hb; clear hb ho28; obtain ⟨Ao29, co29, eo29⟩ := Kd.R_slice HO151.out; subst eo29) | ((with_reducible refine gate_callee (f := 90) rfl ?_); refine gL (some 13) Try.func90 #[.agg #[.int .i64 a0_0, .int .i64 a0_1, .int .i64 a0_2], .slice Ao29 y149.length co29] ?_; (with_reducible refine zCall (galois_member.calls k a0_0 a0_1 a0_2 _ _ y149 false _ ?side1 ?side2 A3.out) ?_); (case side1 => exact zN HO151); (case side2 => exact (Kd.R_reads' HO151.out).2.1); intro w30 hb; replace HO151 := Aside0.mk (Kd.R_below (zO HO151) hb); replace BK148 := bB BK148 hb; replace HB := bS hb; (try clear hb)))
  go_ret2
  exact ⟨zE, zB⟩
section
attribute [local go_sem high] eqA23
/-! ### barscanlaw04_alive: function 27 -/
def barscanlaw04_alive.f (k : Nat)  : Option (Bool) := (galois_Binary.f k 8 285).bind fun bt179 => ((galois_Prime.f k 7).bind fun bt184 => ((galois_Mul.f k bt179.1 bt179.2.1 bt179.2.2.1 128 2).bind fun bt189 => ((galois_Generator.f k bt184.1 bt184.2.1 bt184.2.2.1).bind fun bt191 => ((galois_Log.f k bt184.1 bt184.2.1 bt184.2.2.1 6).bind fun bt193 => ((galois_Add.f k bt184.1 bt184.2.1 bt184.2.2.1 5 6).bind fun bt195 => ((galois_Div.f k bt184.1 bt184.2.1 bt184.2.2.1 1 3).bind fun bt197 => (if bt179.2.2.2 = 0 then (if bt184.2.2.2 = 0 then (if bt189.2 = 0 then (if bt191.2 = 0 then (if bt193.2 = 0 then (if bt195.2 = 0 then (if bt197.2 = 0 then (if (bt179.1 == 2 && (bt179.2.1 == 256 && (bt179.2.2.1 == 285))) = true then (if bt189.1 = 29 then (if bt191.1 = 3 then (if bt193.1 = 3 then (if bt195.1 = 4 then (if bt197.1 = 5 then ((galois_Valid.f k bt184.1 bt184.2.1 bt184.2.2.1).bind fun t199 => (some t199)) else (none)) else (none)) else (none)) else (none)) else (none)) else (none)) else (none)) else (none)) else (none)) else (none)) else (none)) else (none)) else (none))))))))
theorem barscanlaw04_alive.mono : ∀ k, LeO (barscanlaw04_alive.f k ) (barscanlaw04_alive.f (k + 1) ) := by
 intro  k
 unfold barscanlaw04_alive.f
 have m0_ := @galois_Add.mono
 have m1_ := @galois_Binary.mono
 have m2_ := @galois_Div.mono
 have m3_ := @galois_Generator.mono
 have m4_ := @galois_Log.mono
 have m5_ := @galois_Mul.mono
 have m6_ := @galois_Prime.mono
 have m7_ := @galois_Valid.mono
 exact zMo
theorem barscanlaw04_alive.calls (k : Nat)  (r : Bool) (w : World) (h : barscanlaw04_alive.f k  = some r) :
  Calls Try.prog 27 #[] w fun e w' => e = .returned (.bool r) ∧ Below w.heap.size w w' := by
 have hu23 := Try.underlying23
 have HB := Aside0.mk (Below.refl w.heap.size w)
 have H := h
 unfold barscanlaw04_alive.f at H
 clear h
 obtain ⟨⟨t179, t180, t181, t182⟩, A1, H⟩ := zD H
 dsimp only at H
 obtain ⟨⟨t184, t185, t186, t187⟩, A2, H⟩ := zD H
 dsimp only at H
 obtain ⟨⟨t189, t190⟩, A3, H⟩ := zD H
 dsimp only at H
 obtain ⟨⟨t191, t192⟩, A4, H⟩ := zD H
 dsimp only at H
 obtain ⟨⟨t193, t194⟩, A5, H⟩ := zD H
 dsimp only at H
 obtain ⟨⟨t195, t196⟩, A6, H⟩ := zD H
 dsimp only at H
 obtain ⟨⟨t197, t198⟩, A7, H⟩ := zD H
 dsimp only at H
 by_cases c8 : t182 = 0
 ·rw [if_pos c8] at H
  have c8b0 := beq_iff_eq.mpr c8
  have c8b1 := bne_eq_false_iff_eq.mpr c8
  clear c8
  by_cases c9 : t187 = 0
  ·rw [if_pos c9] at H
   have c9b0 := beq_iff_eq.mpr c9
   have c9b1 := bne_eq_false_iff_eq.mpr c9
   clear c9
   by_cases c10 : t190 = 0
   ·rw [if_pos c10] at H
    have c10b0 := beq_iff_eq.mpr c10
    have c10b1 := bne_eq_false_iff_eq.mpr c10
    clear c10
    by_cases c11 : t192 = 0
    ·rw [if_pos c11] at H
     have c11b0 := beq_iff_eq.mpr c11
     have c11b1 := bne_eq_false_iff_eq.mpr c11
     clear c11
     by_cases c12 : t194 = 0
     ·rw [if_pos c12] at H
      have c12b0 := beq_iff_eq.mpr c12
      have c12b1 := bne_eq_false_iff_eq.mpr c12
      clear c12
      by_cases c13 : t196 = 0
      ·rw [if_pos c13] at H
       have c13b0 := beq_iff_eq.mpr c13
       have c13b1 := bne_eq_false_iff_eq.mpr c13
       clear c13
       by_cases c14 : t198 = 0
       ·rw [if_pos c14] at H
        have c14b0 := beq_iff_eq.mpr c14
        have c14b1 := bne_eq_false_iff_eq.mpr c14
        clear c14
        by_cases c15 : (t179 == 2 && (t180 == 256 && (t181 == 285))) = true
        ·rw [if_pos c15] at H
         have c15b0 : (t179 == 2 && (t180 == 256 && (t181 == 285))) = true := c15
         (try (have c15b1 : decide (t179 = 2 && (t180 == 256 && (t181 == 285))) = true := by simpa using c15))
         (try (have c15b2 : (t179 == 2 && (t180 == 256 && (t181 == 285))) = true := by simpa using c15))
         clear c15
         by_cases c16 : t189 = 29
         ·rw [if_pos c16] at H
          have c16b0 := beq_iff_eq.mpr c16
          have c16b1 := bne_eq_false_iff_eq.mpr c16
          clear c16
          by_cases c17 : t191 = 3
          ·rw [if_pos c17] at H
           have c17b0 := beq_iff_eq.mpr c17
           have c17b1 := bne_eq_false_iff_eq.mpr c17
           clear c17
           by_cases c18 : t193 = 3
           ·rw [if_pos c18] at H
            have c18b0 := beq_iff_eq.mpr c18
            have c18b1 := bne_eq_false_iff_eq.mpr c18
            clear c18
            by_cases c19 : t195 = 4
            ·rw [if_pos c19] at H
             have c19b0 := beq_iff_eq.mpr c19
             have c19b1 := bne_eq_false_iff_eq.mpr c19
             clear c19
             by_cases c20 : t197 = 5
             ·rw [if_pos c20] at H
              have c20b0 := beq_iff_eq.mpr c20
              have c20b1 := bne_eq_false_iff_eq.mpr c20
              clear c20
              obtain ⟨t199, A21, H⟩ := zD H
              obtain rfl := Option.some.inj H
              go_enter Try.func27, Try.ntmps27
              go_wp2_with (first | ((with_reducible refine gate_callee (f := 21) rfl ?_); refine gL (some 16) Try.func21 #[.int .i64 8, .int .i64 285] ?_; (with_reducible refine zCall (galois_Binary.calls k 8 285 t179 t180 t181 t182 _ A1.out) ?_); intro w22 hb; replace HB := bS hb; (try clear hb)) | ((with_reducible refine gate_dst (N := 1) rfl ?_); refine zBox 1 #[.int .i64 0, .int .i64 0, .int .i64 0] 23 ?_; clear HB; intro gb183 w23 BK183 GE183 HB; (try clear z183_0 z183_1 z183_2 f183_0 f183_1 f183_2); obtain ⟨z183_0, z183_1, z183_2, f183_0, f183_1, f183_2⟩ := cz3 BK183) | ((with_reducible refine gate_callee (f := 23) rfl ?_); refine gL (some 20) Try.func23 #[.int .i64 7] ?_; (with_reducible refine zCall (galois_Prime.calls k 7 t184 t185 t186 t187 _ A2.out) ?_); intro w25 hb; replace BK183 := Aside0.mk (blk_below (g := gb183) (o := .cells #[.int .i64 t179, .int .i64 t180, .int .i64 t181] 23 (0, 0)) (zK BK183) hb); replace HB := bS hb; (try clear hb)) | ((with_reducible refine gate_dst (N := 3) rfl ?_); refine box_event ?hg (N := 3) ?hd (cs := #[.int .i64 0, .int .i64 0, .int .i64 0]) (t := 23) ?hr ?_; (case hd => rfl); (case hg => rfl); (case hr => first | (go_simp; done) | (go_simp; rfl)); intro gb188 hg w26 hbox hb; have BK188 := Aside0.mk (hbox); have GE188 := gE hg; replace HB := bS hb; have NB183_188 := Aside0.mk ((by rw [hg]; exact Nat.ne_of_lt (blk_lt (g := gb183) (o := .cells #[.int .i64 t179, .int .i64 t180, .int .i64 t181] 23 (0, 0)) (zK BK183)) : gb183 ≠ gb188)); have NB188_183 := Aside0.mk ((by rw [hg]; exact Nat.ne_of_gt (blk_lt (g := gb183) (o := .cells #[.int .i64 t179, .int .i64 t180, .int .i64 t181] 23 (0, 0)) (zK BK183)) : gb188 ≠ gb183)); replace BK183 := bB BK183 hb; clear hb hbox hg; have hnb27 := NB188_183.out; have hnc27 := NB183_188.out; (try clear z188_0 z188_1 z188_2 f188_0 f188_1 f188_2); obtain ⟨z188_0, z188_1, z188_2, f188_0, f188_1, f188_2⟩ := cz3 BK188; (try clear z183_0 z183_1 z183_2 f183_0 f183_1 f183_2); obtain ⟨z183_0, z183_1, z183_2, f183_0, f183_1, f183_2⟩ := cz3 BK183) | ((with_reducible refine gate_callee (f := 38) rfl ?_); refine gL (some 25) Try.func38 #[.agg #[.int .i64 t179, .int .i64 t180, .int .i64 t181], .int .i64 128, .int .i64 2] ?_; (with_reducible refine zCall (galois_Mul.calls k t179 t180 t181 128 2 t189 t190 _ A3.out) ?_); intro w30 hb; replace BK183 := Aside0.mk (blk_below (g := gb183) (o := .cells #[.int .i64 t179, .int .i64 t180, .int .i64 t181] 23 (0, 0)) (zK BK183) hb); replace BK188 := Aside0.mk (blk_below (g := gb188) (o := .cells #[.int .i64 t184, .int .i64 t185, .int .i64 t186] 23 (0, 0)) (zK BK188) hb); replace HB := bS hb; (try clear hb); (try clear z188_0 z188_1 z188_2 f188_0 f188_1 f188_2); obtain ⟨z188_0, z188_1, z188_2, f188_0, f188_1, f188_2⟩ := cz3 BK188) | ((with_reducible refine gate_callee (f := 30) rfl ?_); refine gL (some 30) Try.func30 #[.agg #[.int .i64 t184, .int .i64 t185, .int .i64 t186]] ?_; (with_reducible refine zCall (galois_Generator.calls k t184 t185 t186 t191 t192 _ A4.out) ?_); intro w32 hb; replace BK183 := bB BK183 hb; replace BK188 := bB BK188 hb; replace HB := bS hb; (try clear hb); (try clear z188_0 z188_1 z188_2 f188_0 f188_1 f188_2); obtain ⟨z188_0, z188_1, z188_2, f188_0, f188_1, f188_2⟩ := cz3 BK188) | ((with_reducible refine gate_callee (f := 32) rfl ?_); refine gL (some 35) Try.func32 #[.agg #[.int .i64 t184, .int .i64 t185, .int .i64 t186], .int .i64 6] ?_; (with_reducible refine zCall (galois_Log.calls k t184 t185 t186 6 t193 t194 _ A5.out) ?_); intro w34 hb; replace BK183 := bB BK183 hb; replace BK188 := bB BK188 hb; replace HB := bS hb; (try clear hb); (try clear z188_0 z188_1 z188_2 f188_0 f188_1 f188_2); obtain ⟨z188_0, z188_1, z188_2, f188_0, f188_1, f188_2⟩ := cz3 BK188) | ((with_reducible refine gate_callee (f := 34) rfl ?_); refine gL (some 40) Try.func34 #[.agg #[.int .i64 t184, .int .i64 t185, .int .i64 t186], .int .i64 5, .int .i64 6] ?_; (with_reducible refine zCall (galois_Add.calls k t184 t185 t186 5 6 t195 t196 _ A6.out) ?_); intro w36 hb; replace BK183 := bB BK183 hb; replace BK188 := bB BK188 hb; replace HB := bS hb; (try clear hb); (try clear z188_0 z188_1 z188_2 f188_0 f188_1 f188_2); obtain ⟨z188_0, z188_1, z188_2, f188_0, f188_1, f188_2⟩ := cz3 BK188) | ((with_reducible refine gate_callee (f := 40) rfl ?_); refine gL (some 45) Try.func40 #[.agg #[.int .i64 t184, .int .i64 t185, .int .i64 t186], .int .i64 1, .int .i64 3] ?_; (with_reducible refine zCall (galois_Div.calls k t184 t185 t186 1 3 t197 t198 _ A7.out) ?_); intro w38 hb; replace BK183 := bB BK183 hb; replace BK188 := bB BK188 hb; replace HB := bS hb; (try clear hb); (try clear z183_0 z183_1 z183_2 f183_0 f183_1 f183_2); obtain ⟨z183_0, z183_1, z183_2, f183_0, f183_1, f183_2⟩ := cz3 BK183; (try clear z188_0 z188_1 z188_2 f188_0 f188_1 f188_2); obtain ⟨z188_0, z188_1, z188_2, f188_0, f188_1, f188_2⟩ := cz3 BK188) | (go_at_call 25; (with_reducible refine (galois_Valid.calls k t184 t185 t186 t199 _ A21.out).mono ?_); rintro e w41 ⟨rfl, hb⟩; replace BK183 := bB BK183 hb; replace BK188 := bB BK188 hb; replace HB := bS hb; (try clear hb)))
              go_ret
              exact ⟨zE, zB⟩
             ·rw [if_neg c20] at H
              exact absurd H (by simp)
            ·rw [if_neg c19] at H
             exact absurd H (by simp)
           ·rw [if_neg c18] at H
            exact absurd H (by simp)
          ·rw [if_neg c17] at H
           exact absurd H (by simp)
         ·rw [if_neg c16] at H
          exact absurd H (by simp)
        ·rw [if_neg c15] at H
         exact absurd H (by simp)
       ·rw [if_neg c14] at H
        exact absurd H (by simp)
      ·rw [if_neg c13] at H
       exact absurd H (by simp)
     ·rw [if_neg c12] at H
      exact absurd H (by simp)
    ·rw [if_neg c11] at H
     exact absurd H (by simp)
   ·rw [if_neg c10] at H
    exact absurd H (by simp)
  ·rw [if_neg c9] at H
   exact absurd H (by simp)
 ·rw [if_neg c8] at H
  exact absurd H (by simp)
end
end Go.Proofs.Ytlhaclammaaabaa.Pg
