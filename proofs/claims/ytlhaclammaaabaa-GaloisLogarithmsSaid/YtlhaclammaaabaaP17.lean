-- Written by a program of this session over the print of the kit.
import Derived.Test.YtlhaclammaaabaaP0
import Derived.Test.YtlhaclammaaabaaP1
import Derived.Test.YtlhaclammaaabaaP4
import Derived.Test.YtlhaclammaaabaaP8
import Derived.Test.YtlhaclammaaabaaP10
import Derived.Test.YtlhaclammaaabaaP13
import Derived.Test.YtlhaclammaaabaaP14
import Derived.Test.YtlhaclammaaabaaP15
import Derived.Test.YtlhaclammaaabaaP16
namespace Go.Proofs.Ytlhaclammaaabaa.Pg
open Go.RowKit Go.Proofs.YtlhaclammaaabaaW.PrintWords Go.Proofs.YtlhaclammaaabaaW.PrintLast Go.Proofs.YtlhaclammaaabaaW.PrintMore
attribute [local go_sem] max2_int min2_int max_two min_two max_three min_three max_four min_four   -- for this text's walks alone
set_option linter.unusedVariables false
set_option linter.unusedSimpArgs false

attribute [local go_sem high] eqA23
/-! ### barscanlaw04_alive: function 27 -/
def barscanlaw04_alive.f (k : Nat)  : Option (Bool) := (galois_Binary.f k 8 285).bind fun bt179 => ((galois_Prime.f k 7).bind fun bt184 => ((galois_Mul.f k bt179.1 bt179.2.1 bt179.2.2.1 128 2).bind fun bt189 => ((galois_Generator.f k bt184.1 bt184.2.1 bt184.2.2.1).bind fun bt191 => ((galois_Log.f k bt184.1 bt184.2.1 bt184.2.2.1 6).bind fun bt193 => ((galois_Add.f k bt184.1 bt184.2.1 bt184.2.2.1 5 6).bind fun bt195 => ((galois_Div.f k bt184.1 bt184.2.1 bt184.2.2.1 1 3).bind fun bt197 => (if bt179.2.2.2 = 0 then (if bt184.2.2.2 = 0 then (if bt189.2 = 0 then (if bt191.2 = 0 then (if bt193.2 = 0 then (if bt195.2 = 0 then (if bt197.2 = 0 then (if (bt179.1 == 2 && (bt179.2.1 == 256 && (bt179.2.2.1 == 285))) = true then (if bt189.1 = 29 then (if bt191.1 = 3 then (if bt193.1 = 3 then (if bt195.1 = 4 then (if bt197.1 = 5 then ((galois_Valid.f k bt184.1 bt184.2.1 bt184.2.2.1).bind fun t199 => (some t199)) else (none)) else (none)) else (none)) else (none)) else (none)) else (none)) else (none)) else (none)) else (none)) else (none)) else (none)) else (none)) else (none))))))))
theorem barscanlaw04_alive.mono : ∀ k, LeO (barscanlaw04_alive.f k ) (barscanlaw04_alive.f (k + 1) ) := by
  intro  k
  unfold barscanlaw04_alive.f
  repeat' first
      | (with_reducible exact galois_Add.mono _ _ _ _ _ _)
      | (with_reducible exact galois_Binary.mono _ _ _)
      | (with_reducible exact galois_Div.mono _ _ _ _ _ _)
      | (with_reducible exact galois_Generator.mono _ _ _ _)
      | (with_reducible exact galois_Log.mono _ _ _ _ _)
      | (with_reducible exact galois_Mul.mono _ _ _ _ _ _)
      | (with_reducible exact galois_Prime.mono _ _)
      | (with_reducible exact galois_Valid.mono _ _ _ _)
      | (with_reducible exact LeO.refl _)
      | (with_reducible exact LeO.none _)
      | (with_reducible refine LeO.ite ?_ ?_)
      | (with_reducible refine LeO.bind ?_ (fun _ => ?_))
      | exact galois_Add.mono _ _ _ _ _ _
      | exact galois_Binary.mono _ _ _
      | exact galois_Div.mono _ _ _ _ _ _
      | exact galois_Generator.mono _ _ _ _
      | exact galois_Log.mono _ _ _ _ _
      | exact galois_Mul.mono _ _ _ _ _ _
      | exact galois_Prime.mono _ _
      | exact galois_Valid.mono _ _ _ _
      | exact LeO.none _
      | refine LeO.ite ?_ ?_
      | refine LeO.bind ?_ (fun _ => ?_)
set_option maxHeartbeats 8000000 in
set_option maxRecDepth 100000 in
theorem barscanlaw04_alive.calls (k : Nat)  (r : Bool) (w : World) (h : barscanlaw04_alive.f k  = some r) :
    Calls Try.prog 27 #[] w fun e w' => e = .returned (.bool r) ∧ Below w.heap.size w w' := by
  have hu23 := Try.underlying23
  have HB := Aside0.mk (Below.refl w.heap.size w)
  have H : ((galois_Binary.f k 8 285).bind fun bt179 => ((galois_Prime.f k 7).bind fun bt184 => ((galois_Mul.f k bt179.1 bt179.2.1 bt179.2.2.1 128 2).bind fun bt189 => ((galois_Generator.f k bt184.1 bt184.2.1 bt184.2.2.1).bind fun bt191 => ((galois_Log.f k bt184.1 bt184.2.1 bt184.2.2.1 6).bind fun bt193 => ((galois_Add.f k bt184.1 bt184.2.1 bt184.2.2.1 5 6).bind fun bt195 => ((galois_Div.f k bt184.1 bt184.2.1 bt184.2.2.1 1 3).bind fun bt197 => (if bt179.2.2.2 = 0 then (if bt184.2.2.2 = 0 then (if bt189.2 = 0 then (if bt191.2 = 0 then (if bt193.2 = 0 then (if bt195.2 = 0 then (if bt197.2 = 0 then (if (bt179.1 == 2 && (bt179.2.1 == 256 && (bt179.2.2.1 == 285))) = true then (if bt189.1 = 29 then (if bt191.1 = 3 then (if bt193.1 = 3 then (if bt195.1 = 4 then (if bt197.1 = 5 then ((galois_Valid.f k bt184.1 bt184.2.1 bt184.2.2.1).bind fun t199 => (some t199)) else (none)) else (none)) else (none)) else (none)) else (none)) else (none)) else (none)) else (none)) else (none)) else (none)) else (none)) else (none)) else (none))))))))) = some r := h
  clear h
  replace H := Option.bind_eq_some_iff.mp H
  obtain ⟨⟨t179, t180, t181, t182⟩, A10, H⟩ := H
  replace H : ((galois_Prime.f k 7).bind fun bt184 => ((galois_Mul.f k t179 t180 t181 128 2).bind fun bt189 => ((galois_Generator.f k bt184.1 bt184.2.1 bt184.2.2.1).bind fun bt191 => ((galois_Log.f k bt184.1 bt184.2.1 bt184.2.2.1 6).bind fun bt193 => ((galois_Add.f k bt184.1 bt184.2.1 bt184.2.2.1 5 6).bind fun bt195 => ((galois_Div.f k bt184.1 bt184.2.1 bt184.2.2.1 1 3).bind fun bt197 => (if t182 = 0 then (if bt184.2.2.2 = 0 then (if bt189.2 = 0 then (if bt191.2 = 0 then (if bt193.2 = 0 then (if bt195.2 = 0 then (if bt197.2 = 0 then (if (t179 == 2 && (t180 == 256 && (t181 == 285))) = true then (if bt189.1 = 29 then (if bt191.1 = 3 then (if bt193.1 = 3 then (if bt195.1 = 4 then (if bt197.1 = 5 then ((galois_Valid.f k bt184.1 bt184.2.1 bt184.2.2.1).bind fun t199 => (some t199)) else (none)) else (none)) else (none)) else (none)) else (none)) else (none)) else (none)) else (none)) else (none)) else (none)) else (none)) else (none)) else (none)))))))) = some r := H
  have A1 := Aside0.mk A10
  clear A10
  replace H := Option.bind_eq_some_iff.mp H
  obtain ⟨⟨t184, t185, t186, t187⟩, A20, H⟩ := H
  replace H : ((galois_Mul.f k t179 t180 t181 128 2).bind fun bt189 => ((galois_Generator.f k t184 t185 t186).bind fun bt191 => ((galois_Log.f k t184 t185 t186 6).bind fun bt193 => ((galois_Add.f k t184 t185 t186 5 6).bind fun bt195 => ((galois_Div.f k t184 t185 t186 1 3).bind fun bt197 => (if t182 = 0 then (if t187 = 0 then (if bt189.2 = 0 then (if bt191.2 = 0 then (if bt193.2 = 0 then (if bt195.2 = 0 then (if bt197.2 = 0 then (if (t179 == 2 && (t180 == 256 && (t181 == 285))) = true then (if bt189.1 = 29 then (if bt191.1 = 3 then (if bt193.1 = 3 then (if bt195.1 = 4 then (if bt197.1 = 5 then ((galois_Valid.f k t184 t185 t186).bind fun t199 => (some t199)) else (none)) else (none)) else (none)) else (none)) else (none)) else (none)) else (none)) else (none)) else (none)) else (none)) else (none)) else (none)) else (none))))))) = some r := H
  have A2 := Aside0.mk A20
  clear A20
  replace H := Option.bind_eq_some_iff.mp H
  obtain ⟨⟨t189, t190⟩, A30, H⟩ := H
  replace H : ((galois_Generator.f k t184 t185 t186).bind fun bt191 => ((galois_Log.f k t184 t185 t186 6).bind fun bt193 => ((galois_Add.f k t184 t185 t186 5 6).bind fun bt195 => ((galois_Div.f k t184 t185 t186 1 3).bind fun bt197 => (if t182 = 0 then (if t187 = 0 then (if t190 = 0 then (if bt191.2 = 0 then (if bt193.2 = 0 then (if bt195.2 = 0 then (if bt197.2 = 0 then (if (t179 == 2 && (t180 == 256 && (t181 == 285))) = true then (if t189 = 29 then (if bt191.1 = 3 then (if bt193.1 = 3 then (if bt195.1 = 4 then (if bt197.1 = 5 then ((galois_Valid.f k t184 t185 t186).bind fun t199 => (some t199)) else (none)) else (none)) else (none)) else (none)) else (none)) else (none)) else (none)) else (none)) else (none)) else (none)) else (none)) else (none)) else (none)))))) = some r := H
  have A3 := Aside0.mk A30
  clear A30
  replace H := Option.bind_eq_some_iff.mp H
  obtain ⟨⟨t191, t192⟩, A40, H⟩ := H
  replace H : ((galois_Log.f k t184 t185 t186 6).bind fun bt193 => ((galois_Add.f k t184 t185 t186 5 6).bind fun bt195 => ((galois_Div.f k t184 t185 t186 1 3).bind fun bt197 => (if t182 = 0 then (if t187 = 0 then (if t190 = 0 then (if t192 = 0 then (if bt193.2 = 0 then (if bt195.2 = 0 then (if bt197.2 = 0 then (if (t179 == 2 && (t180 == 256 && (t181 == 285))) = true then (if t189 = 29 then (if t191 = 3 then (if bt193.1 = 3 then (if bt195.1 = 4 then (if bt197.1 = 5 then ((galois_Valid.f k t184 t185 t186).bind fun t199 => (some t199)) else (none)) else (none)) else (none)) else (none)) else (none)) else (none)) else (none)) else (none)) else (none)) else (none)) else (none)) else (none)) else (none))))) = some r := H
  have A4 := Aside0.mk A40
  clear A40
  replace H := Option.bind_eq_some_iff.mp H
  obtain ⟨⟨t193, t194⟩, A50, H⟩ := H
  replace H : ((galois_Add.f k t184 t185 t186 5 6).bind fun bt195 => ((galois_Div.f k t184 t185 t186 1 3).bind fun bt197 => (if t182 = 0 then (if t187 = 0 then (if t190 = 0 then (if t192 = 0 then (if t194 = 0 then (if bt195.2 = 0 then (if bt197.2 = 0 then (if (t179 == 2 && (t180 == 256 && (t181 == 285))) = true then (if t189 = 29 then (if t191 = 3 then (if t193 = 3 then (if bt195.1 = 4 then (if bt197.1 = 5 then ((galois_Valid.f k t184 t185 t186).bind fun t199 => (some t199)) else (none)) else (none)) else (none)) else (none)) else (none)) else (none)) else (none)) else (none)) else (none)) else (none)) else (none)) else (none)) else (none)))) = some r := H
  have A5 := Aside0.mk A50
  clear A50
  replace H := Option.bind_eq_some_iff.mp H
  obtain ⟨⟨t195, t196⟩, A60, H⟩ := H
  replace H : ((galois_Div.f k t184 t185 t186 1 3).bind fun bt197 => (if t182 = 0 then (if t187 = 0 then (if t190 = 0 then (if t192 = 0 then (if t194 = 0 then (if t196 = 0 then (if bt197.2 = 0 then (if (t179 == 2 && (t180 == 256 && (t181 == 285))) = true then (if t189 = 29 then (if t191 = 3 then (if t193 = 3 then (if t195 = 4 then (if bt197.1 = 5 then ((galois_Valid.f k t184 t185 t186).bind fun t199 => (some t199)) else (none)) else (none)) else (none)) else (none)) else (none)) else (none)) else (none)) else (none)) else (none)) else (none)) else (none)) else (none)) else (none))) = some r := H
  have A6 := Aside0.mk A60
  clear A60
  replace H := Option.bind_eq_some_iff.mp H
  obtain ⟨⟨t197, t198⟩, A70, H⟩ := H
  replace H : (if t182 = 0 then (if t187 = 0 then (if t190 = 0 then (if t192 = 0 then (if t194 = 0 then (if t196 = 0 then (if t198 = 0 then (if (t179 == 2 && (t180 == 256 && (t181 == 285))) = true then (if t189 = 29 then (if t191 = 3 then (if t193 = 3 then (if t195 = 4 then (if t197 = 5 then ((galois_Valid.f k t184 t185 t186).bind fun t199 => (some t199)) else (none)) else (none)) else (none)) else (none)) else (none)) else (none)) else (none)) else (none)) else (none)) else (none)) else (none)) else (none)) else (none)) = some r := H
  have A7 := Aside0.mk A70
  clear A70
  by_cases c8 : t182 = 0
  · rw [if_pos c8] at H
    have c8b0 : (t182 == 0) = true := beq_iff_eq.mpr c8
    have c8b1 : (t182 != 0) = false := bne_eq_false_iff_eq.mpr c8
    clear c8
    by_cases c9 : t187 = 0
    · rw [if_pos c9] at H
      have c9b0 : (t187 == 0) = true := beq_iff_eq.mpr c9
      have c9b1 : (t187 != 0) = false := bne_eq_false_iff_eq.mpr c9
      clear c9
      by_cases c10 : t190 = 0
      · rw [if_pos c10] at H
        have c10b0 : (t190 == 0) = true := beq_iff_eq.mpr c10
        have c10b1 : (t190 != 0) = false := bne_eq_false_iff_eq.mpr c10
        clear c10
        by_cases c11 : t192 = 0
        · rw [if_pos c11] at H
          have c11b0 : (t192 == 0) = true := beq_iff_eq.mpr c11
          have c11b1 : (t192 != 0) = false := bne_eq_false_iff_eq.mpr c11
          clear c11
          by_cases c12 : t194 = 0
          · rw [if_pos c12] at H
            have c12b0 : (t194 == 0) = true := beq_iff_eq.mpr c12
            have c12b1 : (t194 != 0) = false := bne_eq_false_iff_eq.mpr c12
            clear c12
            by_cases c13 : t196 = 0
            · rw [if_pos c13] at H
              have c13b0 : (t196 == 0) = true := beq_iff_eq.mpr c13
              have c13b1 : (t196 != 0) = false := bne_eq_false_iff_eq.mpr c13
              clear c13
              by_cases c14 : t198 = 0
              · rw [if_pos c14] at H
                have c14b0 : (t198 == 0) = true := beq_iff_eq.mpr c14
                have c14b1 : (t198 != 0) = false := bne_eq_false_iff_eq.mpr c14
                clear c14
                by_cases c15 : (t179 == 2 && (t180 == 256 && (t181 == 285))) = true
                · rw [if_pos c15] at H
                  have c15b0 : (t179 == 2 && (t180 == 256 && (t181 == 285))) = true := c15
                  (try (have c15b1 : decide (t179 = 2 && (t180 == 256 && (t181 == 285))) = true := by simpa using c15))
                  (try (have c15b2 : (t179 == 2 && (t180 == 256 && (t181 == 285))) = true := by simpa using c15))
                  clear c15
                  by_cases c16 : t189 = 29
                  · rw [if_pos c16] at H
                    have c16b0 : (t189 == 29) = true := beq_iff_eq.mpr c16
                    have c16b1 : (t189 != 29) = false := bne_eq_false_iff_eq.mpr c16
                    clear c16
                    by_cases c17 : t191 = 3
                    · rw [if_pos c17] at H
                      have c17b0 : (t191 == 3) = true := beq_iff_eq.mpr c17
                      have c17b1 : (t191 != 3) = false := bne_eq_false_iff_eq.mpr c17
                      clear c17
                      by_cases c18 : t193 = 3
                      · rw [if_pos c18] at H
                        have c18b0 : (t193 == 3) = true := beq_iff_eq.mpr c18
                        have c18b1 : (t193 != 3) = false := bne_eq_false_iff_eq.mpr c18
                        clear c18
                        by_cases c19 : t195 = 4
                        · rw [if_pos c19] at H
                          have c19b0 : (t195 == 4) = true := beq_iff_eq.mpr c19
                          have c19b1 : (t195 != 4) = false := bne_eq_false_iff_eq.mpr c19
                          clear c19
                          by_cases c20 : t197 = 5
                          · rw [if_pos c20] at H
                            have c20b0 : (t197 == 5) = true := beq_iff_eq.mpr c20
                            have c20b1 : (t197 != 5) = false := bne_eq_false_iff_eq.mpr c20
                            clear c20
                            replace H := Option.bind_eq_some_iff.mp H
                            obtain ⟨t199, A210, H⟩ := H
                            replace H : (some t199) = some r := H
                            have A21 := Aside0.mk A210
                            clear A210
                            obtain rfl := Option.some.inj H
                            go_enter Try.func27, Try.ntmps27
                            go_wp2_with (first | ((with_reducible refine gate_callee (f := 21) rfl ?_); refine goesL_ (some 16) rfl rfl Try.func21 (by kernel_rfl) rfl #[.int .i64 8, .int .i64 285] rfl (by (try simp only [List.map_toArray, List.map_cons, List.map_nil]); first | done | rfl | (simp only [List.length_drop, List.length_take]; rfl)) ?_; (with_reducible refine (galois_Binary.calls k 8 285 t179 t180 t181 t182 _ A1.out).mono ?_); rintro e w22 ⟨rfl, hb⟩; refine ⟨_, rfl, ?_⟩; have n0_ := Aside0.mk (below_step (by repeat (first | (with_reducible first | exact HB.out | apply below_alloc | apply pw_below_drewN | apply below_drew1) | exact HB.out)) hb); clear HB; have HB := n0_; clear n0_; (try clear hb); (try clear hb2); (try clear hk); (try clear hi)) | ((with_reducible refine gate_dst (N := 1) rfl ?_); refine box_event ?hg (N := 1) ?hd (cs := #[.int .i64 0, .int .i64 0, .int .i64 0]) (t := 23) ?hr ?_; (case hd => rfl); (case hg => rfl); (case hr => first | (go_simp; done) | (go_simp; rfl)); intro gb183 hg w23 hbox hb; have n0_ := Aside0.mk (below_step (by repeat (first | (with_reducible first | exact HB.out | apply below_alloc | apply pw_below_drewN | apply below_drew1) | exact HB.out)) hb); have n1_ := Aside0.mk (hbox); have n2_ := Aside0.mk ((by rw [hg]; exact (below_size (by repeat (first | (with_reducible first | exact HB.out | apply below_alloc | apply pw_below_drewN | apply below_drew1) | exact HB.out))) : w.heap.size ≤ gb183)); have n3_ := Aside0.mk ((by rw [hg]; exact (below_size (by repeat (first | (with_reducible first | exact HB.out | apply below_alloc | apply pw_below_drewN | apply below_drew1) | exact HB.out))) : w.heap.size ≤ gb183)); clear HB; have HB := n0_; have BK183 := n1_; have GW183 := n2_; have GE183 := n3_; clear n0_ n1_ n2_ n3_; clear hb hbox hg; have hcz24_0 : w23.cell? ⟨gb183, 0, none⟩ = some (.int .i64 0) := (blk_cell BK183.out 0).trans rfl; have hcz24_1 : w23.cell? ⟨gb183, 1, none⟩ = some (.int .i64 0) := (blk_cell BK183.out 1).trans rfl; have hcz24_2 : w23.cell? ⟨gb183, 2, none⟩ = some (.int .i64 0) := (blk_cell BK183.out 2).trans rfl; have hfz24_0 := blk_frozen BK183.out 0; have hfz24_1 := blk_frozen BK183.out 1; have hfz24_2 := blk_frozen BK183.out 2) | ((with_reducible refine gate_callee (f := 23) rfl ?_); refine goesL_ (some 20) rfl rfl Try.func23 (by kernel_rfl) rfl #[.int .i64 7] rfl (by (try simp only [List.map_toArray, List.map_cons, List.map_nil]); first | done | rfl | (simp only [List.length_drop, List.length_take]; rfl)) ?_; (with_reducible refine (galois_Prime.calls k 7 t184 t185 t186 t187 _ A2.out).mono ?_); rintro e w25 ⟨rfl, hb⟩; refine ⟨_, rfl, ?_⟩; have n0_ := Aside0.mk (blk_below (g := gb183) (o := .cells #[.int .i64 t179, .int .i64 t180, .int .i64 t181] 23 (0, 0)) (by (with_reducible repeat (first | refine blk_drewN ?_ _ | refine blk_drew ?_ | refine blk_alloc ?_ _)); refine blk_put (cs := #[.int .i64 t179, .int .i64 t180, .int .i64 0]) ?_ 2 _ rfl; (with_reducible repeat (first | refine blk_drewN ?_ _ | refine blk_drew ?_ | refine blk_alloc ?_ _)); refine blk_put (cs := #[.int .i64 t179, .int .i64 0, .int .i64 0]) ?_ 1 _ rfl; (with_reducible repeat (first | refine blk_drewN ?_ _ | refine blk_drew ?_ | refine blk_alloc ?_ _)); refine blk_put (cs := #[.int .i64 0, .int .i64 0, .int .i64 0]) ?_ 0 _ rfl; (with_reducible repeat (first | refine blk_drewN ?_ _ | refine blk_drew ?_ | refine blk_alloc ?_ _)); exact BK183.out) hb); have n1_ := Aside0.mk (below_step (by repeat (first | (with_reducible first | exact HB.out | apply below_alloc | apply pw_below_drewN | apply below_drew1 | refine below_set ?_ GE183.out) | exact HB.out)) hb); clear BK183; clear HB; have BK183 := n0_; have HB := n1_; clear n0_ n1_; (try clear hb); (try clear hb2); (try clear hk); (try clear hi)) | ((with_reducible refine gate_dst (N := 3) rfl ?_); refine box_event ?hg (N := 3) ?hd (cs := #[.int .i64 0, .int .i64 0, .int .i64 0]) (t := 23) ?hr ?_; (case hd => rfl); (case hg => rfl); (case hr => first | (go_simp; done) | (go_simp; rfl)); intro gb188 hg w26 hbox hb; have n0_ := Aside0.mk (blk_below (g := gb183) (o := .cells #[.int .i64 t179, .int .i64 t180, .int .i64 t181] 23 (0, 0)) (by (with_reducible repeat (first | refine blk_drewN ?_ _ | refine blk_drew ?_ | refine blk_alloc ?_ _)); exact BK183.out) hb); have n1_ := Aside0.mk (below_step (by repeat (first | (with_reducible first | exact HB.out | apply below_alloc | apply pw_below_drewN | apply below_drew1 | refine below_set ?_ GE183.out) | exact HB.out)) hb); have n2_ := Aside0.mk (hbox); have n3_ := Aside0.mk ((by rw [hg]; exact (below_size (by repeat (first | (with_reducible first | exact HB.out | apply below_alloc | apply pw_below_drewN | apply below_drew1 | refine below_set ?_ GE183.out) | exact HB.out))) : w.heap.size ≤ gb188)); have n4_ := Aside0.mk ((by rw [hg]; exact (below_size (by repeat (first | (with_reducible first | exact HB.out | apply below_alloc | apply pw_below_drewN | apply below_drew1 | refine below_set ?_ GE183.out) | exact HB.out))) : w.heap.size ≤ gb188)); have n5_ := Aside0.mk ((by rw [hg]; exact Nat.ne_of_lt (blk_lt (g := gb183) (o := .cells #[.int .i64 t179, .int .i64 t180, .int .i64 t181] 23 (0, 0)) (by (with_reducible repeat (first | refine blk_drewN ?_ _ | refine blk_drew ?_ | refine blk_alloc ?_ _)); exact BK183.out)) : gb183 ≠ gb188)); have n6_ := Aside0.mk ((by rw [hg]; exact Nat.ne_of_gt (blk_lt (g := gb183) (o := .cells #[.int .i64 t179, .int .i64 t180, .int .i64 t181] 23 (0, 0)) (by (with_reducible repeat (first | refine blk_drewN ?_ _ | refine blk_drew ?_ | refine blk_alloc ?_ _)); exact BK183.out)) : gb188 ≠ gb183)); clear BK183; clear HB; have BK183 := n0_; have HB := n1_; have BK188 := n2_; have GW188 := n3_; have GE188 := n4_; have NB183_188 := n5_; have NB188_183 := n6_; clear n0_ n1_ n2_ n3_ n4_ n5_ n6_; clear hb hbox hg; have hnb27 := NB188_183.out; have hnc27 := NB183_188.out; have hcz28_0 : w26.cell? ⟨gb188, 0, none⟩ = some (.int .i64 0) := (blk_cell BK188.out 0).trans rfl; have hcz28_1 : w26.cell? ⟨gb188, 1, none⟩ = some (.int .i64 0) := (blk_cell BK188.out 1).trans rfl; have hcz28_2 : w26.cell? ⟨gb188, 2, none⟩ = some (.int .i64 0) := (blk_cell BK188.out 2).trans rfl; have hfz28_0 := blk_frozen BK188.out 0; have hfz28_1 := blk_frozen BK188.out 1; have hfz28_2 := blk_frozen BK188.out 2; have hcz29_0 : w26.cell? ⟨gb183, 0, none⟩ = some (.int .i64 t179) := (blk_cell BK183.out 0).trans rfl; have hcz29_1 : w26.cell? ⟨gb183, 1, none⟩ = some (.int .i64 t180) := (blk_cell BK183.out 1).trans rfl; have hcz29_2 : w26.cell? ⟨gb183, 2, none⟩ = some (.int .i64 t181) := (blk_cell BK183.out 2).trans rfl; have hfz29_0 := blk_frozen BK183.out 0; have hfz29_1 := blk_frozen BK183.out 1; have hfz29_2 := blk_frozen BK183.out 2) | ((with_reducible refine gate_callee (f := 38) rfl ?_); refine goesL_ (some 25) rfl rfl Try.func38 (by kernel_rfl) rfl #[.agg #[.int .i64 t179, .int .i64 t180, .int .i64 t181], .int .i64 128, .int .i64 2] rfl (by (try simp only [List.map_toArray, List.map_cons, List.map_nil]); first | done | rfl | (simp only [List.length_drop, List.length_take]; rfl)) ?_; (with_reducible refine (galois_Mul.calls k t179 t180 t181 128 2 t189 t190 _ A3.out).mono ?_); rintro e w30 ⟨rfl, hb⟩; refine ⟨_, rfl, ?_⟩; have n0_ := Aside0.mk (blk_below (g := gb183) (o := .cells #[.int .i64 t179, .int .i64 t180, .int .i64 t181] 23 (0, 0)) (by (with_reducible repeat (first | refine blk_drewN ?_ _ | refine blk_drew ?_ | refine blk_alloc ?_ _)); refine blk_far ?_ NB183_188.out _; (with_reducible repeat (first | refine blk_drewN ?_ _ | refine blk_drew ?_ | refine blk_alloc ?_ _)); refine blk_far ?_ NB183_188.out _; (with_reducible repeat (first | refine blk_drewN ?_ _ | refine blk_drew ?_ | refine blk_alloc ?_ _)); refine blk_far ?_ NB183_188.out _; (with_reducible repeat (first | refine blk_drewN ?_ _ | refine blk_drew ?_ | refine blk_alloc ?_ _)); exact BK183.out) hb); have n1_ := Aside0.mk (blk_below (g := gb188) (o := .cells #[.int .i64 t184, .int .i64 t185, .int .i64 t186] 23 (0, 0)) (by (with_reducible repeat (first | refine blk_drewN ?_ _ | refine blk_drew ?_ | refine blk_alloc ?_ _)); refine blk_put (cs := #[.int .i64 t184, .int .i64 t185, .int .i64 0]) ?_ 2 _ rfl; (with_reducible repeat (first | refine blk_drewN ?_ _ | refine blk_drew ?_ | refine blk_alloc ?_ _)); refine blk_put (cs := #[.int .i64 t184, .int .i64 0, .int .i64 0]) ?_ 1 _ rfl; (with_reducible repeat (first | refine blk_drewN ?_ _ | refine blk_drew ?_ | refine blk_alloc ?_ _)); refine blk_put (cs := #[.int .i64 0, .int .i64 0, .int .i64 0]) ?_ 0 _ rfl; (with_reducible repeat (first | refine blk_drewN ?_ _ | refine blk_drew ?_ | refine blk_alloc ?_ _)); exact BK188.out) hb); have n2_ := Aside0.mk (below_step (by repeat (first | (with_reducible first | exact HB.out | apply below_alloc | apply pw_below_drewN | apply below_drew1 | refine below_set ?_ GE183.out | refine below_set ?_ GE188.out) | exact HB.out)) hb); clear BK183; clear BK188; clear HB; have BK183 := n0_; have BK188 := n1_; have HB := n2_; clear n0_ n1_ n2_; (try clear hb); (try clear hb2); (try clear hk); (try clear hi); have hcz31_0 : w30.cell? ⟨gb188, 0, none⟩ = some (.int .i64 t184) := (blk_cell BK188.out 0).trans rfl; have hcz31_1 : w30.cell? ⟨gb188, 1, none⟩ = some (.int .i64 t185) := (blk_cell BK188.out 1).trans rfl; have hcz31_2 : w30.cell? ⟨gb188, 2, none⟩ = some (.int .i64 t186) := (blk_cell BK188.out 2).trans rfl; have hfz31_0 := blk_frozen BK188.out 0; have hfz31_1 := blk_frozen BK188.out 1; have hfz31_2 := blk_frozen BK188.out 2) | ((with_reducible refine gate_callee (f := 30) rfl ?_); refine goesL_ (some 30) rfl rfl Try.func30 (by kernel_rfl) rfl #[.agg #[.int .i64 t184, .int .i64 t185, .int .i64 t186]] rfl (by (try simp only [List.map_toArray, List.map_cons, List.map_nil]); first | done | rfl | (simp only [List.length_drop, List.length_take]; rfl)) ?_; (with_reducible refine (galois_Generator.calls k t184 t185 t186 t191 t192 _ A4.out).mono ?_); rintro e w32 ⟨rfl, hb⟩; refine ⟨_, rfl, ?_⟩; have n0_ := Aside0.mk (blk_below (g := gb183) (o := .cells #[.int .i64 t179, .int .i64 t180, .int .i64 t181] 23 (0, 0)) (by (with_reducible repeat (first | refine blk_drewN ?_ _ | refine blk_drew ?_ | refine blk_alloc ?_ _)); exact BK183.out) hb); have n1_ := Aside0.mk (blk_below (g := gb188) (o := .cells #[.int .i64 t184, .int .i64 t185, .int .i64 t186] 23 (0, 0)) (by (with_reducible repeat (first | refine blk_drewN ?_ _ | refine blk_drew ?_ | refine blk_alloc ?_ _)); exact BK188.out) hb); have n2_ := Aside0.mk (below_step (by repeat (first | (with_reducible first | exact HB.out | apply below_alloc | apply pw_below_drewN | apply below_drew1 | refine below_set ?_ GE183.out | refine below_set ?_ GE188.out) | exact HB.out)) hb); clear BK183; clear BK188; clear HB; have BK183 := n0_; have BK188 := n1_; have HB := n2_; clear n0_ n1_ n2_; (try clear hb); (try clear hb2); (try clear hk); (try clear hi); have hcz33_0 : w32.cell? ⟨gb188, 0, none⟩ = some (.int .i64 t184) := (blk_cell BK188.out 0).trans rfl; have hcz33_1 : w32.cell? ⟨gb188, 1, none⟩ = some (.int .i64 t185) := (blk_cell BK188.out 1).trans rfl; have hcz33_2 : w32.cell? ⟨gb188, 2, none⟩ = some (.int .i64 t186) := (blk_cell BK188.out 2).trans rfl; have hfz33_0 := blk_frozen BK188.out 0; have hfz33_1 := blk_frozen BK188.out 1; have hfz33_2 := blk_frozen BK188.out 2) | ((with_reducible refine gate_callee (f := 32) rfl ?_); refine goesL_ (some 35) rfl rfl Try.func32 (by kernel_rfl) rfl #[.agg #[.int .i64 t184, .int .i64 t185, .int .i64 t186], .int .i64 6] rfl (by (try simp only [List.map_toArray, List.map_cons, List.map_nil]); first | done | rfl | (simp only [List.length_drop, List.length_take]; rfl)) ?_; (with_reducible refine (galois_Log.calls k t184 t185 t186 6 t193 t194 _ A5.out).mono ?_); rintro e w34 ⟨rfl, hb⟩; refine ⟨_, rfl, ?_⟩; have n0_ := Aside0.mk (blk_below (g := gb183) (o := .cells #[.int .i64 t179, .int .i64 t180, .int .i64 t181] 23 (0, 0)) (by (with_reducible repeat (first | refine blk_drewN ?_ _ | refine blk_drew ?_ | refine blk_alloc ?_ _)); exact BK183.out) hb); have n1_ := Aside0.mk (blk_below (g := gb188) (o := .cells #[.int .i64 t184, .int .i64 t185, .int .i64 t186] 23 (0, 0)) (by (with_reducible repeat (first | refine blk_drewN ?_ _ | refine blk_drew ?_ | refine blk_alloc ?_ _)); exact BK188.out) hb); have n2_ := Aside0.mk (below_step (by repeat (first | (with_reducible first | exact HB.out | apply below_alloc | apply pw_below_drewN | apply below_drew1 | refine below_set ?_ GE183.out | refine below_set ?_ GE188.out) | exact HB.out)) hb); clear BK183; clear BK188; clear HB; have BK183 := n0_; have BK188 := n1_; have HB := n2_; clear n0_ n1_ n2_; (try clear hb); (try clear hb2); (try clear hk); (try clear hi); have hcz35_0 : w34.cell? ⟨gb188, 0, none⟩ = some (.int .i64 t184) := (blk_cell BK188.out 0).trans rfl; have hcz35_1 : w34.cell? ⟨gb188, 1, none⟩ = some (.int .i64 t185) := (blk_cell BK188.out 1).trans rfl; have hcz35_2 : w34.cell? ⟨gb188, 2, none⟩ = some (.int .i64 t186) := (blk_cell BK188.out 2).trans rfl; have hfz35_0 := blk_frozen BK188.out 0; have hfz35_1 := blk_frozen BK188.out 1; have hfz35_2 := blk_frozen BK188.out 2) | ((with_reducible refine gate_callee (f := 34) rfl ?_); refine goesL_ (some 40) rfl rfl Try.func34 (by kernel_rfl) rfl #[.agg #[.int .i64 t184, .int .i64 t185, .int .i64 t186], .int .i64 5, .int .i64 6] rfl (by (try simp only [List.map_toArray, List.map_cons, List.map_nil]); first | done | rfl | (simp only [List.length_drop, List.length_take]; rfl)) ?_; (with_reducible refine (galois_Add.calls k t184 t185 t186 5 6 t195 t196 _ A6.out).mono ?_); rintro e w36 ⟨rfl, hb⟩; refine ⟨_, rfl, ?_⟩; have n0_ := Aside0.mk (blk_below (g := gb183) (o := .cells #[.int .i64 t179, .int .i64 t180, .int .i64 t181] 23 (0, 0)) (by (with_reducible repeat (first | refine blk_drewN ?_ _ | refine blk_drew ?_ | refine blk_alloc ?_ _)); exact BK183.out) hb); have n1_ := Aside0.mk (blk_below (g := gb188) (o := .cells #[.int .i64 t184, .int .i64 t185, .int .i64 t186] 23 (0, 0)) (by (with_reducible repeat (first | refine blk_drewN ?_ _ | refine blk_drew ?_ | refine blk_alloc ?_ _)); exact BK188.out) hb); have n2_ := Aside0.mk (below_step (by repeat (first | (with_reducible first | exact HB.out | apply below_alloc | apply pw_below_drewN | apply below_drew1 | refine below_set ?_ GE183.out | refine below_set ?_ GE188.out) | exact HB.out)) hb); clear BK183; clear BK188; clear HB; have BK183 := n0_; have BK188 := n1_; have HB := n2_; clear n0_ n1_ n2_; (try clear hb); (try clear hb2); (try clear hk); (try clear hi); have hcz37_0 : w36.cell? ⟨gb188, 0, none⟩ = some (.int .i64 t184) := (blk_cell BK188.out 0).trans rfl; have hcz37_1 : w36.cell? ⟨gb188, 1, none⟩ = some (.int .i64 t185) := (blk_cell BK188.out 1).trans rfl; have hcz37_2 : w36.cell? ⟨gb188, 2, none⟩ = some (.int .i64 t186) := (blk_cell BK188.out 2).trans rfl; have hfz37_0 := blk_frozen BK188.out 0; have hfz37_1 := blk_frozen BK188.out 1; have hfz37_2 := blk_frozen BK188.out 2) | ((with_reducible refine gate_callee (f := 40) rfl ?_); refine goesL_ (some 45) rfl rfl Try.func40 (by kernel_rfl) rfl #[.agg #[.int .i64 t184, .int .i64 t185, .int .i64 t186], .int .i64 1, .int .i64 3] rfl (by (try simp only [List.map_toArray, List.map_cons, List.map_nil]); first | done | rfl | (simp only [List.length_drop, List.length_take]; rfl)) ?_; (with_reducible refine (galois_Div.calls k t184 t185 t186 1 3 t197 t198 _ A7.out).mono ?_); rintro e w38 ⟨rfl, hb⟩; refine ⟨_, rfl, ?_⟩; have n0_ := Aside0.mk (blk_below (g := gb183) (o := .cells #[.int .i64 t179, .int .i64 t180, .int .i64 t181] 23 (0, 0)) (by (with_reducible repeat (first | refine blk_drewN ?_ _ | refine blk_drew ?_ | refine blk_alloc ?_ _)); exact BK183.out) hb); have n1_ := Aside0.mk (blk_below (g := gb188) (o := .cells #[.int .i64 t184, .int .i64 t185, .int .i64 t186] 23 (0, 0)) (by (with_reducible repeat (first | refine blk_drewN ?_ _ | refine blk_drew ?_ | refine blk_alloc ?_ _)); exact BK188.out) hb); have n2_ := Aside0.mk (below_step (by repeat (first | (with_reducible first | exact HB.out | apply below_alloc | apply pw_below_drewN | apply below_drew1 | refine below_set ?_ GE183.out | refine below_set ?_ GE188.out) | exact HB.out)) hb); clear BK183; clear BK188; clear HB; have BK183 := n0_; have BK188 := n1_; have HB := n2_; clear n0_ n1_ n2_; (try clear hb); (try clear hb2); (try clear hk); (try clear hi); have hcz39_0 : w38.cell? ⟨gb183, 0, none⟩ = some (.int .i64 t179) := (blk_cell BK183.out 0).trans rfl; have hcz39_1 : w38.cell? ⟨gb183, 1, none⟩ = some (.int .i64 t180) := (blk_cell BK183.out 1).trans rfl; have hcz39_2 : w38.cell? ⟨gb183, 2, none⟩ = some (.int .i64 t181) := (blk_cell BK183.out 2).trans rfl; have hfz39_0 := blk_frozen BK183.out 0; have hfz39_1 := blk_frozen BK183.out 1; have hfz39_2 := blk_frozen BK183.out 2; have hcz40_0 : w38.cell? ⟨gb188, 0, none⟩ = some (.int .i64 t184) := (blk_cell BK188.out 0).trans rfl; have hcz40_1 : w38.cell? ⟨gb188, 1, none⟩ = some (.int .i64 t185) := (blk_cell BK188.out 1).trans rfl; have hcz40_2 : w38.cell? ⟨gb188, 2, none⟩ = some (.int .i64 t186) := (blk_cell BK188.out 2).trans rfl; have hfz40_0 := blk_frozen BK188.out 0; have hfz40_1 := blk_frozen BK188.out 1; have hfz40_2 := blk_frozen BK188.out 2) | (go_at_call 25; (with_reducible refine (galois_Valid.calls k t184 t185 t186 t199 _ A21.out).mono ?_); rintro e w41 ⟨rfl, hb⟩; have n0_ := Aside0.mk (blk_below (g := gb183) (o := .cells #[.int .i64 t179, .int .i64 t180, .int .i64 t181] 23 (0, 0)) (by (with_reducible repeat (first | refine blk_drewN ?_ _ | refine blk_drew ?_ | refine blk_alloc ?_ _)); exact BK183.out) hb); have n1_ := Aside0.mk (blk_below (g := gb188) (o := .cells #[.int .i64 t184, .int .i64 t185, .int .i64 t186] 23 (0, 0)) (by (with_reducible repeat (first | refine blk_drewN ?_ _ | refine blk_drew ?_ | refine blk_alloc ?_ _)); exact BK188.out) hb); have n2_ := Aside0.mk (below_step (by repeat (first | (with_reducible first | exact HB.out | apply below_alloc | apply pw_below_drewN | apply below_drew1 | refine below_set ?_ GE183.out | refine below_set ?_ GE188.out) | exact HB.out)) hb); clear BK183; clear BK188; clear HB; have BK183 := n0_; have BK188 := n1_; have HB := n2_; clear n0_ n1_ n2_; (try clear hb); (try clear hb2); (try clear hk); (try clear hi)))
                            go_ret
                            exact ⟨by first | rfl | (simp [errW_none, errW_some] <;> rfl) | (simp [*, errW_none, errW_some] <;> rfl), by repeat (first | (with_reducible first | exact HB.out | apply below_alloc | apply pw_below_drewN | apply below_drew1 | refine below_set ?_ GE183.out | refine below_set ?_ GE188.out) | exact HB.out)⟩
                          · rw [if_neg c20] at H
                            exact absurd H (by simp)
                        · rw [if_neg c19] at H
                          exact absurd H (by simp)
                      · rw [if_neg c18] at H
                        exact absurd H (by simp)
                    · rw [if_neg c17] at H
                      exact absurd H (by simp)
                  · rw [if_neg c16] at H
                    exact absurd H (by simp)
                · rw [if_neg c15] at H
                  exact absurd H (by simp)
              · rw [if_neg c14] at H
                exact absurd H (by simp)
            · rw [if_neg c13] at H
              exact absurd H (by simp)
          · rw [if_neg c12] at H
            exact absurd H (by simp)
        · rw [if_neg c11] at H
          exact absurd H (by simp)
      · rw [if_neg c10] at H
        exact absurd H (by simp)
    · rw [if_neg c9] at H
      exact absurd H (by simp)
  · rw [if_neg c8] at H
    exact absurd H (by simp)

end Go.Proofs.Ytlhaclammaaabaa.Pg
