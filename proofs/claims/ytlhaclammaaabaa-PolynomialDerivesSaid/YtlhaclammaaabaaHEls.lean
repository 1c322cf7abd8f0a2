import Derived.Test.YtlhaclammaaabaaB0
import Derived.Test.YtlhaclammaaabaaB1
/-! polynomial.elements: a closure handed to slices.ContainsFunc. -/
namespace Go.Proofs.Ytlhaclammaaabaa.Pg
open Go.RowKit Go.Proofs.YtlhaclammaaabaaW.PrintWords Go.Proofs.YtlhaclammaaabaaW.PrintLast Go.Proofs.YtlhaclammaaabaaW.PrintMore
set_option linter.unusedVariables false
set_option linter.unusedSimpArgs false

/-- The number is no element of a field of this size. -/
def bad (f1 a : Int) : Bool := !(decide (0 ≤ a) && decide (a < f1))
theorem member_f (f0 f1 f2 a : Int) : polynomial_member.f f0 f1 f2 a = some (!bad f1 a) := by
  unfold polynomial_member.f bad
  by_cases h : a ≥ 0
  · rw [if_pos h]; simp [show (0 : Int) ≤ a from h]
  · rw [if_neg h]; simp [show ¬ (0 : Int) ≤ a from h]
/-- The closure. -/
theorem clos_calls (g : Nat) (f0 f1 f2 a : Int) (w : World) (hg : w.heap[g]? = some (.cells #[.int .i64 f0, .int .i64 f1, .int .i64 f2] 23 (0, 0))) :
    Calls Try.prog 133 #[.int .i64 a, .pointer (some ⟨g, 0, none⟩)] w fun e w' => e = .returned (.bool (bad f1 a)) ∧ Below w.heap.size w w' := by
  have hu23 := Try.underlying23
  have hm := Aside0.mk (member_f f0 f1 f2 a)
  have h0 : w.cell? ⟨g, 0, none⟩ = some (.int .i64 f0) := (blk_cell hg 0).trans rfl
  have h1 : w.cell? ⟨g, 1, none⟩ = some (.int .i64 f1) := (blk_cell hg 1).trans rfl
  have h2 : w.cell? ⟨g, 2, none⟩ = some (.int .i64 f2) := (blk_cell hg 2).trans rfl
  clear hg
  go_enter Try.func133, Try.ntmps133
  go_wp2_with (go_at_call 107; (with_reducible refine (polynomial_member.calls f0 f1 f2 a (!bad f1 a) _ hm.out).mono ?_); rintro e w' ⟨rfl, hb⟩; have HB := Aside0.mk hb; clear hb)
  go_ret
  exact ⟨by simp, HB.out⟩
/-- slices.IndexFunc with this closure, from index i on. -/
def idxf.l0 : Nat → List Int → Int → Int → Int → Option Int
  | 0, _, _, _, _ => none
  | k + 1, x0, x7, x8, f1 => if x8 < x7 then (if 0 ≤ x8 then (if x8 < (x0.length : Int) then (if bad f1 (rd x0 x8) = true then some x8 else idxf.l0 k x0 x7 (wrap64 (x8 + 1)) f1) else none) else none) else some (-1)
set_option maxHeartbeats 8000000 in
set_option maxRecDepth 100000 in
theorem idxf_calls (k : Nat) (A0 : Option Addr) (c0 : Nat) (l0 : List Int) (g : Nat) (f0 f1 f2 : Int) (r : Int) (w : World) (hr0 : Kd.C (Kd.int .i64) w A0 l0.length l0) (hc0 : l0.length ≤ c0)
    (hg : w.heap[g]? = some (.cells #[.int .i64 f0, .int .i64 f1, .int .i64 f2] 23 (0, 0))) (h : idxf.l0 k l0 (l0.length : Int) 0 f1 = some r) :
    Calls Try.prog 138 #[.slice A0 l0.length c0, .func (.func 133) #[] #[.pointer (some ⟨g, 0, none⟩)]] w fun e w' => e = .returned (.int .i64 r) ∧ Below w.heap.size w w' := by
  have HR0 := Aside0.mk hr0
  have HC0 := Aside0.mk hc0
  clear hr0 hc0
  have HG := Aside0.mk hg
  clear hg
  have HB := Aside0.mk (Below.refl w.heap.size w)
  have H' := Aside0.mk h
  clear h
  go_enter Try.func138, Try.ntmps138
  go_wp2
  go_loopg [8] k (fun kq v8 w' => ∃ (x8_1 : Int), v8 = .int .i64 x8_1 ∧ Aside0 (idxf.l0 kq l0 (l0.length : Int) x8_1 f1 = some r) ∧ Aside0 (kq ≤ k) ∧ Aside0 (Below w.heap.size w w'))
  case atStart => exact ⟨(0), rfl, H', ⟨Nat.le_refl _⟩, HB⟩
  case round =>
    clear H' HB
    obtain ⟨x8_1, rfl, HA, HK1, HB⟩ := hrel
    cases gk with
    | zero => exact absurd HA.out (by simp [idxf.l0])
    | succ k1 =>
      have H := HA.out
      clear HA
      simp only [idxf.l0] at H
      have HG1 := Aside0.mk (blk_below (g := g) HG.out HB.out)
      by_cases c3 : x8_1 < (l0.length : Int)
      · rw [if_pos c3] at H
        have c3b0 : decide (x8_1 < (l0.length : Int)) = true := decide_eq_true c3
        clear c3
        by_cases c4 : 0 ≤ x8_1
        · rw [if_pos c4] at H
          have c4b0 : decide (0 ≤ x8_1) = true := decide_eq_true c4
          clear c4
          by_cases c5 : x8_1 < (l0.length : Int)
          · rw [if_pos c5] at H
            clear c5
            have p897 : 0 ≤ (x8_1 : Int) := of_decide_eq_true (by assumption)
            have q897 : x8_1 < (l0.length : Int) := of_decide_eq_true (by assumption)
            obtain ⟨ad897, e897, hx897_0⟩ := Kd.at_int HR0.out x8_1 p897 q897
            cases e897
            replace hx897_0 := (HB.out.cell (World.block_lt_of_cell? w _ hx897_0)).trans hx897_0
            replace p897 := eq_true p897
            replace q897 := eq_true q897
            by_cases c6 : bad f1 (rd l0 x8_1) = true
            · rw [if_pos c6] at H
              obtain rfl := Option.some.inj H
              clear H
              go_wp2_with (go_at_call 133; (with_reducible refine (clos_calls g f0 f1 f2 (rd l0 x8_1) _ HG1.out).mono ?_); rintro e w2 ⟨rfl, hb⟩; have HB2 := Aside0.mk (below_step HB.out hb); clear hb)
              go_ret
              exact ⟨rfl, HB2.out⟩
            · rw [if_neg c6] at H
              replace c6 := Bool.eq_false_iff.mpr c6
              have H' := Aside0.mk H
              clear H
              go_wp2_with (go_at_call 133; (with_reducible refine (clos_calls g f0 f1 f2 (rd l0 x8_1) _ HG1.out).mono ?_); rintro e w2 ⟨rfl, hb⟩; have HB2 := Aside0.mk (below_step HB.out hb); clear hb)
              go_roundg k1
              case measure => have := HK1.out; omega
              case rel => exact ⟨(wrap64 (x8_1 + 1)), rfl, H', ⟨by have := HK1.out; omega⟩, HB2⟩
          · rw [if_neg c5] at H
            exact absurd H (by simp)
        · rw [if_neg c4] at H
          exact absurd H (by simp)
      · rw [if_neg c3] at H
        have c3b0 : decide (x8_1 < (l0.length : Int)) = false := decide_eq_false c3
        clear c3
        obtain rfl := Option.some.inj H
        clear H
        go_wp2
        go_ret
        exact ⟨rfl, HB.out⟩
theorem contains_calls (k : Nat) (A0 : Option Addr) (c0 : Nat) (l0 : List Int) (g : Nat) (f0 f1 f2 : Int) (r : Int) (w : World) (hr0 : Kd.C (Kd.int .i64) w A0 l0.length l0) (hc0 : l0.length ≤ c0)
    (hg : w.heap[g]? = some (.cells #[.int .i64 f0, .int .i64 f1, .int .i64 f2] 23 (0, 0))) (h : idxf.l0 k l0 (l0.length : Int) 0 f1 = some r) :
    Calls Try.prog 132 #[.slice A0 l0.length c0, .func (.func 133) #[] #[.pointer (some ⟨g, 0, none⟩)]] w fun e w' => e = .returned (.bool (decide (0 ≤ r))) ∧ Below w.heap.size w w' := by
  have HR0 := Aside0.mk hr0
  have HC0 := Aside0.mk hc0
  clear hr0 hc0
  have HG := Aside0.mk hg
  clear hg
  have H' := Aside0.mk h
  clear h
  go_enter Try.func132, Try.ntmps132
  go_wp2_with (go_at_call 138; (with_reducible refine (idxf_calls k A0 c0 l0 g f0 f1 f2 r _ HR0.out HC0.out HG.out H'.out).mono ?_); rintro e w2 ⟨rfl, hb⟩; have HB2 := Aside0.mk hb; clear hb)
  go_ret
  exact ⟨rfl, HB2.out⟩
/-- What IndexFunc answers. -/
theorem idxf_any (f1 : Int) (l : List Int) (hl : (l.length : Int) ≤ 9223372036854775807) (d : Nat) : ∀ (k : Nat) (i : Int), 0 ≤ i → i ≤ l.length → (l.length : Int) - i = d → d < k →
    ∃ r, idxf.l0 k l (l.length : Int) i f1 = some r ∧ decide (0 ≤ r) = (l.drop i.toNat).any (bad f1) := by
  induction d with
  | zero =>
    intro k i h0 h1 hd hk
    obtain ⟨k, rfl⟩ : ∃ m, k = m + 1 := ⟨k - 1, by omega⟩
    refine ⟨-1, by simp only [idxf.l0]; rw [if_neg (by omega)], ?_⟩
    rw [List.drop_of_length_le (by omega)]; rfl
  | succ d ih =>
    intro k i h0 h1 hd hk
    obtain ⟨k, rfl⟩ : ∃ m, k = m + 1 := ⟨k - 1, by omega⟩
    have hlt : i < (l.length : Int) := by omega
    obtain ⟨n, rfl⟩ := Int.eq_ofNat_of_zero_le h0
    have hn : n < l.length := by omega
    have hr : rd l (n : Int) = l[n] := by simp [rd, List.getD_eq_getElem?_getD, hn]
    have hdrop : l.drop (n : Int).toNat = l[n] :: l.drop (n + 1) := by
      rw [Int.toNat_natCast]; exact List.drop_eq_getElem_cons hn
    by_cases c : bad f1 l[n] = true
    · refine ⟨n, by simp only [idxf.l0]; rw [if_pos hlt, if_pos h0, if_pos hlt, hr, if_pos c], ?_⟩
      rw [hdrop, List.any_cons, c]; simp
    · obtain ⟨r, hr1, hr2⟩ := ih k (n + 1) (by omega) (by omega) (by omega) (by omega)
      refine ⟨r, ?_, ?_⟩
      · simp only [idxf.l0]; rw [if_pos hlt, if_pos h0, if_pos hlt, hr, if_neg c, show wrap64 ((n : Int) + 1) = n + 1 from by unfold wrap64; omega]; exact hr1
      · rw [hr2, hdrop, List.any_cons, Bool.eq_false_iff.mpr c, Bool.false_or]; rfl
/-- The field is valid, and all numbers are elements. -/
def polynomial_elements.f (k : Nat) (a0_0 : Int) (a0_1 : Int) (a0_2 : Int) (l1 : List Int) : Option Bool := (galois_Valid.f k a0_0 a0_1 a0_2).bind fun t => some (t && !l1.any (bad a0_1))
theorem polynomial_elements.mono : ∀ a0 a1 a2 a3 k, LeO (polynomial_elements.f k a0 a1 a2 a3) (polynomial_elements.f (k + 1) a0 a1 a2 a3) := by
  intro a0 a1 a2 a3 k
  unfold polynomial_elements.f
  exact LeO.bind (galois_Valid.mono _ _ _ _) (fun _ => LeO.refl _)
set_option maxHeartbeats 8000000 in
set_option maxRecDepth 100000 in
theorem polynomial_elements.calls (k : Nat) (a0_0 : Int) (a0_1 : Int) (a0_2 : Int) (A1 : Option Addr) (c1 : Nat) (l1 : List Int) (r : Bool) (w : World) (hr1 : Kd.C (Kd.int .i64) w A1 l1.length l1) (hc1 : l1.length ≤ c1) (h : polynomial_elements.f k a0_0 a0_1 a0_2 l1 = some r) :
    Calls Try.prog 102 #[.agg #[.int .i64 a0_0, .int .i64 a0_1, .int .i64 a0_2], .slice A1 l1.length c1] w fun e w' => e = .returned (.bool r) ∧ Below w.heap.size w w' := by
  have hu23 := Try.underlying23
  have hmf : ∀ (fn : Fn) (first cap : Array Value) (w : World), (Instr.makeFunc fn first cap).run Try.prog w = .ok (.func fn first cap) w := fun _ _ _ _ => rfl
  have hlen := hr1.2.1
  obtain ⟨ri, hi, hri⟩ := idxf_any a0_1 l1 (by omega) l1.length (l1.length + 1) 0 (by omega) (by omega) (by omega) (by omega)
  have HI := Aside0.mk hi
  have HRI := Aside0.mk hri
  clear hi hri hlen
  have HR1 := Aside0.mk hr1
  have HC1 := Aside0.mk hc1
  clear hr1 hc1
  have HB := Aside0.mk (Below.refl w.heap.size w)
  unfold polynomial_elements.f at h
  replace h := Option.bind_eq_some_iff.mp h
  obtain ⟨t, hv, h⟩ := h
  have HV := Aside0.mk hv
  clear hv
  cases t with
  | false =>
    obtain rfl := Option.some.inj h
    clear h
    go_enter Try.func102, Try.ntmps102
    go_wp2_with (first | ((with_reducible refine gate_dst (N := 2) rfl ?_); refine box_event ?hg (N := 2) ?hd (cs := #[.int .i64 a0_0, .int .i64 a0_1, .int .i64 a0_2]) (t := 23) ?hr ?_; (case hd => rfl); (case hg => rfl); (case hr => first | (go_simp; done) | (go_simp; rfl)); intro gb hg w7 hbox hb; have n0_ := Aside0.mk (below_step HB.out hb); have n1_ := Aside0.mk hbox; clear HB; have HB := n0_; have BK := n1_; clear n0_ n1_; clear hb hbox hg; have b0_ : w7.cell? ⟨gb, 0, none⟩ = some (.int .i64 a0_0) := (blk_cell BK.out 0).trans rfl; have b1_ : w7.cell? ⟨gb, 1, none⟩ = some (.int .i64 a0_1) := (blk_cell BK.out 1).trans rfl; have b2_ : w7.cell? ⟨gb, 2, none⟩ = some (.int .i64 a0_2) := (blk_cell BK.out 2).trans rfl) | (go_at_call 25; (with_reducible refine (galois_Valid.calls k a0_0 a0_1 a0_2 false _ HV.out).mono ?_); rintro e w2 ⟨rfl, hb⟩; have n0_ := Aside0.mk (below_step HB.out hb); clear HB; have HB := n0_; clear n0_ hb))
    go_ret
    exact ⟨rfl, HB.out⟩
  | true =>
    obtain rfl := Option.some.inj h
    clear h
    go_enter Try.func102, Try.ntmps102
    go_wp2_with (first | ((with_reducible refine gate_dst (N := 2) rfl ?_); refine box_event ?hg (N := 2) ?hd (cs := #[.int .i64 a0_0, .int .i64 a0_1, .int .i64 a0_2]) (t := 23) ?hr ?_; (case hd => rfl); (case hg => rfl); (case hr => first | (go_simp; done) | (go_simp; rfl)); intro gb hg w7 hbox hb; have n0_ := Aside0.mk (below_step HB.out hb); have n1_ := Aside0.mk hbox; clear HB; have HB := n0_; have BK := n1_; clear n0_ n1_; clear hb hbox hg; have b0_ : w7.cell? ⟨gb, 0, none⟩ = some (.int .i64 a0_0) := (blk_cell BK.out 0).trans rfl; have b1_ : w7.cell? ⟨gb, 1, none⟩ = some (.int .i64 a0_1) := (blk_cell BK.out 1).trans rfl; have b2_ : w7.cell? ⟨gb, 2, none⟩ = some (.int .i64 a0_2) := (blk_cell BK.out 2).trans rfl) | (go_at_call 25; (with_reducible refine (galois_Valid.calls k a0_0 a0_1 a0_2 true _ HV.out).mono ?_); rintro e w2 ⟨rfl, hb⟩; have n0_ := Aside0.mk (below_step HB.out hb); have n1_ := Aside0.mk (blk_below (g := gb) BK.out hb); clear HB; have HB := n0_; clear n0_; clear BK; have BK := n1_; clear n1_ hb) | (go_at_call 132; (with_reducible refine (contains_calls (l1.length + 1) A1 c1 l1 gb a0_0 a0_1 a0_2 ri _ (Kd.C_below HR1.out HB.out) HC1.out BK.out HI.out).mono ?_); rintro e w2 ⟨rfl, hb⟩; have n0_ := Aside0.mk (below_step HB.out hb); clear HB; have HB := n0_; clear n0_ hb))
    go_ret
    exact ⟨by rw [HRI.out]; simp, HB.out⟩
end Go.Proofs.Ytlhaclammaaabaa.Pg
