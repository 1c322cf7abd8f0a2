import Derived.Test.YtlhaclammaaabaaB38
import Derived.Test.YtlhaclammaaabaaB37
import Derived.Test.YtlhaclammaaabaaB2
import Derived.Test.YtlhaclammaaabaaRDiv
import Derived.Test.YtlhaclammaaabaaUGcd
import Derived.Test.YtlhaclammaaabaaURest
import Derived.Test.YtlhaclammaaabaaUOps
/-! PolynomialDivides, with no program in sight. -/
namespace Go.Proofs.Ytlhaclammaaabaa.Pg
open Go.RowKit Go.Proofs.YtlhaclammaaabaaW.PrintWords Go.Proofs.YtlhaclammaaabaaW.PrintLast Go.Proofs.YtlhaclammaaabaaW.PrintMore
open Go.Proofs.Ytlhaclammaaabaa.Alg (CF card pw Ser Bd sadd ssub smul pmul tl sh cst Dv Monic IsG)
section
variable {c s p : Int} (M : Model c s p)
theorem relement_eq (x : Int) : barscanref05_element.f c s p x = some (decide (0 ≤ x) && decide (x < s)) := by
  unfold barscanref05_element.f
  by_cases h : x ≥ 0
  · rw [if_pos h, decide_eq_true (show 0 ≤ x from h)]; rfl
  · rw [if_neg h, decide_eq_false (show ¬ 0 ≤ x from h)]; rfl
theorem rScale {a : List Int} {A : Ser M.K} (ha : PL M a A) (hla : a.length ≤ 4097) (y : M.K) :
    Ev (fun k => barscanref05_Scale.f k c s p a (M.v y)) (trim (mk M (fun i => A i * y) a.length), 0) := by
  have h := rScale_l M ha.inb (by omega) y a.length 0 (by omega)
  rw [ha.eq] at h
  unfold barscanref05_Scale.f
  simp only [relement_eq]
  refine Ev.bind (rPValid (s_lt M) a) (evt (ha.valid M hla) (Ev.bind (Ev.now _) (evs ?_)))
  rw [decide_eq_true (M.low y), decide_eq_true (M.high y)]
  simp only [barscanref05_Scale.j0]
  exact evf (by simp) h
theorem rMonic {a : List Int} {A : Ser M.K} (ha : PL M a A) (hla : a.length ≤ 4097) : ∃ d D, PL M d D ∧ IsG A (fun _ => 0) D ∧ d.length ≤ a.length ∧ Ev (fun k => barscanref05_Monic.f k c s p a) d := by
  unfold barscanref05_Monic.f
  by_cases h0 : a.length = 0
  · have hA := (ha.zero M).1 h0
    subst hA
    exact ⟨[], _, PL.nil M, IsG.zero, by simp, evt (by omega) (Ev.now _)⟩
  · obtain ⟨n, hn⟩ : ∃ n, a.length = n + 1 := ⟨a.length - 1, by omega⟩
    have hne := ha.top M hn
    have hb : Bd A (n + 1) := hn ▸ ha.bd M
    have hD : (fun i => A i * inv M (A n)) = smul (inv M (A n)) A := by
      funext i; exact Alg.mul_comm _ _
    refine ⟨_, _, PL.nf M (F := smul (inv M (A n)) A) (n := a.length) ((ha.bd M).smul _), IsG.of_zero hb (inv_mul M hne) rfl, nf_len M _ _, evf (by omega) ?_⟩
    rw [show wrap64 ((a.length : Int) - 1) = (n : Int) from by rw [w64 (by omega) (by omega)]; omega, rd_co M ha.inb (show n < a.length by omega), ha.eq]
    have := rScale M ha hla (inv M (A n))
    rw [hD] at this
    exact evt (by omega) (evt (by omega) (Ev.bind (rInv M hne) (Ev.bind this (Ev.now _))))
theorem rgcd_l (N : Nat) : ∀ (a b : List Int) (A B : Ser M.K), b.length < N → PL M a A → PL M b B → a.length ≤ 4097 → b.length ≤ 4097 →
    ∃ d D, PL M d D ∧ IsG A B D ∧ Ev (fun k => barscanref05_GCD.l0 k a b c s p) (d, 0) := by
  induction N with
  | zero => intro a b A B h; omega
  | succ N ih =>
    intro a b A B hN ha hb hla hlb
    by_cases h0 : b.length = 0
    · have hB := (hb.zero M).1 h0
      subst hB
      obtain ⟨d, D, h1, h2, _, h4⟩ := rMonic M ha hla
      refine ⟨d, D, h1, h2, evs ?_⟩
      simp only [barscanref05_GCD.l0]
      exact evf (by omega) (Ev.bind h4 (Ev.now _))
    · obtain ⟨n, hn⟩ : ∃ n, b.length = n + 1 := ⟨b.length - 1, by omega⟩
      obtain ⟨q, r, Q, R, hq, hr, e, hR, _, hrl, h1⟩ := rDivMod M ha hb hla hlb hn
      have hrn := hr.length_le M hR
      obtain ⟨d, D, h2, h3, h5⟩ := ih b r B R (by omega) hb hr hlb (by omega)
      refine ⟨d, D, h2, h3.step (hq.bd M) e, evs ?_⟩
      simp only [barscanref05_GCD.l0]
      exact evt (by omega) (Ev.bind h1 h5)
end
theorem both_DivMod (c s p : Int) (a b : List Int) (hs : s < 2 ^ 63) : ∃ r : List Int × List Int × Int, r.1.length < 17592186044416 ∧ r.2.1.length < 17592186044416 ∧ Ev (fun k => polynomial_DivMod.f k c s p a b) r ∧ Ev (fun k => barscanref05_DivMod.f k c s p a b) r := by
  by_cases ha : validB c s p a = true
  rotate_left
  · refine ⟨([], [], 1), by simp, by simp, Ev.bind (ev_PValid a) (evf ha (evs ?_)), Ev.bind (rPValid hs a) (evf ha (evs ?_))⟩
    · simp only [polynomial_DivMod.j0]; exact evt (by simp) (Ev.now _)
    · simp only [barscanref05_DivMod.j0]; exact evt (by simp) (Ev.now _)
  by_cases hb : validB c s p b = true
  rotate_left
  · have hb' := Bool.eq_false_iff.2 hb
    refine ⟨([], [], 1), by simp, by simp, Ev.bind (ev_PValid a) (evt ha (Ev.bind (ev_PValid b) (evs ?_))), Ev.bind (rPValid hs a) (evt ha (Ev.bind (rPValid hs b) (evs ?_)))⟩
    · simp only [polynomial_DivMod.j0, hb']; exact evt (by simp) (Ev.now _)
    · simp only [barscanref05_DivMod.j0, hb']; exact evt (by simp) (Ev.now _)
  obtain ⟨M⟩ := valid_model ha
  obtain ⟨la, hpa⟩ := of_valid M ha
  obtain ⟨lb, hpb⟩ := of_valid M hb
  by_cases h0 : b.length = 0
  · refine ⟨([], [], 12), by simp, by simp, Ev.bind (ev_PValid a) (evt ha (Ev.bind (ev_PValid b) (evs ?_))), Ev.bind (rPValid hs a) (evt ha (Ev.bind (rPValid hs b) (evs ?_)))⟩
    · simp only [polynomial_DivMod.j0, hb]; exact evf (by simp) (evt (by omega) (Ev.now _))
    · simp only [barscanref05_DivMod.j0, hb]; exact evf (by simp) (evt (by omega) (Ev.now _))
  obtain ⟨n, hn⟩ : ∃ n, b.length = n + 1 := ⟨b.length - 1, by omega⟩
  obtain ⟨q, r, Q, R, h1, h2, h3, h4, h5, h6, h7⟩ := ev_DivMod M hpa hpb la lb hn
  obtain ⟨q', r', Q', R', g1, g2, g3, g4, g5, g6, g7⟩ := rDivMod M hpa hpb la lb hn
  obtain ⟨rfl, rfl⟩ := Alg.div_unique (m := max q.length q'.length) (hn ▸ hpb.bd M) (hpb.top M hn) ((h1.bd M).mono (Nat.le_max_left _ _)) ((g1.bd M).mono (Nat.le_max_right _ _)) h4 g4 (h3.symm.trans g3)
  rw [← h1.unique M g1, ← h2.unique M g2] at g7
  exact ⟨(q, r, 0), by simp only; omega, by simp only; omega, h7, g7⟩
theorem both_GCD (c s p : Int) (a b : List Int) (hs : s < 2 ^ 63) : ∃ r : List Int × Int, r.1.length < 17592186044416 ∧ Ev (fun k => polynomial_GCD.f k c s p a b) r ∧ Ev (fun k => barscanref05_GCD.f k c s p a b) r := by
  by_cases ha : validB c s p a = true
  rotate_left
  · refine ⟨([], 1), by simp, Ev.bind (ev_PValid a) (evf ha (evs ?_)), Ev.bind (rPValid hs a) (evf ha (evs ?_))⟩
    · simp only [polynomial_GCD.j0]; exact evt (by simp) (Ev.now _)
    · simp only [barscanref05_GCD.j0]; exact evt (by simp) (Ev.now _)
  by_cases hb : validB c s p b = true
  rotate_left
  · have hb' := Bool.eq_false_iff.2 hb
    refine ⟨([], 1), by simp, Ev.bind (ev_PValid a) (evt ha (Ev.bind (ev_PValid b) (evs ?_))), Ev.bind (rPValid hs a) (evt ha (Ev.bind (rPValid hs b) (evs ?_)))⟩
    · simp only [polynomial_GCD.j0, hb']; exact evt (by simp) (Ev.now _)
    · simp only [barscanref05_GCD.j0, hb']; exact evt (by simp) (Ev.now _)
  obtain ⟨M⟩ := valid_model ha
  obtain ⟨la, hpa⟩ := of_valid M ha
  obtain ⟨lb, hpb⟩ := of_valid M hb
  obtain ⟨d, D, h1, h2, h3, h4⟩ := ev_GCD M hpa hpb la lb
  obtain ⟨d', D', g1, g2, g4⟩ := rgcd_l M _ a b _ _ (Nat.lt_succ_self _) hpa hpb la lb
  have e := h2.unique g2
  subst e
  rw [← h1.unique M g1] at g4
  refine ⟨(d, 0), by simp only; omega, h4, Ev.bind (rPValid hs a) (evt ha (Ev.bind (rPValid hs b) (evs ?_)))⟩
  simp only [barscanref05_GCD.j0, hb]
  exact evf (by simp) g4
theorem pure_PolynomialDivides (c s p : Int) (a b : List Int) (hs : s < 2 ^ 63) : ∃ k, barscanlaw05_PolynomialDivides.f k c s p a b = some true := by
  refine Ev.rounds ?_
  simp only [barscanlaw05_PolynomialDivides.f]
  by_cases h1 : (a.length : Int) > 100
  · exact evt h1 (Ev.bind ev_ex (Ev.now _))
  refine evf h1 ?_
  by_cases h2 : (b.length : Int) > 100
  · exact evt h2 (Ev.bind ev_ex (Ev.now _))
  refine evf h2 ?_
  obtain ⟨r1, l1, l1', a1, b1⟩ := both_DivMod c s p a b hs
  obtain ⟨r2, l2, a2, b2⟩ := both_GCD c s p a b hs
  exact Ev.bind a1 (Ev.bind b1 (Ev.bind a2 (Ev.bind b2 (Ev.bind (ev_same l1) (evt rfl (Ev.bind (ev_same l1') (evt rfl (evt rfl (Ev.bind (ev_same l2) (evt rfl (evt rfl (Ev.bind ev_ex (Ev.now _)))))))))))))
end Go.Proofs.Ytlhaclammaaabaa.Pg
