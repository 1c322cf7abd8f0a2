import Derived.Test.YtlhaclammaaabaaB46
import Derived.Test.YtlhaclammaaabaaB45
import Derived.Test.YtlhaclammaaabaaRFrm
import Derived.Test.YtlhaclammaaabaaUOps
/-! PolynomialEvaluates, with no program in sight. -/
namespace Go.Proofs.Ytlhaclammaaabaa.Pg
open Go.RowKit Go.Proofs.YtlhaclammaaabaaW.PrintWords Go.Proofs.YtlhaclammaaabaaW.PrintLast Go.Proofs.YtlhaclammaaabaaW.PrintMore
open Go.Proofs.Ytlhaclammaaabaa.Alg (CF card pw Ser Bd sadd ssub smul pmul tl sh cst lin plin)
theorem relem_eq {c s p : Int} (x : Int) : barscanref05_element.f c s p x = some (decide (0 ≤ x) && decide (x < s)) := by
  unfold barscanref05_element.f
  by_cases h : x ≥ 0
  · rw [if_pos h, decide_eq_true (show 0 ≤ x from h)]; rfl
  · rw [if_neg h, decide_eq_false (show ¬ 0 ≤ x from h)]; rfl
section
variable {c s p : Int} (M : Model c s p)
theorem rplus05 (a b : M.K) : barscanref05_plus.f c s p (M.v a) (M.v b) = some (M.v (a + b)) := rplus_eq M a b
theorem rEval_l {a : List Int} {A : Ser M.K} (ha : PL M a A) (hla : a.length ≤ 4097) (x : M.K) (u : Nat) : ∀ i : Nat, i + u = a.length →
    Ev (fun k => barscanref05_Eval.l0 k a (M.v x) (M.v (Alg.ev i A x)) (M.v (pw x i)) (i : Int) c s p) (M.v (Alg.ev a.length A x), 0) := by
  induction u with
  | zero =>
    intro i hi
    obtain rfl : i = a.length := by omega
    refine evs ?_
    simp only [barscanref05_Eval.l0]
    exact evf (by omega) (Ev.now _)
  | succ u ih =>
    intro i hi
    have hi' : i < a.length := by omega
    have hih := ih (i + 1) (by omega)
    refine evs ?_
    simp only [barscanref05_Eval.l0]
    rw [rd_co M ha.inb hi', ha.eq, show wrap64 ((i : Int) + 1) = ((i + 1 : Nat) : Int) from w64 (by omega) (by omega)]
    refine evt (by omega) (evt (by omega) (Ev.bind (r5times M _ _) ?_))
    simp only [rplus05 M]
    rw [Alg.ev_succ_last, Alg.pw_succ] at hih
    exact Ev.bind (Ev.now _) (Ev.bind (r5times M _ _) hih)
theorem rEval {a : List Int} {A : Ser M.K} (ha : PL M a A) (hla : a.length ≤ 4097) (x : M.K) : Ev (fun k => barscanref05_Eval.f k c s p a (M.v x)) (M.v (Alg.ev a.length A x), 0) := by
  have h := rEval_l M ha hla x a.length 0 (by omega)
  rw [show M.v (Alg.ev 0 A x) = 0 from M.zero, show M.v (pw x 0) = 1 from M.one] at h
  unfold barscanref05_Eval.f
  simp only [relem_eq]
  refine Ev.bind (rPValid (s_lt' M) a) (evt (ha.valid M hla) (Ev.bind (Ev.now _) (evs ?_)))
  rw [decide_eq_true (M.low x), decide_eq_true (M.high x)]
  simp only [barscanref05_Eval.j0]
  exact evf (by simp) h
theorem rRoots_l {a : List Int} {A : Ser M.K} (ha : PL M a A) (hla : a.length ≤ 4097) (u : Nat) : ∀ j : Nat, (j : Int) + u = s →
    Ev (fun k => barscanref05_Roots.l0 k a (rts M a.length A j) (j : Int) c s p) (rts M a.length A s.toNat, 0) := by
  induction u with
  | zero =>
    intro j hj
    refine evs ?_
    simp only [barscanref05_Roots.l0]
    exact evf (by omega) (evn (by rw [show s.toNat = j from by omega]) (Ev.now _))
  | succ u ih =>
    intro j hj
    refine evs ?_
    simp only [barscanref05_Roots.l0]
    have hv : M.v (el M (j : Int)) = j := v_el M (by omega) (by omega)
    have hval := rEval M ha hla (el M (j : Int))
    rw [hv] at hval
    have hs := M.small
    have hnext := ih (j + 1) (by omega)
    rw [show wrap64 ((j : Int) + 1) = ((j + 1 : Nat) : Int) from w64 (by omega) (by omega)]
    refine evt (by omega) (Ev.bind hval ?_)
    by_cases h : Alg.ev a.length A (el M (j : Int)) = 0
    · refine evt ((v_zero_iff M _).2 h) (evt (by have := rts_length M a.length A j; omega) ?_)
      have e : rts M a.length A (j + 1) = rts M a.length A j ++ [(j : Int)] := if_pos h
      rw [e] at hnext
      exact hnext
    · refine evf (fun e => h ((v_zero_iff M _).1 e)) ?_
      have e : rts M a.length A (j + 1) = rts M a.length A j := if_neg h
      rw [e] at hnext
      exact hnext
end
theorem both_Eval (c s p : Int) (a : List Int) (x : Int) (hs : s < 2 ^ 63) : ∃ r, Ev (fun k => polynomial_Eval.f k c s p a x) r ∧ Ev (fun k => barscanref05_Eval.f k c s p a x) r := by
  by_cases ha : validB c s p a = true
  rotate_left
  · refine ⟨(0, 1), Ev.bind (ev_PValid a) (evf ha (Ev.now _)), Ev.bind (rPValid hs a) (evf ha (evs ?_))⟩
    simp only [barscanref05_Eval.j0]; exact evt (by simp) (Ev.now _)
  by_cases hx : (decide (0 ≤ x) && decide (x < s)) = true
  rotate_left
  · have hx' := Bool.eq_false_iff.2 hx
    unfold polynomial_Eval.f barscanref05_Eval.f
    simp only [member_eq, relem_eq]
    refine ⟨(0, 1), Ev.bind (ev_PValid a) (evt ha (Ev.bind (Ev.now _) (evf hx (Ev.now _)))), Ev.bind (rPValid hs a) (evt ha (Ev.bind (Ev.now _) (evs ?_)))⟩
    simp only [barscanref05_Eval.j0, hx']; exact evt (by simp) (Ev.now _)
  obtain ⟨M⟩ := valid_model ha
  obtain ⟨la, hpa⟩ := of_valid M ha
  simp only [Bool.and_eq_true, decide_eq_true_eq] at hx
  obtain ⟨y, rfl⟩ := M.of x hx.1 hx.2
  exact ⟨_, ev_Eval M hpa la (hpa.bd M) y, rEval M hpa la y⟩
theorem both_Roots (c s p : Int) (a : List Int) (hs : s < 2 ^ 63) : ∃ r : List Int × Int, r.1.length < 17592186044416 ∧ Ev (fun k => polynomial_Roots.f k c s p a) r ∧ Ev (fun k => barscanref05_Roots.f k c s p a) r := by
  by_cases ha : validB c s p a = true
  rotate_left
  · exact ⟨([], 1), by simp, Ev.bind (ev_PValid a) (evf ha (Ev.now _)), Ev.bind (rPValid hs a) (evf ha (Ev.now _))⟩
  by_cases h0 : (a.length : Int) = 0
  · exact ⟨([], 12), by simp, Ev.bind (ev_PValid a) (evt ha (evt h0 (Ev.now _))), Ev.bind (rPValid hs a) (evt ha (evt h0 (Ev.now _)))⟩
  obtain ⟨M⟩ := valid_model ha
  obtain ⟨la, hpa⟩ := of_valid M ha
  have hl := rts_length M a.length (co M a) s.toNat
  have h1 := M.small
  have h2 := M.big
  refine ⟨(rts M a.length (co M a) s.toNat, 0), by simp only; omega, ev_Roots M hpa la (by omega) (hpa.bd M), Ev.bind (rPValid hs a) (evt ha (evf h0 ?_))⟩
  exact rRoots_l M hpa la s.toNat 0 (by omega)
theorem pure_PolynomialEvaluates (c s p : Int) (a ro : List Int) (x : Int) (hs : s < 2 ^ 63) (hl : ro.length < 17592186044416) : ∃ k, barscanlaw05_PolynomialEvaluates.f k c s p a ro x = some true := by
  refine Ev.rounds ?_
  have j2 : ∀ t, Ev (fun k => barscanlaw05_PolynomialEvaluates.j2 k a t c s p) true := by
    intro t
    refine evs ?_
    simp only [barscanlaw05_PolynomialEvaluates.j2]
    by_cases h : t = true
    · exact evt h (Ev.bind ev_ex (Ev.now _))
    · obtain ⟨r, h1, h2, h3⟩ := both_Roots c s p a hs
      exact evf h (Ev.bind h2 (Ev.bind h3 (Ev.bind (ev_same h1) (evt rfl (evt rfl (Ev.bind ev_ex (Ev.now _)))))))
  have j1 : Ev (fun k => barscanlaw05_PolynomialEvaluates.j1 k a false c s p) true := by
    refine evs ?_
    simp only [barscanlaw05_PolynomialEvaluates.j1]
    refine evf (by simp) ?_
    by_cases h : s > 4096
    · exact evt h (j2 _)
    · exact evf h (j2 _)
  have j0 : ∀ t, Ev (fun k => barscanlaw05_PolynomialEvaluates.j0 k a ro x t c s p) true := by
    intro t
    refine evs ?_
    simp only [barscanlaw05_PolynomialEvaluates.j0]
    by_cases h : t = true
    · exact evt h (Ev.bind ev_ex (Ev.now _))
    · obtain ⟨r1, a1, b1⟩ := both_Eval c s p a x hs
      obtain ⟨r2, l2, a2, b2⟩ := both_FromRoots c s p ro hs hl
      refine evf h (Ev.bind a1 (Ev.bind b1 (Ev.bind a2 (Ev.bind b2 (evt rfl (evt rfl (Ev.bind (ev_same l2) (evt rfl ?_))))))))
      rw [show (r2.2 != r2.2) = false from by simp]
      exact j1
  simp only [barscanlaw05_PolynomialEvaluates.f]
  by_cases h1 : (a.length : Int) > 100
  · exact evt h1 (j0 _)
  refine evf h1 ?_
  by_cases h2 : (ro.length : Int) > 100
  · exact evt h2 (j0 _)
  · exact evf h2 (j0 _)
end Go.Proofs.Ytlhaclammaaabaa.Pg
