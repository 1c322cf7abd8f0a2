import Derived.Test.YtlhaclammaaabaaB31
import Derived.Test.YtlhaclammaaabaaUMul
/-! PolynomialMultiplies, with no program in sight. -/
namespace Go.Proofs.Ytlhaclammaaabaa.Pg
open Go.RowKit Go.Proofs.YtlhaclammaaabaaW.PrintWords Go.Proofs.YtlhaclammaaabaaW.PrintLast Go.Proofs.YtlhaclammaaabaaW.PrintMore
open Go.Proofs.Ytlhaclammaaabaa.Alg (CF card pw Ser Bd sadd pmul tl sh)
set_option linter.unusedVariables false
set_option linter.unusedSimpArgs false
set_option maxRecDepth 1000000
theorem examples_true : barscanlaw05_examples.f 60 = some true := by decide +kernel
theorem ev_examples : Ev (fun k => barscanlaw05_examples.f k) true := Ev.of (fun k => barscanlaw05_examples.mono k) examples_true
theorem trim_length (l : List Int) : (trim l).length ≤ l.length := by
  unfold trim
  rw [List.length_reverse]
  have := (List.dropWhile_sublist (p := fun x : Int => x == 0) (l := l.reverse)).length_le
  rwa [List.length_reverse] at this
theorem validB_iff {c s p : Int} {l : List Int} : validB c s p l = true ↔ l.length ≤ 4097 ∧ tight l = true ∧ Good c s p ∧ inB s l = true := by
  unfold validB
  simp only [Bool.and_eq_true, decide_eq_true_eq, goodB_iff, and_assoc]
theorem both_PMul (c s p : Int) (a b : List Int) (hs : s < 2 ^ 63) : ∃ r : List Int × Int, r.1.length < 17592186044416 ∧ Ev (fun k => polynomial_Mul.f k c s p a b) r ∧ Ev (fun k => barscanref05_Mul.f k c s p a b) r := by
  unfold polynomial_Mul.f barscanref05_Mul.f
  by_cases ha : validB c s p a = true
  rotate_left
  · refine ⟨([], 1), by simp, Ev.bind (ev_PValid a) (evf ha (evs ?_)), Ev.bind (rPValid hs a) (evf ha (evs ?_))⟩
    · simp only [polynomial_Mul.j0]; exact evt (by simp) (Ev.now _)
    · simp only [barscanref05_Mul.j0]; exact evt (by simp) (Ev.now _)
  by_cases hb : validB c s p b = true
  rotate_left
  · have hb' := Bool.eq_false_iff.2 hb
    refine ⟨([], 1), by simp, Ev.bind (ev_PValid a) (evt ha (Ev.bind (ev_PValid b) (evs ?_))), Ev.bind (rPValid hs a) (evt ha (Ev.bind (rPValid hs b) (evs ?_)))⟩
    · simp only [polynomial_Mul.j0, hb']; exact evt (by simp) (Ev.now _)
    · simp only [barscanref05_Mul.j0, hb']; exact evt (by simp) (Ev.now _)
  obtain ⟨la, ta, hg, ia⟩ := validB_iff.1 ha
  obtain ⟨lb, tb, _, ib⟩ := validB_iff.1 hb
  obtain ⟨M⟩ := model hg
  have w1 : wrap64 (wrap64 ((a.length : Int) + (b.length : Int)) - 2) = (a.length : Int) + (b.length : Int) - 2 := by rw [w64 (x := (a.length : Int) + (b.length : Int)) (by omega) (by omega), w64 (by omega) (by omega)]
  have w2 : wrap64 (wrap64 ((a.length : Int) + (b.length : Int)) - 1) = (a.length : Int) + (b.length : Int) - 1 := by rw [w64 (x := (a.length : Int) + (b.length : Int)) (by omega) (by omega), w64 (by omega) (by omega)]
  have pnil : a.length = 0 ∨ b.length = 0 → Ev (fun k => polynomial_product.f k c s p a b) [] := by
    intro h
    unfold polynomial_product.f
    by_cases h0 : a.length = 0
    · refine evt (by omega) (evs ?_)
      simp only [polynomial_product.j0]
      exact evt (by simp) (Ev.now _)
    · refine evf (by omega) (evs ?_)
      simp only [polynomial_product.j0]
      exact evt (beq_iff_eq.2 (by omega)) (Ev.now _)
  by_cases ha0 : a.length = 0
  · refine ⟨([], 0), by simp, Ev.bind (ev_PValid a) (evt ha (Ev.bind (ev_PValid b) (evs ?_))), Ev.bind (rPValid hs a) (evt ha (Ev.bind (rPValid hs b) (evs ?_)))⟩
    · simp only [polynomial_Mul.j0, hb]
      exact evf (by simp) (evf (by omega) (Ev.bind (pnil (.inl ha0)) (Ev.now _)))
    · simp only [barscanref05_Mul.j0, hb]
      refine evf (by simp) (evt (by omega) (evs ?_))
      simp only [barscanref05_Mul.j1]
      exact evt (by simp) (Ev.now _)
  by_cases hb0 : b.length = 0
  · refine ⟨([], 0), by simp, Ev.bind (ev_PValid a) (evt ha (Ev.bind (ev_PValid b) (evs ?_))), Ev.bind (rPValid hs a) (evt ha (Ev.bind (rPValid hs b) (evs ?_)))⟩
    · simp only [polynomial_Mul.j0, hb]
      exact evf (by simp) (evt (by omega) (evf (by omega) (Ev.bind (pnil (.inr hb0)) (Ev.now _))))
    · simp only [barscanref05_Mul.j0, hb]
      refine evf (by simp) (evf (by omega) (evs ?_))
      simp only [barscanref05_Mul.j1]
      exact evt (beq_iff_eq.2 (by omega)) (Ev.now _)
  by_cases hbig : (a.length : Int) + (b.length : Int) - 2 > 4096
  · refine ⟨([], 4), by simp, Ev.bind (ev_PValid a) (evt ha (Ev.bind (ev_PValid b) (evs ?_))), Ev.bind (rPValid hs a) (evt ha (Ev.bind (rPValid hs b) (evs ?_)))⟩
    · simp only [polynomial_Mul.j0, hb, w1]
      exact evf (by simp) (evt (by omega) (evt (by omega) (evt hbig (Ev.now _))))
    · simp only [barscanref05_Mul.j0, hb]
      refine evf (by simp) (evf (by omega) (evs ?_))
      simp only [barscanref05_Mul.j1, w1]
      exact evf (by rw [beq_iff_eq]; omega) (evt hbig (Ev.now _))
  have hlen := trim_length (mk M (pmul (co M a) (co M b)) (a.length + b.length - 1))
  rw [mk_length] at hlen
  refine ⟨(trim (mk M (pmul (co M a) (co M b)) (a.length + b.length - 1)), 0), by simp only; omega, Ev.bind (ev_PValid a) (evt ha (Ev.bind (ev_PValid b) (evs ?_))), Ev.bind (rPValid hs a) (evt ha (Ev.bind (rPValid hs b) (evs ?_)))⟩
  · simp only [polynomial_Mul.j0, hb, w1]
    exact evf (by simp) (evt (by omega) (evt (by omega) (evf hbig (Ev.bind (ev_product M ia ib (by omega) (by omega) (by omega) (by omega)) (Ev.now _)))))
  · simp only [barscanref05_Mul.j0, hb]
    refine evf (by simp) (evf (by omega) (evs ?_))
    simp only [barscanref05_Mul.j1, w1, w2]
    rw [show (a.length : Int) + (b.length : Int) - 1 = ((a.length + b.length - 1 : Nat) : Int) from by omega, Int.toNat_natCast]
    refine evf (by rw [beq_iff_eq]; omega) (evf hbig (evt (by omega) (evt (by omega) ?_)))
    have := rMul_l M ia ib (by omega) (by omega) (by omega) (by omega) a.length 0 (by omega)
    rw [show part (co M a) (co M b) 0 = (fun _ => 0) from rfl, mk_none] at this
    exact this
theorem pure_PolynomialMultiplies (c s p : Int) (a b : List Int) (hs : s < 2 ^ 63) : ∃ k, barscanlaw05_PolynomialMultiplies.f k c s p a b = some true := by
  refine Ev.rounds ?_
  have key : ∀ t, Ev (fun k => barscanlaw05_PolynomialMultiplies.j0 k a b t c s p) true := by
    intro t
    refine evs ?_
    simp only [barscanlaw05_PolynomialMultiplies.j0]
    cases t with
    | true => exact evt rfl (Ev.bind ev_examples (Ev.now _))
    | false =>
      obtain ⟨r, hr, h1, h2⟩ := both_PMul c s p a b hs
      exact evf (by simp) (Ev.bind h1 (Ev.bind h2 (Ev.bind (ev_same hr) (evt rfl (evt rfl (Ev.bind ev_examples (Ev.now _)))))))
  simp only [barscanlaw05_PolynomialMultiplies.f]
  by_cases h1 : (a.length : Int) ≤ 5000
  · refine evt h1 ?_
    by_cases h2 : (b.length : Int) ≤ 5000
    · refine evt h2 ?_
      by_cases h3 : wrap64 ((a.length : Int) * (b.length : Int)) > 10000
      · exact evt h3 (key _)
      · exact evf h3 (key _)
    · exact evf h2 (key _)
  · exact evf h1 (key _)
end Go.Proofs.Ytlhaclammaaabaa.Pg
