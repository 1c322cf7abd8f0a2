import Derived.Test.YtlhaclammaaabaaB48
import Derived.Test.YtlhaclammaaabaaUDer
/-! PolynomialAdds, with no program in sight. -/
namespace Go.Proofs.Ytlhaclammaaabaa.Pg
open Go.RowKit Go.Proofs.YtlhaclammaaabaaW.PrintWords Go.Proofs.YtlhaclammaaabaaW.PrintLast Go.Proofs.YtlhaclammaaabaaW.PrintMore
open Go.Proofs.Ytlhaclammaaabaa.Alg (CF card pw Ser Bd sadd pmul tl sh ns der)
set_option linter.unusedVariables false
set_option linter.unusedSimpArgs false
set_option maxRecDepth 1000000
theorem examples_true : barscanlaw05_examples.f 60 = some true := by decide +kernel
theorem ev_examples : Ev (fun k => barscanlaw05_examples.f k) true := Ev.of (fun k => barscanlaw05_examples.mono k) examples_true
theorem trim_length (l : List Int) : (trim l).length ≤ l.length := by
  unfold trim
  rw [List.length_reverse]
  have := (List.dropWhile_sublist (p := fun x : Int => x == 0) (l := l.reverse)).length_le
  rwa [List.length_reverse] at this
theorem validB_iff {c s p : Int} {l : List Int} : validB c s p l = true ↔ l.length ≤ 4097 ∧ tight l = true ∧ Good c s p ∧ inB s l = true := by
  unfold validB
  simp only [Bool.and_eq_true, decide_eq_true_eq, goodB_iff, and_assoc]
theorem both_PAdd (c s p : Int) (a b : List Int) (hs : s < 2 ^ 63) : ∃ r : List Int × Int, r.1.length < 17592186044416 ∧ Ev (fun k => polynomial_Add.f k c s p a b) r ∧ Ev (fun k => barscanref05_Add.f k c s p a b) r := by
  unfold polynomial_Add.f barscanref05_Add.f
  by_cases ha : validB c s p a = true
  rotate_left
  · refine ⟨([], 1), by simp, Ev.bind (ev_PValid a) (evf ha (Ev.now _)), Ev.bind (rPValid hs a) (evf ha (evs ?_))⟩
    simp only [barscanref05_Add.j0]; exact evt (by simp) (Ev.now _)
  by_cases hb : validB c s p b = true
  rotate_left
  · have hb' := Bool.eq_false_iff.2 hb
    refine ⟨([], 1), by simp, Ev.bind (ev_PValid a) (evt ha (Ev.bind (ev_PValid b) (evf hb (Ev.now _)))), Ev.bind (rPValid hs a) (evt ha (Ev.bind (rPValid hs b) (evs ?_)))⟩
    simp only [barscanref05_Add.j0, hb']; exact evt (by simp) (Ev.now _)
  obtain ⟨la, ta, hg, ia⟩ := validB_iff.1 ha
  obtain ⟨lb, tb, _, ib⟩ := validB_iff.1 hb
  obtain ⟨M⟩ := model hg
  have hlen := trim_length (mk M (sadd (co M a) (co M b)) (max a.length b.length))
  rw [mk_length] at hlen
  refine ⟨(trim (mk M (sadd (co M a) (co M b)) (max a.length b.length)), 0), by simp only; omega, Ev.bind (ev_PValid a) (evt ha (Ev.bind (ev_PValid b) (evt hb ?_))), Ev.bind (rPValid hs a) (evt ha (Ev.bind (rPValid hs b) (evs ?_)))⟩
  · exact Ev.bind (ev_sum M ia ib (by omega) (by omega)) (Ev.now _)
  · simp only [barscanref05_Add.j0, hb]
    have := rAdd_l M ia ib (by omega) (by omega) (max a.length b.length) 0 (by omega)
    exact evf (by simp) this
theorem both_PScale (c s p : Int) (a : List Int) (y : Int) (hs : s < 2 ^ 63) : ∃ r : List Int × Int, r.1.length < 17592186044416 ∧ Ev (fun k => polynomial_Scale.f k c s p a y) r ∧ Ev (fun k => barscanref05_Scale.f k c s p a y) r := by
  unfold polynomial_Scale.f barscanref05_Scale.f
  by_cases ha : validB c s p a = true
  rotate_left
  · refine ⟨([], 1), by simp, Ev.bind (ev_PValid a) (evf ha (Ev.now _)), Ev.bind (rPValid hs a) (evf ha (evs ?_))⟩
    simp only [barscanref05_Scale.j0]; exact evt (by simp) (Ev.now _)
  have hm : polynomial_member.f c s p y = some (decide (0 ≤ y) && decide (y < s)) := by
    unfold polynomial_member.f
    by_cases h : y ≥ 0
    · rw [if_pos h, decide_eq_true (show 0 ≤ y from h)]; rfl
    · rw [if_neg h, decide_eq_false (show ¬ 0 ≤ y from h)]; rfl
  have hm' : barscanref05_element.f c s p y = some (decide (0 ≤ y) && decide (y < s)) := by
    unfold barscanref05_element.f
    by_cases h : y ≥ 0
    · rw [if_pos h, decide_eq_true (show 0 ≤ y from h)]; rfl
    · rw [if_neg h, decide_eq_false (show ¬ 0 ≤ y from h)]; rfl
  simp only [hm, hm']
  by_cases hy : (decide (0 ≤ y) && decide (y < s)) = true
  rotate_left
  · have hy' := Bool.eq_false_iff.2 hy
    refine ⟨([], 1), by simp, Ev.bind (ev_PValid a) (evt ha (Ev.bind (Ev.now _) (evf hy (Ev.now _)))), Ev.bind (rPValid hs a) (evt ha (Ev.bind (Ev.now _) (evs ?_)))⟩
    simp only [barscanref05_Scale.j0, hy']; exact evt (by simp) (Ev.now _)
  obtain ⟨la, ta, hg, ia⟩ := validB_iff.1 ha
  obtain ⟨M⟩ := model hg
  have hy2 : 0 ≤ y ∧ y < s := by simpa using hy
  obtain ⟨z, rfl⟩ := M.of y hy2.1 hy2.2
  have hlen := trim_length (mk M (fun i => co M a i * z) a.length)
  rw [mk_length] at hlen
  refine ⟨(trim (mk M (fun i => co M a i * z) a.length), 0), by simp only; omega, Ev.bind (ev_PValid a) (evt ha (Ev.bind (Ev.now _) (evt hy ?_))), Ev.bind (rPValid hs a) (evt ha (Ev.bind (Ev.now _) (evs ?_)))⟩
  · exact Ev.bind (ev_scaled M ia (by omega) z) (Ev.now _)
  · simp only [barscanref05_Scale.j0, hy]
    have := rScale_l M ia (by omega) z a.length 0 (by omega)
    exact evf (by simp) this
theorem both_PDerive (c s p : Int) (a : List Int) (hs : s < 2 ^ 63) : ∃ r : List Int × Int, r.1.length < 17592186044416 ∧ Ev (fun k => polynomial_Derive.f k c s p a) r ∧ Ev (fun k => barscanref05_Derive.f k c s p a) r := by
  by_cases ha : validB c s p a = true
  rotate_left
  · unfold polynomial_Derive.f barscanref05_Derive.f
    exact ⟨([], 1), by simp, Ev.bind (ev_PValid a) (evf ha (Ev.now _)), Ev.bind (rPValid hs a) (evf ha (Ev.now _))⟩
  obtain ⟨la, ta, hg, ia⟩ := validB_iff.1 ha
  obtain ⟨M⟩ := model hg
  have hlen := trim_length (mk M (der (co M a)) (a.length - 1))
  rw [mk_length] at hlen
  exact ⟨_, by simp only; omega, ev_Derive M ha ia (by omega), rDerive M hs ha ia (by omega)⟩
theorem pure_PolynomialAdds (c s p : Int) (a b : List Int) (y : Int) (hs : s < 2 ^ 63) (hl : a.length < 17592186044416) : ∃ k, barscanlaw05_PolynomialAdds.f k c s p a b y = some true := by
  refine Ev.rounds ?_
  simp only [barscanlaw05_PolynomialAdds.f]
  obtain ⟨r1, l1, a1, b1⟩ := both_PAdd c s p a b hs
  obtain ⟨r2, l2, a2, b2⟩ := both_PScale c s p a y hs
  obtain ⟨r3, l3, a3, b3⟩ := both_PDerive c s p a hs
  have ht := trim_length a
  refine Ev.bind a1 (Ev.bind b1 (Ev.bind a2 (Ev.bind b2 (Ev.bind a3 (Ev.bind b3 ?_)))))
  refine Ev.bind (ev_same l1) (evt rfl (evt rfl (Ev.bind (ev_same l2) (evt rfl (evt rfl (Ev.bind (ev_same l3) (evt rfl (evt rfl ?_))))))))
  refine Ev.bind (ev_PValid a) (Ev.bind (rPValid hs a) (evt (by simp) ?_))
  simp only [polynomial_Trim.f]
  refine Ev.bind (Ev.bind (ev_trim hl) (Ev.now _)) (Ev.bind (rTrim hl) (Ev.bind (ev_same (by omega)) (evt rfl (Ev.bind ev_examples (Ev.now _)))))
end Go.Proofs.Ytlhaclammaaabaa.Pg
