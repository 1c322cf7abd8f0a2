import Derived.Test.YtlhaclammaaabaaB36
import Derived.Test.YtlhaclammaaabaaUInt
/-! PolynomialRestores, with no program in sight. -/
namespace Go.Proofs.Ytlhaclammaaabaa.Pg
open Go.RowKit Go.Proofs.YtlhaclammaaabaaW.PrintWords Go.Proofs.YtlhaclammaaabaaW.PrintLast Go.Proofs.YtlhaclammaaabaaW.PrintMore
open Go.Proofs.Ytlhaclammaaabaa.Alg (CF card pw Ser Bd sadd ssub smul pmul tl sh cst lin plin)
theorem pure_PolynomialRestores (c s p : Int) (a xs : List Int) : ∃ k, barscanlaw05_PolynomialRestores.f k c s p a xs = some true := by
  refine Ev.rounds ?_
  simp only [barscanlaw05_PolynomialRestores.f, valid1.f]
  refine Ev.bind (ev_valid (c := c) (s := s) (p := p) (m := 30) [a] (by simp)) ?_
  simp only [List.all_cons, List.all_nil, Bool.and_true]
  by_cases h : (decide ((a.length : Int) ≤ 30) && validB c s p a) = true
  rotate_left
  · exact evf h (Ev.bind ev_ex (Ev.now _))
  refine evt h ?_
  simp only [Bool.and_eq_true, decide_eq_true_eq] at h
  obtain ⟨la, va⟩ := h
  by_cases h1 : (xs.length : Int) > 30
  · exact evt h1 (Ev.bind ev_ex (Ev.now _))
  refine evf h1 ?_
  by_cases h2 : (xs.length : Int) < (a.length : Int)
  · exact evt h2 (Ev.bind ev_ex (Ev.now _))
  refine evf h2 ?_
  obtain ⟨M⟩ := valid_model va
  obtain ⟨_, ha⟩ := of_valid M va
  generalize co M a = A at ha
  have hA : Bd A xs.length := (ha.bd M).mono (by omega)
  have key : ∀ u i : Nat, i + u = xs.length → inB s (xs.take i) = true →
      Ev (fun k => barscanlaw05_PolynomialRestores.l0 k a xs ((xs.take i).map fun x => M.v (Alg.ev xs.length A (el M x))) xs (xs.length : Int) (i : Int) c s p) true := by
    intro u
    induction u with
    | zero =>
      intro i hi hin
      obtain rfl : i = xs.length := by omega
      rw [List.take_length] at hin ⊢
      refine evs ?_
      simp only [barscanlaw05_PolynomialRestores.l0]
      refine evf (by omega) ?_
      have hy : inB s (xs.map fun x => M.v (Alg.ev xs.length A (el M x))) = true := List.all_eq_true.2 fun y hy => by
        obtain ⟨x, _, rfl⟩ := List.mem_map.1 hy
        simp [M.low, M.high]
      obtain ⟨g1, g2⟩ := ev_Interpolate M hin hy (by rw [List.length_map]) (by omega)
      by_cases hn : xs.Nodup
      · obtain ⟨r, G, h3, h4, h5, h6⟩ := g1 hn
        have hAv : Vals M A xs.length xs (xs.map fun x => M.v (Alg.ev xs.length A (el M x))) xs.length := by
          intro j hj hj' _
          rw [List.getElem_map, el_v]
        have e : G = A := Vals.unique M hin hn (by rw [List.length_map]) h4 hA (Nat.le_refl _) h5 hAv
        subst e
        exact Ev.bind h6 (evt rfl (Ev.bind (ev_samePL M ha h3 (by omega)) (evt rfl (Ev.bind ev_ex (Ev.now _)))))
      · exact Ev.bind (g2 hn) (evf (by simp) (evt rfl (Ev.bind ev_ex (Ev.now _))))
    | succ u ih =>
      intro i hi hin
      have hi' : i < xs.length := by omega
      refine evs ?_
      simp only [barscanlaw05_PolynomialRestores.l0]
      rw [rd_nat hi', show wrap64 ((i : Int) + 1) = ((i + 1 : Nat) : Int) from w64 (by omega) (by omega)]
      refine evt (by omega) (evt (by omega) (evt (by omega) ?_))
      by_cases hx : 0 ≤ xs[i] ∧ xs[i] < s
      · have hv := v_el M hx.1 hx.2
        have he := ev_Eval M ha (by omega) hA (el M xs[i])
        rw [hv] at he
        have hin' : inB s (xs.take (i + 1)) = true := by
          rw [take_snoc hi']
          exact List.all_eq_true.2 fun y hy => by
            rcases List.mem_append.1 hy with h | h
            · exact List.all_eq_true.1 hin y h
            · rw [List.mem_singleton] at h; subst h; simp [hx.1, hx.2]
        have hih := ih (i + 1) (by omega) hin'
        rw [take_snoc hi', List.map_append] at hih
        refine Ev.bind he (evt rfl (evt ?_ hih))
        rw [List.length_map, List.length_take]; omega
      · have he : Ev (fun k => polynomial_Eval.f k c s p a xs[i]) (0, 1) := by
          unfold polynomial_Eval.f
          simp only [member_eq]
          refine Ev.bind (ev_PValid a) (evt (ha.valid M (by omega)) (Ev.bind (Ev.now _) (evf ?_ (Ev.now _))))
          simp only [Bool.and_eq_true, decide_eq_true_eq]
          exact hx
        refine Ev.bind he (evf (by simp) (evt rfl ?_))
        by_cases h0 : xs[i] < 0
        · exact evt h0 (Ev.bind ev_ex (Ev.now _))
        · exact evf h0 (evt (by omega) (Ev.bind ev_ex (Ev.now _)))
  exact key xs.length 0 (by omega) (by simp [inB])
end Go.Proofs.Ytlhaclammaaabaa.Pg
