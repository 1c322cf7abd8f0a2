import Derived.Test.YtlhaclammaaabaaB44
import Derived.Test.YtlhaclammaaabaaB43
import Derived.Test.YtlhaclammaaabaaUOps
import Derived.Test.YtlhaclammaaabaaUDer
/-! PolynomialDerives, with no program in sight. -/
namespace Go.Proofs.Ytlhaclammaaabaa.Pg
open Go.RowKit Go.Proofs.YtlhaclammaaabaaW.PrintWords Go.Proofs.YtlhaclammaaabaaW.PrintLast Go.Proofs.YtlhaclammaaabaaW.PrintMore
open Go.Proofs.Ytlhaclammaaabaa.Alg (CF card pw Ser Bd sadd ssub smul pmul tl sh cst der)
section
variable {c s p : Int} (M : Model c s p)
theorem ev_lder {a : List Int} {A : Ser M.K} (ha : PL M a A) (hla : a.length ≤ 4097) : ∃ r, PL M r (der A) ∧ r.length ≤ a.length ∧ Ev (fun k => barscanlaw05_derive.f k c s p a) r := by
  have h := ev_Derive M (ha.valid M hla) ha.inb (by omega)
  rw [ha.eq] at h
  exact ⟨_, PL.nf M (ha.bd M).der, Nat.le_trans (nf_len M _ _) (by omega), Ev.bind h (Ev.now _)⟩
theorem der_cst (a : M.K) : der (cst a) = fun _ => 0 := by
  funext i
  exact Alg.ns_zero _
end
theorem pure_PolynomialDerives (c s p : Int) (a b : List Int) : ∃ k, barscanlaw05_PolynomialDerives.f k c s p a b = some true := by
  refine Ev.rounds ?_
  simp only [barscanlaw05_PolynomialDerives.f, valid2.f]
  have hv := ev_valid (c := c) (s := s) (p := p) (m := 40) [a, b] (by simp)
  refine Ev.bind hv ?_
  simp only [List.all_cons, List.all_nil, Bool.and_true]
  by_cases h : (decide ((a.length : Int) ≤ 40) && validB c s p a && (decide ((b.length : Int) ≤ 40) && validB c s p b)) = true
  rotate_left
  · exact evf h (Ev.bind ev_ex (Ev.now _))
  refine evt h ?_
  simp only [Bool.and_eq_true, decide_eq_true_eq] at h
  obtain ⟨⟨la, va⟩, lb, vb⟩ := h
  obtain ⟨M⟩ := valid_model va
  obtain ⟨_, ha⟩ := of_valid M va
  obtain ⟨_, hb⟩ := of_valid M vb
  generalize co M a = A at ha
  generalize co M b = B at hb
  obtain ⟨da, h1, l1, e1⟩ := ev_lder M ha (by omega)
  obtain ⟨db, h2, l2, e2⟩ := ev_lder M hb (by omega)
  obtain ⟨ds, h3, l3, e3⟩ := ev_ladd M h1 h2 (by omega) (by omega)
  obtain ⟨u, h4, l4, e4⟩ := ev_lmul M h1 hb (by omega) (by omega)
  obtain ⟨v, h5, l5, e5⟩ := ev_lmul M ha h2 (by omega) (by omega)
  obtain ⟨w, h6, l6, e6⟩ := ev_ladd M h4 h5 (by omega) (by omega)
  obtain ⟨x, h7, l7, e7⟩ := ev_ladd M ha hb (by omega) (by omega)
  obtain ⟨y, h8, l8, e8⟩ := ev_lder M h7 (by omega)
  obtain ⟨z, h9, l9, e9⟩ := ev_lmul M ha hb (by omega) (by omega)
  obtain ⟨t, h10, l10, e10⟩ := ev_lder M h9 (by omega)
  obtain ⟨o, h11, l11, e11⟩ := ev_lder M (PL.one M) (by simp)
  have ho : o.length = 0 := (h11.zero M).2 (der_cst M 1)
  refine Ev.bind e1 (Ev.bind e2 (Ev.bind e3 (Ev.bind e1 (Ev.bind e4 (Ev.bind e2 (Ev.bind e5 (Ev.bind e6 (Ev.bind e7 (Ev.bind e8 ?_)))))))))
  refine Ev.bind (ev_samePL M h8 (h3.cast M (Alg.der_sadd A B).symm) (by omega)) (evt rfl (Ev.bind e9 (Ev.bind e10 ?_)))
  refine Ev.bind (ev_samePL M h10 (h6.cast M (Alg.der_pmul A B).symm) (by omega)) (evt rfl (Ev.bind e11 (evt (by omega) (Ev.bind ev_ex (Ev.now _)))))
end Go.Proofs.Ytlhaclammaaabaa.Pg
