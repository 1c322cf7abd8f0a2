import Derived.Test.YtlhaclammaaabaaB28
import Derived.Test.YtlhaclammaaabaaB7
import Derived.Test.YtlhaclammaaabaaUOps
import Derived.Test.YtlhaclammaaabaaUDiv
import Derived.Test.YtlhaclammaaabaaUVal
/-! PolynomialRing, with no program in sight. -/
namespace Go.Proofs.Ytlhaclammaaabaa.Pg
open Go.RowKit Go.Proofs.YtlhaclammaaabaaW.PrintWords Go.Proofs.YtlhaclammaaabaaW.PrintLast Go.Proofs.YtlhaclammaaabaaW.PrintMore
open Go.Proofs.Ytlhaclammaaabaa.Alg (CF card pw Ser Bd sadd ssub smul pmul tl sh cst)
section
variable {c s p : Int} (M : Model c s p)
theorem ev_gAdd (a b : M.K) : Ev (fun k => galois_Add.f k c s p (M.v a) (M.v b)) (M.v (a + b), 0) := by
  unfold galois_Add.f
  refine Ev.bind (ev_member _ (by simp)) (evt (by rw [inB_two', goodB_iff.2 M.good]; rfl) ?_)
  by_cases h : c = 2
  · exact evt h (evn (by rw [M.xadd h]) (Ev.now _))
  · exact evf h (evf (by have := M.big; omega) (evn (by rw [M.madd h]) (Ev.now _)))
theorem ev_gMul (a b : M.K) : Ev (fun k => galois_Mul.f k c s p (M.v a) (M.v b)) (M.v (a * b), 0) := by
  unfold galois_Mul.f
  exact Ev.bind (ev_member _ (by simp)) (evt (by rw [inB_two', goodB_iff.2 M.good]; rfl) (Ev.bind (M.times a b) (Ev.now _)))
end
theorem pure_PolynomialRing (c s p : Int) (a b d : List Int) (x : Int) : ∃ k, barscanlaw05_PolynomialRing.f k c s p a b d x = some true := by
  refine Ev.rounds ?_
  simp only [barscanlaw05_PolynomialRing.f, valid3.f]
  refine Ev.bind (ev_valid (c := c) (s := s) (p := p) (m := 40) [a, b, d] (by simp)) ?_
  simp only [List.all_cons, List.all_nil, Bool.and_true]
  by_cases h : (decide ((a.length : Int) ≤ 40) && validB c s p a && (decide ((b.length : Int) ≤ 40) && validB c s p b && (decide ((d.length : Int) ≤ 40) && validB c s p d))) = true
  rotate_left
  · exact evf h (Ev.bind ev_ex (Ev.now _))
  refine evt h ?_
  simp only [Bool.and_eq_true, decide_eq_true_eq] at h
  obtain ⟨⟨la, va⟩, ⟨lb, vb⟩, ld, vd⟩ := h
  by_cases hx0 : x < 0
  · exact evt hx0 (Ev.bind ev_ex (Ev.now _))
  refine evf hx0 ?_
  by_cases hx1 : x ≥ s
  · exact evt hx1 (Ev.bind ev_ex (Ev.now _))
  refine evf hx1 ?_
  obtain ⟨M⟩ := valid_model va
  obtain ⟨_, ha⟩ := of_valid M va
  obtain ⟨_, hb⟩ := of_valid M vb
  obtain ⟨_, hd⟩ := of_valid M vd
  generalize co M a = A at ha
  generalize co M b = B at hb
  generalize co M d = D at hd
  obtain ⟨y, rfl⟩ := M.of x (by omega) (by omega)
  obtain ⟨ab, hab, lab, eab⟩ := ev_lmul M ha hb (by omega) (by omega)
  obtain ⟨ba, hba, lba, eba⟩ := ev_lmul M hb ha (by omega) (by omega)
  obtain ⟨sab, hsab, lsab, esab⟩ := ev_ladd M ha hb (by omega) (by omega)
  obtain ⟨sba, hsba, lsba, esba⟩ := ev_ladd M hb ha (by omega) (by omega)
  obtain ⟨t1, h1, l1, e1⟩ := ev_ladd M hsab hd (by omega) (by omega)
  obtain ⟨sbd, hsbd, lsbd, esbd⟩ := ev_ladd M hb hd (by omega) (by omega)
  obtain ⟨t2, h2, l2, e2⟩ := ev_ladd M ha hsbd (by omega) (by omega)
  obtain ⟨t3, h3, l3, e3⟩ := ev_lmul M hab hd (by omega) (by omega)
  obtain ⟨bd, hbd, lbd, ebd⟩ := ev_lmul M hb hd (by omega) (by omega)
  obtain ⟨t4, h4, l4, e4⟩ := ev_lmul M ha hbd (by omega) (by omega)
  obtain ⟨t5, h5, l5, e5⟩ := ev_lmul M ha hsbd (by omega) (by omega)
  obtain ⟨ad, had, lad, ead⟩ := ev_lmul M ha hd (by omega) (by omega)
  obtain ⟨t6, h6, l6, e6⟩ := ev_ladd M hab had (by omega) (by omega)
  obtain ⟨a1, ha1, la1, ea1⟩ := ev_lmul M ha (PL.one M) (by omega) (by simp)
  obtain ⟨a0, ha0, la0, ea0⟩ := ev_ladd M ha (PL.nil M) (by omega) (by simp)
  have e7 := ev_Eval M ha (by omega) ((ha.bd M).mono (n := 40) (by omega)) y
  have e8 := ev_Eval M hb (by omega) ((hb.bd M).mono (n := 40) (by omega)) y
  have e9 := ev_Eval M hsab (by omega) (((ha.bd M).mono (n := 40) (by omega)).sadd ((hb.bd M).mono (n := 40) (by omega))) y
  have e10 := ev_Eval M hab (by omega) (Bd.mono (((ha.bd M).mono (n := 40) (by omega)).pmul ((hb.bd M).mono (n := 40) (by omega))) (show 40 + 40 - 1 ≤ 79 by omega)) y
  refine Ev.bind eab (Ev.bind esab (Ev.bind esba (Ev.bind (ev_samePL M hsab (hsba.cast M (Alg.sadd_comm B A)) (show sab.length < _ by omega)) (evt rfl ?_))))
  refine Ev.bind eba (Ev.bind (ev_samePL M hab (hba.cast M (Alg.pmul_comm B A)) (show ab.length < _ by omega)) (evt rfl ?_))
  refine Ev.bind esab (Ev.bind e1 (Ev.bind esbd (Ev.bind e2 (Ev.bind (ev_samePL M h1 (h2.cast M (Alg.sadd_assoc A B D).symm) (show t1.length < _ by omega)) (evt rfl ?_)))))
  refine Ev.bind e3 (Ev.bind ebd (Ev.bind e4 (Ev.bind (ev_samePL M h3 (h4.cast M (Alg.pmul_assoc A B D).symm) (show t3.length < _ by omega)) (evt rfl ?_))))
  refine Ev.bind esbd (Ev.bind e5 (Ev.bind ead (Ev.bind e6 (Ev.bind (ev_samePL M h5 (h6.cast M (Alg.pmul_sadd_right A B D).symm) (show t5.length < _ by omega)) (evt rfl ?_)))))
  refine Ev.bind e7 (Ev.bind e8 (Ev.bind esab (Ev.bind e9 (Ev.bind e10 (Ev.bind (ev_gAdd M _ _) (Ev.bind (ev_gMul M _ _) ?_))))))
  refine evt rfl (evt rfl (evt rfl (evt rfl (evt rfl (evt rfl (evt ?_ (evt ?_ ?_)))))))
  · show M.v _ = M.v _
    rw [Alg.ev_sadd]
  · show M.v _ = M.v _
    rw [Alg.ev_pmul ((ha.bd M).mono (n := 40) (by omega)) ((hb.bd M).mono (n := 40) (by omega)) (by omega)]
  · refine Ev.bind ea1 (Ev.bind (ev_samePL M ha1 (ha.cast M ?_) (show a1.length < _ by simp only [List.length_singleton] at la1; omega)) (evt rfl (Ev.bind ea0 (Ev.bind (ev_samePL M ha0 (ha.cast M ?_) (show a0.length < _ by simp only [List.length_nil] at la0; omega)) (evt rfl (Ev.bind ev_ex (Ev.now _)))))))
    · rw [Alg.pmul_comm, Alg.pmul_cst_left]; funext i; exact (Alg.one_mul _).symm
    · funext i; exact (Alg.add_zero _).symm
end Go.Proofs.Ytlhaclammaaabaa.Pg
