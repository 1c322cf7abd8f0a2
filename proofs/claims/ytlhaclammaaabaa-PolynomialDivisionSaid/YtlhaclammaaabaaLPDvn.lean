import Derived.Test.YtlhaclammaaabaaB41
import Derived.Test.YtlhaclammaaabaaB40
import Derived.Test.YtlhaclammaaabaaUOps
import Derived.Test.YtlhaclammaaabaaURest
/-! PolynomialDivision, with no program in sight. -/
namespace Go.Proofs.Ytlhaclammaaabaa.Pg
open Go.RowKit Go.Proofs.YtlhaclammaaabaaW.PrintWords Go.Proofs.YtlhaclammaaabaaW.PrintLast Go.Proofs.YtlhaclammaaabaaW.PrintMore
open Go.Proofs.Ytlhaclammaaabaa.Alg (CF card pw Ser Bd sadd ssub smul pmul tl sh cst)
theorem inB_take {s : Int} {l : List Int} (h : inB s l = true) (n : Nat) : inB s (l.take n) = true := List.all_eq_true.2 fun x hx => List.all_eq_true.1 h x (List.mem_of_mem_take hx)
theorem pure_PolynomialDivision (c s p : Int) (a b d : List Int) : ∃ k, barscanlaw05_PolynomialDivision.f k c s p a b d = some true := by
  refine Ev.rounds ?_
  simp only [barscanlaw05_PolynomialDivision.f, valid3.f]
  refine Ev.bind (ev_valid (c := c) (s := s) (p := p) (m := 100) [a, b, d] (by simp)) ?_
  simp only [List.all_cons, List.all_nil, Bool.and_true]
  by_cases h : (decide ((a.length : Int) ≤ 100) && validB c s p a && (decide ((b.length : Int) ≤ 100) && validB c s p b && (decide ((d.length : Int) ≤ 100) && validB c s p d))) = true
  rotate_left
  · exact evf h (Ev.bind ev_ex (Ev.now _))
  refine evt h ?_
  simp only [Bool.and_eq_true, decide_eq_true_eq] at h
  obtain ⟨⟨la, va⟩, ⟨lb, vb⟩, ld, vd⟩ := h
  by_cases hb0 : (b.length : Int) = 0
  · exact evt hb0 (Ev.bind ev_ex (Ev.now _))
  refine evf hb0 ?_
  obtain ⟨M⟩ := valid_model va
  obtain ⟨_, ha⟩ := of_valid M va
  obtain ⟨_, hb⟩ := of_valid M vb
  obtain ⟨_, hd⟩ := of_valid M vd
  obtain ⟨n, hn⟩ : ∃ n, b.length = n + 1 := ⟨b.length - 1, by omega⟩
  have hmn : mn (d.length : Int) (wrap64 ((b.length : Int) - 1)) = ((min d.length n : Nat) : Int) := by
    rw [w64 (by omega) (by omega)]; unfold mn; split <;> omega
  rw [hmn, Int.toNat_natCast]
  have hi := inB_take hd.inb (min d.length n)
  have ht := PL.trim M hi
  have htl : (trim (d.take (min d.length n))).length ≤ n := Nat.le_trans (trim_len _) (by rw [List.length_take]; omega)
  have hev : Ev (fun k => polynomial_Trim.f k (d.take (min d.length n))) (trim (d.take (min d.length n))) := by
    unfold polynomial_Trim.f
    exact Ev.bind (ev_trim (by rw [List.length_take]; omega)) (Ev.now _)
  generalize trim (d.take (min d.length n)) = e at ht htl hev
  generalize co M (d.take (min d.length n)) = E at ht
  generalize co M a = A at ha
  generalize co M b = B at hb
  obtain ⟨u, hu, lu, eu⟩ := ev_lmul M ha hb (by omega) (by omega)
  obtain ⟨v, hv, lv, ev⟩ := ev_Add M hu ht (by omega) (by omega)
  obtain ⟨q, r, Q, R, hq, hr, he, hR, lq, lr, edm⟩ := ev_DivMod M hv hb (by omega) (by omega) hn
  obtain ⟨rfl, rfl⟩ := Alg.div_unique (m := max a.length q.length) (hn ▸ hb.bd M) (hb.top M hn) ((ha.bd M).mono (Nat.le_max_left _ _)) ((hq.bd M).mono (Nat.le_max_right _ _)) ((ht.bd M).mono htl) hR he
  refine evt (by omega) (evt (by omega) (Ev.bind hev (Ev.bind eu (Ev.bind ev (Ev.bind edm (Ev.bind (ev_DivMod_nil M hv (show v.length ≤ 4097 by omega)) ?_))))))
  exact evt rfl (evt rfl (Ev.bind (ev_samePL M hq ha (show q.length < _ by omega)) (evt rfl (Ev.bind (ev_samePL M hr ht (show r.length < _ by omega)) (evt rfl (evt rfl (Ev.bind ev_ex (Ev.now _))))))))
end Go.Proofs.Ytlhaclammaaabaa.Pg
