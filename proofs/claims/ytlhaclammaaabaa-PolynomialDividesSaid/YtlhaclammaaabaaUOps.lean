import Derived.Test.YtlhaclammaaabaaB5
import Derived.Test.YtlhaclammaaabaaB17
import Derived.Test.YtlhaclammaaabaaB27
import Derived.Test.YtlhaclammaaabaaB26
import Derived.Test.YtlhaclammaaabaaB3
import Derived.Test.YtlhaclammaaabaaHValid
import Derived.Test.YtlhaclammaaabaaUPL
/-! The laws' own helpers: valid, add, mul; the examples. -/
namespace Go.Proofs.Ytlhaclammaaabaa.Pg
open Go.RowKit Go.Proofs.YtlhaclammaaabaaW.PrintWords Go.Proofs.YtlhaclammaaabaaW.PrintLast Go.Proofs.YtlhaclammaaabaaW.PrintMore
open Go.Proofs.Ytlhaclammaaabaa.Alg (CF card pw Ser Bd sadd ssub smul pmul tl sh cst)
set_option maxRecDepth 1000000
theorem ex_true : barscanlaw05_examples.f 60 = some true := by decide +kernel
theorem ev_ex : Ev (fun k => barscanlaw05_examples.f k) true := Ev.of (fun k => barscanlaw05_examples.mono k) ex_true
theorem ev_valid_l {c s p m : Int} (L : List (List Int)) (hL : L.length < 2 ^ 40) (u : Nat) : ∀ i : Nat, i + u = L.length →
    Ev (fun k => barscanlaw05_valid.l0 k m L (L.length : Int) (i : Int) c s p) ((L.drop i).all fun l => decide ((l.length : Int) ≤ m) && validB c s p l) := by
  induction u with
  | zero =>
    intro i hi
    refine evs ?_
    simp only [barscanlaw05_valid.l0]
    rw [List.drop_eq_nil_of_le (by omega)]
    exact evf (by omega) (Ev.now _)
  | succ u ih =>
    intro i hi
    have hi' : i < L.length := by omega
    refine evs ?_
    simp only [barscanlaw05_valid.l0]
    have hr : rd_L1 L (i : Int) = L[i] := by
      unfold rd_L1
      simp [hi']
    rw [List.drop_eq_getElem_cons hi', List.all_cons, hr, show wrap64 ((i : Int) + 1) = ((i + 1 : Nat) : Int) from w64 (by omega) (by omega)]
    refine evt (by omega) (evt (by omega) (evt (by omega) ?_))
    by_cases h : (L[i].length : Int) > m
    · refine evt h (evn ?_ (Ev.now _))
      rw [decide_eq_false (show ¬ (L[i].length : Int) ≤ m by omega)]; rfl
    · rw [decide_eq_true (show (L[i].length : Int) ≤ m by omega)]
      refine evf h (Ev.bind (ev_PValid _) ?_)
      by_cases hv : validB c s p L[i] = true
      · rw [hv]
        refine evt rfl (evn ?_ (ih (i + 1) (by omega)))
        simp
      · rw [Bool.eq_false_iff.2 hv]
        exact evf (by simp) (evn (by simp) (Ev.now _))
theorem ev_valid {c s p m : Int} (L : List (List Int)) (hL : L.length < 2 ^ 40) : Ev (fun k => barscanlaw05_valid.f k c s p m L) (L.all fun l => decide ((l.length : Int) ≤ m) && validB c s p l) := by
  have := ev_valid_l (c := c) (s := s) (p := p) (m := m) L hL L.length 0 (by omega)
  rwa [List.drop_zero] at this
section
variable {c s p : Int} (M : Model c s p)
theorem ev_Add {a b : List Int} {A B : Ser M.K} (ha : PL M a A) (hb : PL M b B) (hla : a.length ≤ 4097) (hlb : b.length ≤ 4097) :
    ∃ r, PL M r (sadd A B) ∧ r.length ≤ max a.length b.length ∧ Ev (fun k => polynomial_Add.f k c s p a b) (r, 0) := by
  have h := ev_sum M ha.inb hb.inb (by omega) (by omega)
  rw [ha.eq, hb.eq] at h
  refine ⟨_, PL.nf M (((ha.bd M).mono (Nat.le_max_left _ _)).sadd ((hb.bd M).mono (Nat.le_max_right _ _))), nf_len M _ _, ?_⟩
  unfold polynomial_Add.f
  exact Ev.bind (ev_PValid a) (evt (ha.valid M hla) (Ev.bind (ev_PValid b) (evt (hb.valid M hlb) (Ev.bind h (Ev.now _)))))
theorem ev_ladd {a b : List Int} {A B : Ser M.K} (ha : PL M a A) (hb : PL M b B) (hla : a.length ≤ 4097) (hlb : b.length ≤ 4097) :
    ∃ r, PL M r (sadd A B) ∧ r.length ≤ max a.length b.length ∧ Ev (fun k => barscanlaw05_add.f k c s p a b) r := by
  obtain ⟨r, h1, h2, h3⟩ := ev_Add M ha hb hla hlb
  exact ⟨r, h1, h2, Ev.bind h3 (Ev.now _)⟩
theorem ev_Mul {a b : List Int} {A B : Ser M.K} (ha : PL M a A) (hb : PL M b B) (hla : a.length ≤ 2000) (hlb : b.length ≤ 2000) :
    ∃ r, PL M r (pmul A B) ∧ r.length ≤ a.length + b.length ∧ Ev (fun k => polynomial_Mul.f k c s p a b) (r, 0) := by
  have pnil : a.length = 0 ∨ b.length = 0 → Ev (fun k => polynomial_product.f k c s p a b) [] := by
    intro h
    unfold polynomial_product.f
    by_cases h0 : a.length = 0
    · refine evt (by omega) (evs ?_)
      simp only [polynomial_product.j0]
      exact evt (by simp) (Ev.now _)
    · refine evf (by omega) (evs ?_)
      simp only [polynomial_product.j0]
      exact evt (beq_iff_eq.2 (by omega)) (Ev.now _)
  obtain ⟨r, h1, h2, h3⟩ : ∃ r, PL M r (pmul A B) ∧ r.length ≤ a.length + b.length ∧ Ev (fun k => polynomial_product.f k c s p a b) r := by
    by_cases ha0 : a.length = 0
    · exact ⟨[], (PL.nil M).cast M (by rw [(ha.zero M).1 ha0, Alg.pmul_zero_left]), by simp, pnil (.inl ha0)⟩
    by_cases hb0 : b.length = 0
    · exact ⟨[], (PL.nil M).cast M (by rw [(hb.zero M).1 hb0, Alg.pmul_comm, Alg.pmul_zero_left]), by simp, pnil (.inr hb0)⟩
    have h := ev_product M ha.inb hb.inb (by omega) (by omega) (by omega) (by omega)
    rw [ha.eq, hb.eq] at h
    exact ⟨_, PL.nf M ((ha.bd M).pmul (hb.bd M)), Nat.le_trans (nf_len M _ _) (by omega), h⟩
  refine ⟨r, h1, h2, ?_⟩
  unfold polynomial_Mul.f
  refine Ev.bind (ev_PValid a) (evt (ha.valid M (by omega)) (Ev.bind (ev_PValid b) (evs ?_)))
  rw [hb.valid M (by omega)]
  simp only [polynomial_Mul.j0]
  rw [show wrap64 (wrap64 ((a.length : Int) + (b.length : Int)) - 2) = (a.length : Int) + (b.length : Int) - 2 from by rw [w64 (x := (a.length : Int) + (b.length : Int)) (by omega) (by omega), w64 (by omega) (by omega)]]
  have h4 : Ev (fun k => (polynomial_product.f k c s p a b).bind fun t => some (t, (0 : Int))) (r, 0) := Ev.bind h3 (Ev.now _)
  refine evf (by simp) ?_
  by_cases c1 : (a.length : Int) > 0
  · refine evt c1 ?_
    by_cases c2 : (b.length : Int) > 0
    · exact evt c2 (evf (by omega) h4)
    · exact evf c2 h4
  · exact evf c1 h4
theorem ev_lmul {a b : List Int} {A B : Ser M.K} (ha : PL M a A) (hb : PL M b B) (hla : a.length ≤ 2000) (hlb : b.length ≤ 2000) :
    ∃ r, PL M r (pmul A B) ∧ r.length ≤ a.length + b.length ∧ Ev (fun k => barscanlaw05_mul.f k c s p a b) r := by
  obtain ⟨r, h1, h2, h3⟩ := ev_Mul M ha hb hla hlb
  exact ⟨r, h1, h2, Ev.bind h3 (Ev.now _)⟩
/-- Equal series, equal lists. -/
theorem ev_samePL {a b : List Int} {F : Ser M.K} (ha : PL M a F) (hb : PL M b F) (hl : a.length < 17592186044416) : Ev (fun k => barscanlaw05_same.f k a b) true := by
  rw [← ha.unique M hb]; exact ev_same hl
end
end Go.Proofs.Ytlhaclammaaabaa.Pg
