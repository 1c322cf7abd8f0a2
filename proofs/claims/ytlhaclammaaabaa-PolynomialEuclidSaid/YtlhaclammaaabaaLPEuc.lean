import Derived.Test.YtlhaclammaaabaaB39
import Derived.Test.YtlhaclammaaabaaB21
import Derived.Test.YtlhaclammaaabaaUOps
import Derived.Test.YtlhaclammaaabaaURest
import Derived.Test.YtlhaclammaaabaaUGcd
/-! PolynomialEuclid, with no program in sight. -/
namespace Go.Proofs.Ytlhaclammaaabaa.Pg
open Go.RowKit Go.Proofs.YtlhaclammaaabaaW.PrintWords Go.Proofs.YtlhaclammaaabaaW.PrintLast Go.Proofs.YtlhaclammaaabaaW.PrintMore
open Go.Proofs.Ytlhaclammaaabaa.Alg (CF card pw Ser Bd sadd ssub smul pmul tl sh cst Dv Monic IsG)
section
variable {c s p : Int} (M : Model c s p)
theorem ev_lrest {a b : List Int} {A G : Ser M.K} (ha : PL M a A) (hb : PL M b G) (hla : a.length ≤ 4097) (hlb : b.length ≤ 4097) {n : Nat} (hn : b.length = n + 1) :
    ∃ q r Q R, PL M q Q ∧ PL M r R ∧ A = sadd (pmul Q G) R ∧ Bd R n ∧ r.length ≤ n ∧ Ev (fun k => barscanlaw05_rest.f k c s p a b) r := by
  obtain ⟨q, r, Q, R, h1, h2, h3, h4, h5, h6, h7⟩ := ev_DivMod M ha hb hla hlb hn
  exact ⟨q, r, Q, R, h1, h2, h3, h4, h2.length_le M h4, Ev.bind h7 (Ev.now _)⟩
/-- What a divisor leaves is nothing. -/
theorem rest_dv {a b : List Int} {A G : Ser M.K} (ha : PL M a A) (hb : PL M b G) (hla : a.length ≤ 4097) (hlb : b.length ≤ 4097) (h0 : b.length ≠ 0) (hd : Dv G A) : Ev (fun k => barscanlaw05_rest.f k c s p a b) [] := by
  obtain ⟨n, hn⟩ : ∃ n, b.length = n + 1 := ⟨b.length - 1, by omega⟩
  obtain ⟨q, r, Q, R, h1, h2, h3, h4, _, h6⟩ := ev_lrest M ha hb hla hlb hn
  obtain ⟨X, m, hX, hA⟩ := hd
  have := Alg.div_unique (Q := Q) (Q' := X) (R := R) (R' := fun _ => 0) (m := max q.length m) (hn ▸ hb.bd M) (hb.top M hn) ((h1.bd M).mono (Nat.le_max_left _ _)) (hX.mono (Nat.le_max_right _ _)) h4 (Alg.bd_zero _)
    (by rw [← h3, hA]; funext i; exact (Alg.add_zero _).symm)
  have hr : r = [] := h2.unique M (this.2 ▸ PL.nil M)
  exact hr ▸ h6
theorem monic_top {g : List Int} {G : Ser M.K} (hg : PL M g G) (hm : Monic G) (h0 : g.length ≠ 0) : ∃ n, g.length = n + 1 ∧ G n = 1 := by
  rcases hm with h | ⟨d, h1, h2⟩
  · exact absurd ((hg.zero M).2 h) h0
  · exact ⟨d, hg.length_eq M h1 (h2 ▸ Alg.one_ne), h2⟩
end
theorem pure_PolynomialEuclid (c s p : Int) (a b d : List Int) : ∃ k, barscanlaw05_PolynomialEuclid.f k c s p a b d = some true := by
  refine Ev.rounds ?_
  simp only [barscanlaw05_PolynomialEuclid.f, valid3.f]
  refine Ev.bind (ev_valid (c := c) (s := s) (p := p) (m := 40) [a, b, d] (by simp)) ?_
  simp only [List.all_cons, List.all_nil, Bool.and_true]
  by_cases h : (decide ((a.length : Int) ≤ 40) && validB c s p a && (decide ((b.length : Int) ≤ 40) && validB c s p b && (decide ((d.length : Int) ≤ 40) && validB c s p d))) = true
  rotate_left
  · exact evf h (Ev.bind ev_ex (Ev.now _))
  refine evt h ?_
  simp only [Bool.and_eq_true, decide_eq_true_eq] at h
  obtain ⟨⟨la, va⟩, ⟨lb, vb⟩, ld, vd⟩ := h
  obtain ⟨M⟩ := valid_model va
  obtain ⟨_, ha⟩ := of_valid M va
  obtain ⟨_, hb⟩ := of_valid M vb
  obtain ⟨_, hd⟩ := of_valid M vd
  generalize co M a = A at ha
  generalize co M b = B at hb
  generalize co M d = C at hd
  obtain ⟨g, G, hg, hG, lg, eg⟩ := ev_GCD M ha hb (by omega) (by omega)
  refine Ev.bind eg ?_
  have j0 : ∀ t, (t = true ↔ a.length = 0 ∧ b.length = 0) → Ev (fun k => barscanlaw05_PolynomialEuclid.j0 k a b d g 0 t c s p) true := by
    intro t ht
    refine evs ?_
    simp only [barscanlaw05_PolynomialEuclid.j0]
    by_cases h0 : t = true
    · obtain ⟨ha0, hb0⟩ := ht.1 h0
      have hg0 : g.length = 0 := by omega
      exact evt h0 (evt (by trivial) (evt (by omega) (Ev.bind ev_ex (Ev.now _))))
    refine evf h0 (evt (by trivial) ?_)
    have hg0 : g.length ≠ 0 := by
      intro e
      have hz := (hg.zero M).1 e
      apply h0
      apply ht.2
      exact ⟨(ha.zero M).2 (Alg.Dv.of_zero (hz ▸ hG.left)), (hb.zero M).2 (Alg.Dv.of_zero (hz ▸ hG.right))⟩
    obtain ⟨n, hn, hn1⟩ := monic_top M hg hG.monic hg0
    refine evf (by omega) ?_
    rw [show wrap64 ((g.length : Int) - 1) = (n : Int) from by rw [w64 (by omega) (by omega)]; omega, rd_co M hg.inb (show n < g.length by omega), hg.eq, hn1, M.one]
    refine evt (by omega) (evt (by omega) (evt rfl (Ev.bind (rest_dv M ha hg (by omega) (by omega) hg0 hG.left) (evt rfl (Ev.bind (rest_dv M hb hg (by omega) (by omega) hg0 hG.right) (evs ?_))))))
    simp only [barscanlaw05_PolynomialEuclid.j1]
    refine evf (by simp) ?_
    have j2 : Ev (fun k => barscanlaw05_PolynomialEuclid.j2 k a b d g c s p) true := by
      refine evs ?_
      simp only [barscanlaw05_PolynomialEuclid.j2]
      by_cases hd0 : (d.length : Int) = 0
      · exact evt hd0 (Ev.bind ev_ex (Ev.now _))
      refine evf hd0 ?_
      obtain ⟨m, hm⟩ : ∃ m, d.length = m + 1 := ⟨d.length - 1, by omega⟩
      obtain ⟨u, hu, lu, eu⟩ := ev_lmul M ha hd (by omega) (by omega)
      obtain ⟨v, hv, lv, ev⟩ := ev_lmul M hb hd (by omega) (by omega)
      obtain ⟨e, E, he, hE, le, ee⟩ := ev_GCD M hu hv (by omega) (by omega)
      have hC1 : Dv C (pmul A C) := ⟨A, _, ha.bd M, rfl⟩
      have hC2 : Dv C (pmul B C) := ⟨B, _, hb.bd M, rfl⟩
      have hgd : Dv G (pmul G C) := ⟨C, _, hd.bd M, Alg.pmul_comm G C⟩
      have d1 : Dv (pmul G C) E := hE.dv (hG.left.mul_both C) (hG.right.mul_both C)
      have d2 : Dv E (pmul G C) := by
        obtain ⟨X, Y, k, hX, hY, hXY⟩ := hG.comb
        have : pmul G C = sadd (pmul X (pmul A C)) (pmul Y (pmul B C)) := by rw [hXY, Alg.pmul_sadd_left, Alg.pmul_assoc, Alg.pmul_assoc]
        rw [this]
        exact (hE.left.mul hX).add (hE.right.mul hY)
      have hCb : Bd C (m + 1) := hm ▸ hd.bd M
      have hGb : Bd G (n + 1) := hn ▸ hg.bd M
      have htop := Alg.pmul_top hGb hCb
      have hne : pmul G C (n + m) ≠ 0 := by
        rw [htop.2, hn1, Alg.one_mul]
        exact hd.top M hm
      have he0 : e.length ≠ 0 := by
        intro h1
        have := (he.zero M).1 h1
        rw [this] at d2
        have h2 := Alg.Dv.of_zero d2
        rw [h2] at hne
        exact hne rfl
      obtain ⟨k, hk, hk1⟩ := monic_top M he hE.monic he0
      have hEb : Bd E (k + 1) := hk ▸ he.bd M
      have l1 := d1.deg htop.1 hne hEb (hk1 ▸ Alg.one_ne)
      have l2 := d2.deg hEb (hk1 ▸ Alg.one_ne) htop.1 hne
      refine Ev.bind eu (Ev.bind ev (Ev.bind ee (evt rfl ?_)))
      refine Ev.bind (rest_dv M he hd (show e.length ≤ 4097 by omega) (by omega) (by omega) (hE.dv hC1 hC2)) (evt rfl ?_)
      refine Ev.bind (rest_dv M he hg (show e.length ≤ 4097 by omega) (by omega) hg0 (hgd.trans d1)) (evt rfl (evt ?_ (Ev.bind ev_ex (Ev.now _))))
      show (e.length : Int) = _
      rw [w64 (x := (g.length : Int) + (d.length : Int)) (by omega) (by omega), w64 (by omega) (by omega)]
      omega
    by_cases hb0 : (b.length : Int) > 0
    · obtain ⟨m, hm⟩ : ∃ m, b.length = m + 1 := ⟨b.length - 1, by omega⟩
      obtain ⟨q, r, Q, R, hq, hr, hqr, hR, lr, er⟩ := ev_lrest M ha hb (by omega) (by omega) hm
      obtain ⟨e, E, he, hE, le, ee⟩ := ev_GCD M hb hr (by omega) (by omega)
      have hEG : E = G := (hE.step (hq.bd M) hqr).unique hG
      subst hEG
      exact evt hb0 (Ev.bind er (Ev.bind ee (evt rfl (Ev.bind (ev_samePL M he hg (show e.length < _ by omega)) (evt rfl j2)))))
    · exact evf hb0 j2
  by_cases ha0 : (a.length : Int) = 0
  · refine evt ha0 (j0 _ ?_)
    rw [beq_iff_eq]
    omega
  · refine evf ha0 (j0 _ ?_)
    constructor
    · intro h; exact absurd h (by simp)
    · rintro ⟨h1, _⟩; omega
end Go.Proofs.Ytlhaclammaaabaa.Pg
