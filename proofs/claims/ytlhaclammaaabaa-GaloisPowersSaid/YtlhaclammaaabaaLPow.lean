import Derived.Test.YtlhaclammaaabaaP59
import Derived.Test.YtlhaclammaaabaaUAll
/-! GaloisPowers, with no program in sight. -/
namespace Go.Proofs.Ytlhaclammaaabaa.Pg
open Go.RowKit Go.Proofs.YtlhaclammaaabaaW.PrintWords Go.Proofs.YtlhaclammaaabaaW.PrintLast Go.Proofs.YtlhaclammaaabaaW.PrintMore
open Go.Proofs.Ytlhaclammaaabaa.Alg (CF card pw)
set_option linter.unusedVariables false
set_option linter.unusedSimpArgs false
set_option maxRecDepth 100000
theorem alive_true3 : barscanlaw04_alive.f 60 = some true := by decide +kernel
theorem ev_alive3 : Ev (fun k => barscanlaw04_alive.f k) true := Ev.of (fun k => barscanlaw04_alive.mono k) alive_true3
theorem inB_iff3 {s x : Int} : inB s [x] = true ↔ 0 ≤ x ∧ x < s := by simp [inB]
section
variable {c s p : Int} (M : Model c s p)
include M in
theorem expo (a : Int) : wrap64 (s - 1) = s - 1 ∧ ¬ s - 1 = 0 ∧ ∃ e : Nat, (e : Int) < s - 1 ∧ Int.tmod (wrap64 (Int.tmod a (s - 1) + (s - 1))) (s - 1) = e ∧ (a = 0 → e = 0) := by
  have h1 := M.small
  have h2 := M.big
  have l1 := Int.tmod_lt_of_pos a (show 0 < s - 1 by omega)
  have l2 := Int.lt_tmod_of_pos a (show 0 < s - 1 by omega)
  have w := w64 (x := Int.tmod a (s - 1) + (s - 1)) (by omega) (by omega)
  have l3 := Int.tmod_lt_of_pos (Int.tmod a (s - 1) + (s - 1)) (show 0 < s - 1 by omega)
  have l4 := Int.tmod_nonneg (a := Int.tmod a (s - 1) + (s - 1)) (s - 1) (by omega)
  refine ⟨w64 (by omega) (by omega), by omega, (Int.tmod (Int.tmod a (s - 1) + (s - 1)) (s - 1)).toNat, by omega, by rw [w]; omega, ?_⟩
  rintro rfl
  rw [Int.zero_tmod, Int.zero_add, Int.tmod_self]
  rfl
theorem ev_raise {x : M.K} {n : Int} {e : Nat} (hx : M.v x ≠ 0) (w : wrap64 (s - 1) = s - 1) (h0 : ¬ s - 1 = 0) (he : (e : Int) < s - 1) (ht : Int.tmod (wrap64 (Int.tmod n (s - 1) + (s - 1))) (s - 1) = e) :
    Ev (fun k => barscanref04_raise.f k c s p (M.v x) n) (M.v (pw x e)) := by
  have h1 := M.small
  unfold barscanref04_raise.f
  rw [w, ht]
  exact evf hx (evf h0 (Ev.bind (rPower M x (by omega)) (Ev.now _)))
theorem ev_exponent {n : Int} {e : Nat} (w : wrap64 (s - 1) = s - 1) (h0 : ¬ s - 1 = 0) (ht : Int.tmod (wrap64 (Int.tmod n (s - 1) + (s - 1))) (s - 1) = e) : galois_exponent.f c s p n = some (e : Int) := by
  unfold galois_exponent.f
  rw [w, ht, if_neg h0]
end
theorem both_Pow (c s p a n : Int) (hs : s < 2 ^ 63) : ∃ r, Ev (fun k => galois_Pow.f k c s p a n) r ∧ Ev (fun k => barscanref04_Pow.f k c s p a n) r := by
  unfold galois_Pow.f barscanref04_Pow.f
  simp only [ev_Is]
  by_cases hg : Good c s p
  · have hg' := goodB_iff.2 hg
    by_cases hin : inB s [a] = true
    · obtain ⟨M⟩ := model hg
      have h1 := M.small
      have h2 := M.big
      obtain ⟨w, h0, e, he, ht, hz⟩ := expo M n
      by_cases ha : a = 0
      · subst ha
        by_cases hn : n < 0
        · refine ⟨(0, 12), Ev.bind (ev_member _ (by simp)) ?_, Ev.bind (rValid hs) ?_⟩
          · rw [hin, hg']
            refine evt rfl (evt rfl (evs ?_))
            simp only [galois_Pow.j0]
            exact evt (by simp [hn]) (Ev.now _)
          · rw [hg']
            refine evt rfl (Ev.bind (Ev.now _) (evs ?_))
            simp only [barscanref04_Pow.j0, hin]
            exact evf (by simp) (evt trivial (evt hn (Ev.now _)))
        · by_cases hn0 : n = 0
          · refine ⟨(1, 0), Ev.bind (ev_member _ (by simp)) ?_, Ev.bind (rValid hs) ?_⟩
            · rw [hin, hg']
              refine evt rfl (evt rfl (evs ?_))
              simp only [galois_Pow.j0]
              refine evf (by simp [hn]) (evt trivial (evs ?_))
              simp only [galois_Pow.j1, ev_exponent (c := c) (p := p) w h0 ht]
              refine evf (by simp; omega) (Ev.bind (Ev.now _) (Ev.bind (a := 1) ?_ (Ev.now _)))
              have := ev_power M 0 (e := e) (by omega)
              rw [hz hn0, Alg.pw_zero, M.one, M.zero] at this
              rw [hz hn0]
              exact this
            · rw [hg']
              refine evt rfl (Ev.bind (Ev.now _) (evs ?_))
              simp only [barscanref04_Pow.j0, hin]
              refine evf (by simp) (evt trivial (evf hn (Ev.bind (a := 1) ?_ (Ev.now _))))
              unfold barscanref04_raise.f
              exact evt rfl (evt hn0 (Ev.now _))
          · refine ⟨(0, 0), Ev.bind (ev_member _ (by simp)) ?_, Ev.bind (rValid hs) ?_⟩
            · rw [hin, hg']
              refine evt rfl (evt rfl (evs ?_))
              simp only [galois_Pow.j0]
              refine evf (by simp [hn]) (evt trivial (evs ?_))
              simp only [galois_Pow.j1]
              exact evt (by simp; omega) (Ev.now _)
            · rw [hg']
              refine evt rfl (Ev.bind (Ev.now _) (evs ?_))
              simp only [barscanref04_Pow.j0, hin]
              refine evf (by simp) (evt trivial (evf hn (Ev.bind (a := 0) ?_ (Ev.now _))))
              unfold barscanref04_raise.f
              exact evt rfl (evf hn0 (Ev.now _))
      · obtain ⟨x, rfl⟩ := M.of a (inB_iff3.1 hin).1 (inB_iff3.1 hin).2
        refine ⟨(M.v (pw x e), 0), Ev.bind (ev_member _ (by simp)) ?_, Ev.bind (rValid hs) ?_⟩
        · rw [hin, hg']
          refine evt rfl (evf ha (evs ?_))
          simp only [galois_Pow.j0]
          refine evf (by simp) (evf ha (evs ?_))
          simp only [galois_Pow.j1, ev_exponent (c := c) (p := p) w h0 ht]
          exact evf (by simp) (Ev.bind (Ev.now _) (Ev.bind (ev_power M x (by omega)) (Ev.now _)))
        · rw [hg']
          refine evt rfl (Ev.bind (Ev.now _) (evs ?_))
          simp only [barscanref04_Pow.j0, hin]
          exact evf (by simp) (evf ha (Ev.bind (ev_raise M ha w h0 he ht) (Ev.now _)))
    · refine ⟨(0, 1), Ev.bind (ev_member [a] (by simp)) ?_, Ev.bind (rValid hs) ?_⟩
      · rw [Bool.eq_false_iff.2 hin]
        exact evf (by simp) (Ev.now _)
      · rw [hg']
        refine evt rfl (Ev.bind (Ev.now _) (evs ?_))
        simp only [barscanref04_Pow.j0, Bool.eq_false_iff.2 hin]
        exact evt (by simp) (Ev.now _)
  · have hg' := goodB_false hg
    refine ⟨(0, 1), Ev.bind (ev_member [a] (by simp)) ?_, Ev.bind (rValid hs) ?_⟩
    · rw [hg', Bool.and_false]
      exact evf (by simp) (Ev.now _)
    · rw [hg']
      refine evf (by simp) (evs ?_)
      simp only [barscanref04_Pow.j0]
      exact evt (by simp) (Ev.now _)
theorem both_Exp (c s p n : Int) (hs : s < 2 ^ 63) : ∃ r, Ev (fun k => galois_Exp.f k c s p n) r ∧ Ev (fun k => barscanref04_Exp.f k c s p n) r := by
  unfold galois_Exp.f barscanref04_Exp.f
  by_cases hg : Good c s p
  · have hg' := goodB_iff.2 hg
    obtain ⟨M⟩ := model hg
    have h1 := M.small
    obtain ⟨w, h0, e, he, ht, hz⟩ := expo M n
    obtain ⟨g, hl⟩ := exists_gen_least M
    have hg0 : M.v g ≠ 0 := fun e => Alg.ord_ne hl.1 ((v_zero_iff M g).1 e)
    refine ⟨(M.v (pw g e), 0), Ev.bind ev_Valid ?_, Ev.bind (rValid hs) ?_⟩
    · rw [hg']
      refine evt rfl (Ev.bind (ev_generator M hl) ?_)
      simp only [ev_exponent (c := c) (p := p) w h0 ht]
      exact Ev.bind (Ev.now _) (Ev.bind (ev_power M g (by omega)) (Ev.now _))
    · rw [hg']
      exact evt rfl (Ev.bind (rPrimitive M hl) (Ev.bind (ev_raise M hg0 w h0 he ht) (Ev.now _)))
  · have hg' := goodB_false hg
    refine ⟨(0, 1), Ev.bind ev_Valid ?_, Ev.bind (rValid hs) ?_⟩
    · rw [hg']
      exact evf (by simp) (Ev.now _)
    · rw [hg']
      exact evf (by simp) (Ev.now _)
theorem pure_GaloisPowers (c s p a b n : Int) (hs : s < 2 ^ 63) : ∃ k, barscanlaw04_GaloisPowers.f k c s p a b n = some true := by
  refine Ev.rounds ?_
  simp only [barscanlaw04_GaloisPowers.f]
  obtain ⟨r1, a1, b1⟩ := both_Pow c s p a n hs
  obtain ⟨r2, a2, b2⟩ := both_Exp c s p n hs
  refine Ev.bind a1 (Ev.bind b1 (Ev.bind a2 (Ev.bind b2 ?_)))
  refine evt rfl (evt rfl (evt rfl (evt rfl ?_)))
  exact Ev.bind ev_alive3 (Ev.now _)
end Go.Proofs.Ytlhaclammaaabaa.Pg
