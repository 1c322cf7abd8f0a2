import Derived.Test.YtlhaclammaaabaaB20
import Derived.Test.YtlhaclammaaabaaUDiv
/-! DivMod of valid polynomials. -/
namespace Go.Proofs.Ytlhaclammaaabaa.Pg
open Go.RowKit Go.Proofs.YtlhaclammaaabaaW.PrintWords Go.Proofs.YtlhaclammaaabaaW.PrintLast Go.Proofs.YtlhaclammaaabaaW.PrintMore
open Go.Proofs.Ytlhaclammaaabaa.Alg (CF card pw Ser Bd sadd ssub smul pmul tl sh cst)
section
variable {c s p : Int} (M : Model c s p)
theorem ev_DivMod {a b : List Int} {A G : Ser M.K} (ha : PL M a A) (hb : PL M b G) (hla : a.length ≤ 4097) (hlb : b.length ≤ 4097) {n : Nat} (hn : b.length = n + 1) :
    ∃ q r Q R, PL M q Q ∧ PL M r R ∧ A = sadd (pmul Q G) R ∧ Bd R n ∧ q.length ≤ a.length ∧ r.length ≤ a.length ∧ Ev (fun k => polynomial_DivMod.f k c s p a b) (q, r, 0) := by
  obtain ⟨q, r, Q, R, h1, h2, h3, h4, h5, h6, h7⟩ := ev_division M ha hb (by omega) (by omega) hn
  refine ⟨q, r, Q, R, h1, h2, h3, h4, h5, h6, ?_⟩
  unfold polynomial_DivMod.f
  refine Ev.bind (ev_PValid a) (evt (ha.valid M hla) (Ev.bind (ev_PValid b) (evs ?_)))
  rw [hb.valid M hlb]
  simp only [polynomial_DivMod.j0]
  exact evf (by simp) (evf (by omega) (Ev.bind h7 (Ev.now _)))
theorem ev_DivMod_nil {a : List Int} {A : Ser M.K} (ha : PL M a A) (hla : a.length ≤ 4097) : Ev (fun k => polynomial_DivMod.f k c s p a []) ([], [], 12) := by
  unfold polynomial_DivMod.f
  refine Ev.bind (ev_PValid a) (evt (ha.valid M hla) (Ev.bind (ev_PValid []) (evs ?_)))
  rw [(PL.nil M).valid M (by simp)]
  simp only [polynomial_DivMod.j0]
  exact evf (by simp) (evt (by simp) (Ev.now _))
end
end Go.Proofs.Ytlhaclammaaabaa.Pg
