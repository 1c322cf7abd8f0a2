import Derived.Test.YtlhaclammaaabaaP18
import Derived.Test.YtlhaclammaaabaaUVal
/-! GaloisMakes, with no program in sight. -/
namespace Go.Proofs.Ytlhaclammaaabaa.Pg
open Go.RowKit Go.Proofs.YtlhaclammaaabaaW.PrintWords Go.Proofs.YtlhaclammaaabaaW.PrintLast Go.Proofs.YtlhaclammaaabaaW.PrintMore
set_option linter.unusedVariables false
set_option maxRecDepth 100000
theorem alive_true : barscanlaw04_alive.f 60 = some true := by decide +kernel
theorem ev_alive : Ev (fun k => barscanlaw04_alive.f k) true := Ev.of (fun k => barscanlaw04_alive.mono k) alive_true
theorem both_Binary (m p : Int) : ∃ r, Ev (fun k => galois_Binary.f k m p) r ∧ Ev (fun k => barscanref04_Binary.f k m p) r := by
  by_cases h : m < 1 ∨ 12 < m
  · exact ⟨_, ev_Binary_out h, rBinary_out h⟩
  · obtain ⟨d, rfl⟩ : ∃ d : Nat, m = d := ⟨m.toNat, by omega⟩
    exact ⟨_, ev_Binary_in (by omega) (by omega) p, rBinary_in (by omega) (by omega) p⟩
theorem both_Prime (p : Int) : ∃ r, Ev (fun k => galois_Prime.f k p) r ∧ Ev (fun k => barscanref04_Prime.f k p) r := by
  by_cases h : p < 2 ∨ 4096 < p
  · exact ⟨_, ev_Prime_out h, rPrime_out h⟩
  · obtain ⟨d, rfl⟩ : ∃ d : Nat, p = d := ⟨p.toNat, by omega⟩
    exact ⟨_, ev_Prime_in (by omega) (by omega), rPrime_in (by omega) (by omega)⟩
theorem pure_GaloisMakes (c s p m q : Int) (hs : s < 2 ^ 63) : ∃ k, barscanlaw04_GaloisMakes.f k c s p m q = some true := by
  refine Ev.rounds ?_
  simp only [barscanlaw04_GaloisMakes.f]
  obtain ⟨r1, a1, b1⟩ := both_Binary m q
  obtain ⟨r2, a2, b2⟩ := both_Prime m
  refine Ev.bind a1 (Ev.bind b1 (Ev.bind a2 (Ev.bind b2 ?_)))
  refine evt (by simp) (evt rfl (evt (by simp) (evt rfl ?_)))
  refine Ev.bind ev_Valid (Ev.bind (rValid hs) (evt (by simp) ?_))
  exact Ev.bind ev_alive (Ev.now _)
end Go.Proofs.Ytlhaclammaaabaa.Pg
