import Derived.Test.YtlhaclammaaabaaRows
import Derived.WalkKit
import Derived.ProofKit
import Derived.OpenShut
import Derived.ChangeOld
import Derived.Below
import Derived.SizedLaws
import Derived.Lib.SmallJoins
import Derived.Deep.Strs
/-! The struct Ask by value: opened and shut. -/
namespace Go.Proofs.Ytlhaclammaaabaa.Asks
open Go.Deep Go.Joins Go.ChangeShapes Go.WideShapes Go.ChangeAt Go.RowKit
set_option linter.unusedVariables false
set_option linter.unusedSimpArgs false
theorem range64 {n : Int} (h : (Lit.int .i64 n).wf = true) : -9223372036854775808 ≤ n ∧ n < 9223372036854775808 := by
  simp [Lit.wf, IntKind.min, IntKind.max, IntKind.bits, IntKind.signed] at h
  omega
theorem cells23 : Try.prog.cellsOf 23 = 3 := by kernel_rfl
theorem cells32 : Try.prog.cellsOf 32 = 6 := by kernel_rfl
theorem cells3 : Try.prog.cellsOf 3 = 1 := by kernel_rfl
theorem list6 {α : Type} {l : List α} (h : l.length = 6) : ∃ a b c d e f, l = [a, b, c, d, e, f] := by
  match l, h with
  | [a, b, c, d, e, f], _ => exact ⟨a, b, c, d, e, f, rfl⟩
section
variable {H : Type} {enc : TypeId × Value → H} {W : World} {base : Nat} {spare : Nat → Bool} {held : Bool}
theorem fld {n : Int} (h : (Lit.int .i64 n).wf = true) : DataW.trod enc Try.prog W base spare held 1 3 [.int .i64 n] = some (.lit (.int .i64 n), []) := by simp [DataW.trod, Try.underlying3, h]
theorem open_ask {r : Reach} {b0 : Nat} {v : Value} {d : DataW H} {p : List MemPlace} (hv : Value.okWide Try.prog W r b0 32 v) (h : DataW.Trod enc Try.prog W base spare held 32 v d p) :
    ∃ a0 a1 a2 a3 a4 a5 : Int, v = .agg #[.int .i64 a0, .int .i64 a1, .int .i64 a2, .int .i64 a3, .int .i64 a4, .int .i64 a5] ∧
      d = .agg [.agg [.lit (.int .i64 a0), .lit (.int .i64 a1), .lit (.int .i64 a2)], .lit (.int .i64 a3), .lit (.int .i64 a4), .lit (.int .i64 a5)] ∧ p = [] ∧
      (Lit.int .i64 a0).wf = true ∧ (Lit.int .i64 a1).wf = true ∧ (Lit.int .i64 a2).wf = true ∧ (Lit.int .i64 a3).wf = true ∧ (Lit.int .i64 a4).wf = true ∧ (Lit.int .i64 a5).wf = true := by
  obtain ⟨cs, rfl, hsz⟩ := okWide_struct Try.underlying32 hv
  obtain ⟨l⟩ := cs
  obtain ⟨c0, c1, c2, c3, c4, c5, rfl⟩ := list6 (l := l) (hsz.trans cells32)
  obtain ⟨fuel, hf⟩ := h
  obtain ⟨y0, y1, y2, y3, n, hx, _, h0, h1, h2, h3⟩ := trod_struct4 Try.underlying32 hf
  simp only [Value.cells, cells23, cells3, List.drop, List.take] at h0 h1 h2 h3
  obtain ⟨z0, z1, z2, m, hz, _, g0, g1, g2⟩ := trod_struct3 Try.underlying23 h0
  simp only [cells3, List.drop, List.take] at g0 g1 g2
  obtain ⟨a0, e0, rfl, w0⟩ := DataW.trod_int Try.underlying3 g0
  obtain ⟨a1, e1, rfl, w1⟩ := DataW.trod_int Try.underlying3 g1
  obtain ⟨a2, e2, rfl, w2⟩ := DataW.trod_int Try.underlying3 g2
  obtain ⟨a3, e3, rfl, w3⟩ := DataW.trod_int Try.underlying3 h1
  obtain ⟨a4, e4, rfl, w4⟩ := DataW.trod_int Try.underlying3 h2
  obtain ⟨a5, e5, rfl, w5⟩ := DataW.trod_int Try.underlying3 h3
  subst hz
  simp at e0 e1 e2 e3 e4 e5 hx
  subst e0 e1 e2 e3 e4 e5
  exact ⟨a0, a1, a2, a3, a4, a5, rfl, hx.1, hx.2, w0, w1, w2, w3, w4, w5⟩
theorem shut_ask {a0 a1 a2 a3 a4 a5 : Int} (w0 : (Lit.int .i64 a0).wf = true) (w1 : (Lit.int .i64 a1).wf = true) (w2 : (Lit.int .i64 a2).wf = true) (w3 : (Lit.int .i64 a3).wf = true) (w4 : (Lit.int .i64 a4).wf = true) (w5 : (Lit.int .i64 a5).wf = true) :
    DataW.Trod enc Try.prog W base spare held 32 (.agg #[.int .i64 a0, .int .i64 a1, .int .i64 a2, .int .i64 a3, .int .i64 a4, .int .i64 a5])
      (.agg [.agg [.lit (.int .i64 a0), .lit (.int .i64 a1), .lit (.int .i64 a2)], .lit (.int .i64 a3), .lit (.int .i64 a4), .lit (.int .i64 a5)]) [] := by
  have t : ∀ {n : Int}, (Lit.int .i64 n).wf = true → DataW.trod enc Try.prog W base spare held 2 3 [.int .i64 n] = some (.lit (.int .i64 n), []) := fun h => DataW.trod_le (by omega) (fld h)
  have hF := trod_struct3_mk (enc := enc) (w := W) (base := base) (spare := spare) (held := held) (n := 1) (cs := [.int .i64 a0, .int .i64 a1, .int .i64 a2]) (y0 := (.lit (.int .i64 a0), [])) (y1 := (.lit (.int .i64 a1), [])) (y2 := (.lit (.int .i64 a2), [])) Try.underlying23 (by simp [cells23])
    (by simpa [cells3] using fld w0) (by simpa [cells3] using fld w1) (by simpa [cells3] using fld w2)
  have ts := trod_struct4_mk (enc := enc) (w := W) (base := base) (spare := spare) (held := held) (n := 2) (cs := [.int .i64 a0, .int .i64 a1, .int .i64 a2, .int .i64 a3, .int .i64 a4, .int .i64 a5]) (y0 := (.agg [.lit (.int .i64 a0), .lit (.int .i64 a1), .lit (.int .i64 a2)], [])) (y1 := (.lit (.int .i64 a3), [])) (y2 := (.lit (.int .i64 a4), [])) (y3 := (.lit (.int .i64 a5), [])) Try.underlying32 (by simp [cells32])
    (by simpa [cells23] using hF) (by simpa [cells3] using t w3) (by simpa [cells3] using t w4) (by simpa [cells3] using t w5)
  exact ⟨_, by simpa [Value.cells] using ts⟩
end
end Go.Proofs.Ytlhaclammaaabaa.Asks
