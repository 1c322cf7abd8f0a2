import Derived.Test.YtlhaclammaaabaaRows
import Derived.WalkKit
import Derived.ProofKit
import Derived.OpenShut
import Derived.ChangeOld
import Derived.Below
import Derived.SizedLaws
import Derived.Lib.SmallJoins
import Derived.Deep.Strs
/-! The array [2]int by value: opened and shut. -/
namespace Go.Proofs.Ytlhaclammaaabaa.Pairs
open Go.Deep Go.Joins Go.ChangeShapes Go.WideShapes Go.ChangeAt Go.RowKit
set_option linter.unusedVariables false
set_option linter.unusedSimpArgs false
theorem cells38 : Try.prog.cellsOf 38 = 2 := by kernel_rfl
theorem cells3 : Try.prog.cellsOf 3 = 1 := by kernel_rfl
theorem list2 {α : Type} {l : List α} (h : l.length = 2) : ∃ a b, l = [a, b] := by
  match l, h with
  | [a, b], _ => exact ⟨a, b, rfl⟩
section
variable {H : Type} {enc : TypeId × Value → H} {W : World} {base : Nat} {spare : Nat → Bool} {held : Bool}
theorem fld {n : Int} (h : (Lit.int .i64 n).wf = true) : DataW.trod enc Try.prog W base spare held 1 3 [.int .i64 n] = some (.lit (.int .i64 n), []) := by simp [DataW.trod, Try.underlying3, h]
theorem open_pair {r : Reach} {b0 : Nat} {v : Value} {d : DataW H} {p : List MemPlace} (hv : Value.okWide Try.prog W r b0 38 v) (h : DataW.Trod enc Try.prog W base spare held 38 v d p) :
    ∃ a0 a1 : Int, v = .agg #[.int .i64 a0, .int .i64 a1] ∧ d = .agg [.lit (.int .i64 a0), .lit (.int .i64 a1)] ∧ p = [] ∧ (Lit.int .i64 a0).wf = true ∧ (Lit.int .i64 a1).wf = true := by
  obtain ⟨cs, rfl, hsz⟩ : ∃ cs, v = .agg cs ∧ cs.size = Try.prog.cellsOf 38 := by
    unfold Value.okWide at hv
    simp only [Try.underlying38] at hv
    obtain ⟨cs, h1, h2, _⟩ := hv
    exact ⟨cs, h1, h2⟩
  obtain ⟨l⟩ := cs
  obtain ⟨c0, c1, rfl⟩ := list2 (l := l) (hsz.trans cells38)
  obtain ⟨fuel, hf⟩ := h
  cases fuel with
  | zero => simp [DataW.trod] at hf
  | succ n =>
    unfold DataW.trod at hf
    rw [Try.underlying38] at hf
    have r2 : List.range 2 = [0, 1] := rfl
    simp [r2, cells3, Value.cells] at hf
    obtain ⟨_, hf⟩ := hf
    cases h0 : DataW.trod enc Try.prog W base spare held n 3 [c0] with
    | none => simp [h0] at hf
    | some y0 =>
      cases h1 : DataW.trod enc Try.prog W base spare held n 3 [c1] with
      | none => simp [h0, h1] at hf
      | some y1 =>
        simp [h0, h1] at hf
        obtain ⟨a0, e0, rfl, w0⟩ := DataW.trod_int Try.underlying3 h0
        obtain ⟨a1, e1, rfl, w1⟩ := DataW.trod_int Try.underlying3 h1
        simp at e0 e1 hf
        subst e0 e1
        exact ⟨a0, a1, rfl, hf.1.symm, hf.2, w0, w1⟩
theorem shut_pair {a0 a1 : Int} (w0 : (Lit.int .i64 a0).wf = true) (w1 : (Lit.int .i64 a1).wf = true) :
    DataW.Trod enc Try.prog W base spare held 38 (.agg #[.int .i64 a0, .int .i64 a1]) (.agg [.lit (.int .i64 a0), .lit (.int .i64 a1)]) [] := by
  refine ⟨2, ?_⟩
  unfold DataW.trod
  rw [Try.underlying38]
  have r2 : List.range 2 = [0, 1] := rfl
  have h0 := fld (enc := enc) (W := W) (base := base) (spare := spare) (held := held) w0
  have h1 := fld (enc := enc) (W := W) (base := base) (spare := spare) (held := held) w1
  simp [r2, cells3, cells38, Value.cells, h0, h1]
end
end Go.Proofs.Ytlhaclammaaabaa.Pairs
