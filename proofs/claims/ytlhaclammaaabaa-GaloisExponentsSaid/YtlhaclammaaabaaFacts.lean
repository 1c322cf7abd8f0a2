/- What holds of the program whole: for the rows. -/
import Derived.Test.YtlhaclammaaabaaRows
import Derived.JoinedOf
import Derived.ProofKit
namespace Go.Proofs.Ytlhaclammaaabaa.Facts
open Go.RowKit
theorem andT {a b : Bool} (ha : a = true) (hb : b = true) : (a && b) = true := by rw [ha, hb]; rfl
theorem laidOut : (laidOutB Try.pinned.checked.prog) = true := by kernel_rfl
theorem mapsRowed : (mapsRowed Try.pinned.checked.prog) = true := by kernel_rfl
theorem stops : ((Try.pinned.checked.prog.stops == [])) = true := by kernel_rfl
theorem stopKnobs : ((Try.pinned.checked.prog.stopKnobs == [])) = true := by kernel_rfl
theorem plainKeys : ((false == Try.pinned.checked.prog.plainKeys)) = true := by kernel_rfl
theorem stopsHeard : (Try.pinned.checked.prog.stopsHeard) = true := by kernel_rfl
theorem mayEnter : (Try.pinned.checked.prog.mayEnter) = true := by kernel_rfl
theorem lifted : ((Rows.galoisMakesRow.lifted == Try.pinned.checked.prog.liftsFinal)) = true := by kernel_rfl
theorem make : ((Try.pinned.checked.prog.make == some Rows.galoisMakesRow.make)) = true := by kernel_rfl
end Go.Proofs.Ytlhaclammaaabaa.Facts
