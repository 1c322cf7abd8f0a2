/- GaloisLogarithms: the law answers true at every input, and the input reads as it did. No conditions. -/
import Derived.Test.YtlhaclammaaabaaFacts
import Derived.Test.YtlhaclammaaabaaAsk
import Derived.Test.YtlhaclammaaabaaLLgs
import Derived.WalkKit
import Derived.ProofKit
import Derived.OpenShut
import Derived.ShutString
import Derived.ChangeOld
import Derived.Below
import Derived.SizedLaws
import Derived.Lib.SmallJoins
namespace Go.Proofs.Ytlhaclammaaabaa.galoisLogarithms
open Go.Joins Go.ChangeShapes Go.WideShapes Go.ChangeAt Go.RowKit Go.Proofs.Ytlhaclammaaabaa.Pg
set_option linter.unusedVariables false
set_option linter.unusedSimpArgs false
theorem own : ownKnob Try.prog.godebug = none := by kernel_rfl
theorem range64 {n : Int} (h : (Lit.int .i64 n).wf = true) : -9223372036854775808 ≤ n ∧ n < 9223372036854775808 := by
  simp [Lit.wf, IntKind.min, IntKind.max, IntKind.bits, IntKind.signed] at h
  omega
theorem fld {H : Type} {enc : TypeId × Value → H} {W : World} {b : Nat} {sp : Nat → Bool} {n : Int} (h : (Lit.int .i64 n).wf = true) : ∃ m, DataW.trod enc Try.prog W b sp true m 3 [.int .i64 n] = some (.lit (.int .i64 n), []) := ⟨1, by simp [DataW.trod, Try.underlying3, h]⟩
set_option maxRecDepth 100000 in
theorem lifted (os : Os) (started : os.Started) (H : Type) (enc : TypeId × Value → H) :
    ReturnsInHanded {} Try.checked os 8 .any (Rows.galoisLogarithmsSpec.pre6 enc Try.prog Try.f8 Rows.galoisLogarithmsRow.domain false) (Rows.galoisLogarithmsSpec.post enc Try.prog Try.f8 false true false false) := by
  refine returnsInHanded_of_change_sized (C := Try.checked) own started (by kernel_rfl) Try.func8
    (ChangeSpec.witness6 (enc := enc) (C := Try.checked) false ⟨#[], #[.agg #[.int .i64 0, .int .i64 0, .int .i64 0, .int .i64 0, .int .i64 0, .int .i64 0]], []⟩ 8 (by kernel_rfl) (by kernel_rfl) (by kernel_rfl) (by kernel_rfl)) ?_
  intro W base args ds gs before hval0 hW hcnd hsz0 _
  have hsz : (DataW.weightsEach Try.prog (Try.f8.params.toList ++ Rows.galoisLogarithmsSpec.plain.varTypes Try.prog) (ds ++ gs)).all (· ≤ reachBytes) = true := hsz0
  have hval : ∀ (j : Nat) t v, Try.f8.params[j]? = some t → args[j]? = some v → Value.okWide Try.prog W .any base t v := hval0
  have hW' := hW
  obtain ⟨p, q, hA0, hV, rfl, hfz, hnd⟩ := hW
  have hA : DataW.TrodAll enc Try.prog W 0 (fun _ => true) true Try.f8.params.toList args.toList ds p := hA0
  rw [Try.params8] at hA hval hsz
  obtain ⟨v0, vs0, d0, ds0, p0, q0, hargs, rfl, rfl, h0, r0⟩ := trodAll_cons hA
  obtain ⟨rfl, rfl, rfl⟩ := trodAll_nil r0
  obtain rfl : args = #[v0] := by cases args; simp_all
  obtain ⟨rfl, rfl⟩ := trodVars_none hV
  obtain ⟨a0_0, a0_1, a0_2, a0_3, a0_4, a0_5, rfl, rfl, rfl, w0_0, w0_1, w0_2, w0_3, w0_4, w0_5⟩ := Asks.open_ask (hval 0 32 v0 rfl rfl) h0
  clear hA0 hval0 hsz0 hsz
  try simp only [List.append_nil] at hW'
  have gw0_0 := range64 w0_0
  have gw0_1 := range64 w0_1
  have gw0_2 := range64 w0_2
  have gw0_3 := range64 w0_3
  have gw0_4 := range64 w0_4
  have gw0_5 := range64 w0_5
  obtain ⟨k, hk⟩ := pure_GaloisLogarithms a0_0 a0_1 a0_2 a0_3 a0_4 a0_5 (by omega)
  refine (barscanlaw04_GaloisLogarithms.calls k a0_0 a0_1 a0_2 a0_3 a0_4 a0_5 true W hk).mono fun e W' ⟨he, bel⟩ => ?_
  subst he
  exact ⟨_, rfl, _, _, _, [], _, [], hW', trodAll_mk1 (shut_bool Try.underlying4 _), (trodAll_cons_mk (Asks.shut_ask w0_0 w0_1 w0_2 w0_3 w0_4 w0_5) trodAll_mk0), rfl, bel.frame _, fun h => by cases h⟩
theorem named : Try.pinned.checked.prog.funcNamed Rows.galoisLogarithmsRow.func = some 8 := by kernel_rfl
theorem j0 : (Rows.galoisLogarithmsRow.wf (OpenSpec.ofChange Rows.galoisLogarithmsSpec)) = true := by kernel_rfl
theorem j3 : (Try.f8.params.all (Try.pinned.checked.prog.readableRec ·)) = true := by kernel_rfl
theorem j4 : (namedTie Try.pinned.checked.prog Rows.galoisLogarithmsRow.named Rows.galoisLogarithmsSpec.vars) = true := by kernel_rfl
theorem j5 : ((Rows.galoisLogarithmsRow.stops == [])) = true := by kernel_rfl
theorem j7 : ((Rows.galoisLogarithmsRow.knobs == [])) = true := by kernel_rfl
theorem j9 : ((Rows.galoisLogarithmsRow.inPlace == Try.pinned.checked.prog.inPlace 8)) = true := by kernel_rfl
theorem j10 : ((Rows.galoisLogarithmsRow.unfollowed == Try.pinned.checked.prog.unfollowed 8)) = true := by kernel_rfl
theorem j11 : ((Rows.galoisLogarithmsRow.recurses == Try.pinned.checked.prog.recurses 8)) = true := by kernel_rfl
theorem j12 : ((Rows.galoisLogarithmsRow.named == Try.pinned.checked.prog.varsNamed 8)) = true := by kernel_rfl
theorem j13 : ((Rows.galoisLogarithmsRow.maps == (Try.f8.params.toList ++ Rows.galoisLogarithmsSpec.plain.varTypes Try.pinned.checked.prog).any (Try.pinned.checked.prog.mapsRec ·))) = true := by kernel_rfl
theorem j14 : ((Rows.galoisLogarithmsRow.ifaces == (Try.f8.params.toList ++ Rows.galoisLogarithmsSpec.plain.varTypes Try.pinned.checked.prog).any (Try.pinned.checked.prog.ifacesRec ·))) = true := by kernel_rfl
theorem j15 : ((Rows.galoisLogarithmsRow.mapsOut == Try.pinned.checked.prog.mapsAmong Try.f8.resultTypes.toList)) = true := by kernel_rfl
theorem j16 : ((Rows.galoisLogarithmsRow.loops == (Try.f8.params.toList ++ Rows.galoisLogarithmsSpec.plain.varTypes Try.pinned.checked.prog).any (Try.pinned.checked.prog.loopsFrom ·))) = true := by kernel_rfl
theorem j17 : ((Rows.galoisLogarithmsRow.wideKeys == (Try.f8.params.toList ++ Rows.galoisLogarithmsSpec.plain.varTypes Try.pinned.checked.prog ++ Try.f8.resultTypes.toList).any (Try.pinned.checked.prog.wideKeysFrom ·))) = true := by kernel_rfl
theorem j18 : (Rows.galoisLogarithmsSpec.vars.all (Try.pinned.checked.prog.varReadable ·)) = true := by kernel_rfl
theorem j19 : (Try.f8.resultTypes.all (fun t => Try.pinned.checked.prog.readableRec t && decide (t < Try.pinned.checked.prog.types.size))) = true := by kernel_rfl
theorem j20 : ((Rows.galoisLogarithmsRow.ifacesOut == Try.f8.resultTypes.toList.any (Try.pinned.checked.prog.ifacesRec ·))) = true := by kernel_rfl
theorem j21 : ((Rows.galoisLogarithmsRow.loopsOut == Try.f8.resultTypes.toList.any (Try.pinned.checked.prog.loopsFrom ·))) = true := by kernel_rfl
theorem j23 : (Rows.galoisLogarithmsRow.shortTexts.isNone) = true := by kernel_rfl
theorem j29 : ((Rows.galoisLogarithmsRow.pinned == Rows.galoisLogarithmsRow.pinnedBy)) = true := by kernel_rfl
theorem j30 : ((Rows.galoisLogarithmsRow.veiled == (Try.f8.params.toList ++ Rows.galoisLogarithmsSpec.plain.varTypes Try.pinned.checked.prog ++ Try.f8.resultTypes.toList).any (Try.pinned.checked.prog.veiledRec ·))) = true := by kernel_rfl
theorem j31 : (Rows.galoisLogarithmsRow.veiledFits Try.pinned.checked.prog Try.f8.params.toList (Try.f8.params.toList ++ Rows.galoisLogarithmsSpec.plain.varTypes Try.pinned.checked.prog ++ Try.f8.resultTypes.toList)) = true := by kernel_rfl
theorem joined : joinedFacts Try.pinned.checked.prog 8 Try.f8 Rows.galoisLogarithmsSpec Rows.galoisLogarithmsRow = true := by unfold joinedFacts; exact (Facts.andT (Facts.andT (Facts.andT (Facts.andT (Facts.andT (Facts.andT (Facts.andT (Facts.andT (Facts.andT (Facts.andT (Facts.andT (Facts.andT (Facts.andT (Facts.andT (Facts.andT (Facts.andT (Facts.andT (Facts.andT (Facts.andT (Facts.andT (Facts.andT (Facts.andT (Facts.andT (Facts.andT (Facts.andT (Facts.andT (Facts.andT (Facts.andT (Facts.andT (Facts.andT (Facts.andT j0 Facts.laidOut) Facts.mapsRowed) j3) j4) j5) Facts.stops) j7) Facts.stopKnobs) j9) j10) j11) j12) j13) j14) j15) j16) j17) j18) j19) j20) j21) Facts.plainKeys) j23) Facts.stopsHeard) Facts.mayEnter) Facts.lifted) Facts.make) (by kernel_rfl)) j29) j30) j31)
theorem inst : Try.f8.isInstance Try.pinned.checked.prog Rows.galoisLogarithmsRow.origin Rows.galoisLogarithmsRow.targs := of_decide_eq_true (by kernel_rfl)
theorem wrapper : Try.f8.isWrapper Try.pinned.checked.prog Rows.galoisLogarithmsRow.wrapper Rows.galoisLogarithmsRow.mainSum := by unfold Func.isWrapper; first | (rw [if_pos (by decide +kernel)]; kernel_rfl) | (rw [if_neg (by decide +kernel)]; exact ⟨rfl, rfl⟩)
theorem over : Rows.galoisLogarithmsRow.holds Try.pinned (OpenSpec.ofChange Rows.galoisLogarithmsSpec) :=
  OpenClaim.holds_of_wide 8 Try.f8 rfl rfl rfl rfl rfl rfl rfl ⟨rfl, rfl, rfl, rfl, rfl⟩ rfl rfl rfl rfl rfl named Try.func8 joined
    inst wrapper
    (fun os started H enc _ => lifted os started H enc)
theorem proved : Rows.GaloisLogarithmsSaid := over
#print axioms proved
end Go.Proofs.Ytlhaclammaaabaa.galoisLogarithms
namespace Go.Proofs.Ytlhaclammaaabaa
/-- GaloisLogarithms, under a short name, for the claim. -/
theorem galoisLogarithms_holds : Rows.GaloisLogarithmsSaid := galoisLogarithms.proved
end Go.Proofs.Ytlhaclammaaabaa
