/- GaloisExponents: the law answers true at every input, and the input reads as it did. No conditions. -/
import Derived.Test.YtlhaclammaaabaaFacts
import Derived.Test.YtlhaclammaaabaaAsk
import Derived.Test.YtlhaclammaaabaaLExp
import Derived.WalkKit
import Derived.ProofKit
import Derived.OpenShut
import Derived.ShutString
import Derived.ChangeOld
import Derived.Below
import Derived.SizedLaws
import Derived.Lib.SmallJoins
namespace Go.Proofs.Ytlhaclammaaabaa.galoisExponents
open Go.Joins Go.ChangeShapes Go.WideShapes Go.ChangeAt Go.RowKit Go.Proofs.Ytlhaclammaaabaa.Pg
set_option linter.unusedVariables false
set_option linter.unusedSimpArgs false
theorem own : ownKnob Try.prog.godebug = none := by kernel_rfl
theorem range64 {n : Int} (h : (Lit.int .i64 n).wf = true) : -9223372036854775808 ≤ n ∧ n < 9223372036854775808 := by
  simp [Lit.wf, IntKind.min, IntKind.max, IntKind.bits, IntKind.signed] at h
  omega
theorem fld {H : Type} {enc : TypeId × Value → H} {W : World} {b : Nat} {sp : Nat → Bool} {n : Int} (h : (Lit.int .i64 n).wf = true) : ∃ m, DataW.trod enc Try.prog W b sp true m 3 [.int .i64 n] = some (.lit (.int .i64 n), []) := ⟨1, by simp [DataW.trod, Try.underlying3, h]⟩
set_option maxRecDepth 100000 in
theorem lifted (os : Os) (started : os.Started) (H : Type) (enc : TypeId × Value → H) :
    ReturnsInHanded {} Try.checked os 11 .any (Rows.galoisExponentsSpec.pre6 enc Try.prog Try.f11 Rows.galoisExponentsRow.domain false) (Rows.galoisExponentsSpec.post enc Try.prog Try.f11 false true false false) := by
  refine returnsInHanded_of_change_sized (C := Try.checked) own started (by kernel_rfl) Try.func11
    (ChangeSpec.witness6 (enc := enc) (C := Try.checked) false ⟨#[], #[.agg #[.int .i64 0, .int .i64 0, .int .i64 0, .int .i64 0, .int .i64 0, .int .i64 0], .int .i64 0], []⟩ 8 (by kernel_rfl) (by kernel_rfl) (by kernel_rfl) (by kernel_rfl)) ?_
  intro W base args ds gs before hval0 hW hcnd hsz0 _
  have hsz : (DataW.weightsEach Try.prog (Try.f11.params.toList ++ Rows.galoisExponentsSpec.plain.varTypes Try.prog) (ds ++ gs)).all (· ≤ reachBytes) = true := hsz0
  have hval : ∀ (j : Nat) t v, Try.f11.params[j]? = some t → args[j]? = some v → Value.okWide Try.prog W .any base t v := hval0
  have hW' := hW
  obtain ⟨p, q, hA0, hV, rfl, hfz, hnd⟩ := hW
  have hA : DataW.TrodAll enc Try.prog W 0 (fun _ => true) true Try.f11.params.toList args.toList ds p := hA0
  rw [Try.params11] at hA hval hsz
  obtain ⟨v0, vs0, d0, ds0, p0, q0, hargs, rfl, rfl, h0, r0⟩ := trodAll_cons hA
  obtain ⟨v1, vs1, d1, ds1, p1, q1, rfl, rfl, rfl, h1, r1⟩ := trodAll_cons r0
  obtain ⟨rfl, rfl, rfl⟩ := trodAll_nil r1
  obtain rfl : args = #[v0, v1] := by cases args; simp_all
  obtain ⟨rfl, rfl⟩ := trodVars_none hV
  obtain ⟨a0_0, a0_1, a0_2, a0_3, a0_4, a0_5, rfl, rfl, rfl, w0_0, w0_1, w0_2, w0_3, w0_4, w0_5⟩ := Asks.open_ask (hval 0 32 v0 rfl rfl) h0
  obtain ⟨a1, rfl, rfl, rfl, w1⟩ := open_int Try.underlying3 (hval 1 3 v1 rfl rfl) h1
  clear hA0 hval0 hsz0 hsz
  try simp only [List.append_nil] at hW'
  have gw0_0 := range64 w0_0
  have gw0_1 := range64 w0_1
  have gw0_2 := range64 w0_2
  have gw0_3 := range64 w0_3
  have gw0_4 := range64 w0_4
  have gw0_5 := range64 w0_5
  have gw1 := range64 w1
  obtain ⟨k, hk⟩ := pure_GaloisExponents a0_0 a0_1 a0_2 a0_3 a0_4 a0_5 a1 (by omega)
  refine (barscanlaw04_GaloisExponents.calls k a0_0 a0_1 a0_2 a0_3 a0_4 a0_5 a1 true W hk).mono fun e W' ⟨he, bel⟩ => ?_
  subst he
  exact ⟨_, rfl, _, _, _, [], _, [], hW', trodAll_mk1 (shut_bool Try.underlying4 _), (trodAll_cons_mk (Asks.shut_ask w0_0 w0_1 w0_2 w0_3 w0_4 w0_5) (trodAll_cons_mk (shut_int Try.underlying3 w1) trodAll_mk0)), rfl, bel.frame _, fun h => by cases h⟩
theorem named : Try.pinned.checked.prog.funcNamed Rows.galoisExponentsRow.func = some 11 := by kernel_rfl
theorem j0 : (Rows.galoisExponentsRow.wf (OpenSpec.ofChange Rows.galoisExponentsSpec)) = true := by kernel_rfl
theorem j3 : (Try.f11.params.all (Try.pinned.checked.prog.readableRec ·)) = true := by kernel_rfl
theorem j4 : (namedTie Try.pinned.checked.prog Rows.galoisExponentsRow.named Rows.galoisExponentsSpec.vars) = true := by kernel_rfl
theorem j5 : ((Rows.galoisExponentsRow.stops == [])) = true := by kernel_rfl
theorem j7 : ((Rows.galoisExponentsRow.knobs == [])) = true := by kernel_rfl
theorem j9 : ((Rows.galoisExponentsRow.inPlace == Try.pinned.checked.prog.inPlace 11)) = true := by kernel_rfl
theorem j10 : ((Rows.galoisExponentsRow.unfollowed == Try.pinned.checked.prog.unfollowed 11)) = true := by kernel_rfl
theorem j11 : ((Rows.galoisExponentsRow.recurses == Try.pinned.checked.prog.recurses 11)) = true := by kernel_rfl
theorem j12 : ((Rows.galoisExponentsRow.named == Try.pinned.checked.prog.varsNamed 11)) = true := by kernel_rfl
theorem j13 : ((Rows.galoisExponentsRow.maps == (Try.f11.params.toList ++ Rows.galoisExponentsSpec.plain.varTypes Try.pinned.checked.prog).any (Try.pinned.checked.prog.mapsRec ·))) = true := by kernel_rfl
theorem j14 : ((Rows.galoisExponentsRow.ifaces == (Try.f11.params.toList ++ Rows.galoisExponentsSpec.plain.varTypes Try.pinned.checked.prog).any (Try.pinned.checked.prog.ifacesRec ·))) = true := by kernel_rfl
theorem j15 : ((Rows.galoisExponentsRow.mapsOut == Try.pinned.checked.prog.mapsAmong Try.f11.resultTypes.toList)) = true := by kernel_rfl
theorem j16 : ((Rows.galoisExponentsRow.loops == (Try.f11.params.toList ++ Rows.galoisExponentsSpec.plain.varTypes Try.pinned.checked.prog).any (Try.pinned.checked.prog.loopsFrom ·))) = true := by kernel_rfl
theorem j17 : ((Rows.galoisExponentsRow.wideKeys == (Try.f11.params.toList ++ Rows.galoisExponentsSpec.plain.varTypes Try.pinned.checked.prog ++ Try.f11.resultTypes.toList).any (Try.pinned.checked.prog.wideKeysFrom ·))) = true := by kernel_rfl
theorem j18 : (Rows.galoisExponentsSpec.vars.all (Try.pinned.checked.prog.varReadable ·)) = true := by kernel_rfl
theorem j19 : (Try.f11.resultTypes.all (fun t => Try.pinned.checked.prog.readableRec t && decide (t < Try.pinned.checked.prog.types.size))) = true := by kernel_rfl
theorem j20 : ((Rows.galoisExponentsRow.ifacesOut == Try.f11.resultTypes.toList.any (Try.pinned.checked.prog.ifacesRec ·))) = true := by kernel_rfl
theorem j21 : ((Rows.galoisExponentsRow.loopsOut == Try.f11.resultTypes.toList.any (Try.pinned.checked.prog.loopsFrom ·))) = true := by kernel_rfl
theorem j23 : (Rows.galoisExponentsRow.shortTexts.isNone) = true := by kernel_rfl
theorem j29 : ((Rows.galoisExponentsRow.pinned == Rows.galoisExponentsRow.pinnedBy)) = true := by kernel_rfl
theorem j30 : ((Rows.galoisExponentsRow.veiled == (Try.f11.params.toList ++ Rows.galoisExponentsSpec.plain.varTypes Try.pinned.checked.prog ++ Try.f11.resultTypes.toList).any (Try.pinned.checked.prog.veiledRec ·))) = true := by kernel_rfl
theorem j31 : (Rows.galoisExponentsRow.veiledFits Try.pinned.checked.prog Try.f11.params.toList (Try.f11.params.toList ++ Rows.galoisExponentsSpec.plain.varTypes Try.pinned.checked.prog ++ Try.f11.resultTypes.toList)) = true := by kernel_rfl
theorem joined : joinedFacts Try.pinned.checked.prog 11 Try.f11 Rows.galoisExponentsSpec Rows.galoisExponentsRow = true := by unfold joinedFacts; exact (Facts.andT (Facts.andT (Facts.andT (Facts.andT (Facts.andT (Facts.andT (Facts.andT (Facts.andT (Facts.andT (Facts.andT (Facts.andT (Facts.andT (Facts.andT (Facts.andT (Facts.andT (Facts.andT (Facts.andT (Facts.andT (Facts.andT (Facts.andT (Facts.andT (Facts.andT (Facts.andT (Facts.andT (Facts.andT (Facts.andT (Facts.andT (Facts.andT (Facts.andT (Facts.andT (Facts.andT j0 Facts.laidOut) Facts.mapsRowed) j3) j4) j5) Facts.stops) j7) Facts.stopKnobs) j9) j10) j11) j12) j13) j14) j15) j16) j17) j18) j19) j20) j21) Facts.plainKeys) j23) Facts.stopsHeard) Facts.mayEnter) Facts.lifted) Facts.make) (by kernel_rfl)) j29) j30) j31)
theorem inst : Try.f11.isInstance Try.pinned.checked.prog Rows.galoisExponentsRow.origin Rows.galoisExponentsRow.targs := of_decide_eq_true (by kernel_rfl)
theorem wrapper : Try.f11.isWrapper Try.pinned.checked.prog Rows.galoisExponentsRow.wrapper Rows.galoisExponentsRow.mainSum := by unfold Func.isWrapper; first | (rw [if_pos (by decide +kernel)]; kernel_rfl) | (rw [if_neg (by decide +kernel)]; exact ⟨rfl, rfl⟩)
theorem over : Rows.galoisExponentsRow.holds Try.pinned (OpenSpec.ofChange Rows.galoisExponentsSpec) :=
  OpenClaim.holds_of_wide 11 Try.f11 rfl rfl rfl rfl rfl rfl rfl ⟨rfl, rfl, rfl, rfl, rfl⟩ rfl rfl rfl rfl rfl named Try.func11 joined
    inst wrapper
    (fun os started H enc _ => lifted os started H enc)
theorem proved : Rows.GaloisExponentsSaid := over
#print axioms proved
end Go.Proofs.Ytlhaclammaaabaa.galoisExponents
namespace Go.Proofs.Ytlhaclammaaabaa
/-- GaloisExponents, under a short name, for the claim. -/
theorem galoisExponents_holds : Rows.GaloisExponentsSaid := galoisExponents.proved
end Go.Proofs.Ytlhaclammaaabaa
