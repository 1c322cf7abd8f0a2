/- GaloisField: the law answers true at every input, and the input reads as it did. No conditions. -/
import Derived.Test.YtlhaclammaaabaaFacts
import Derived.Test.YtlhaclammaaabaaPair
import Derived.Test.YtlhaclammaaabaaLFld
import Derived.WalkKit
import Derived.ProofKit
import Derived.OpenShut
import Derived.ShutString
import Derived.ChangeOld
import Derived.Below
import Derived.SizedLaws
import Derived.Lib.SmallJoins
namespace Go.Proofs.Ytlhaclammaaabaa.galoisField
open Go.Joins Go.ChangeShapes Go.WideShapes Go.ChangeAt Go.RowKit Go.Proofs.Ytlhaclammaaabaa.Pg
set_option linter.unusedVariables false
set_option linter.unusedSimpArgs false
theorem own : ownKnob Try.prog.godebug = none := by kernel_rfl
theorem range64 {n : Int} (h : (Lit.int .i64 n).wf = true) : -9223372036854775808 ≤ n ∧ n < 9223372036854775808 := by
  simp [Lit.wf, IntKind.min, IntKind.max, IntKind.bits, IntKind.signed] at h
  omega
theorem fld {H : Type} {enc : TypeId × Value → H} {W : World} {b : Nat} {sp : Nat → Bool} {n : Int} (h : (Lit.int .i64 n).wf = true) : ∃ m, DataW.trod enc Try.prog W b sp true m 3 [.int .i64 n] = some (.lit (.int .i64 n), []) := ⟨1, by simp [DataW.trod, Try.underlying3, h]⟩
theorem cells23 : Try.prog.cellsOf 23 = 3 := by kernel_rfl
set_option maxRecDepth 100000 in
theorem lifted (os : Os) (started : os.Started) (H : Type) (enc : TypeId × Value → H) :
    ReturnsInHanded {} Try.checked os 6 .any (Rows.galoisFieldSpec.pre6 enc Try.prog Try.f6 Rows.galoisFieldRow.domain false) (Rows.galoisFieldSpec.post enc Try.prog Try.f6 false true false false) := by
  refine returnsInHanded_of_change_sized (C := Try.checked) own started (by kernel_rfl) Try.func6
    (ChangeSpec.witness6 (enc := enc) (C := Try.checked) false ⟨#[], #[.agg #[.int .i64 0, .int .i64 0, .int .i64 0], .agg #[.int .i64 0, .int .i64 0], .agg #[.int .i64 0, .int .i64 0]], []⟩ 8 (by kernel_rfl) (by kernel_rfl) (by kernel_rfl) (by kernel_rfl)) ?_
  intro W base args ds gs before hval0 hW hcnd hsz0 _
  have hsz : (DataW.weightsEach Try.prog (Try.f6.params.toList ++ Rows.galoisFieldSpec.plain.varTypes Try.prog) (ds ++ gs)).all (· ≤ reachBytes) = true := hsz0
  have hval : ∀ (j : Nat) t v, Try.f6.params[j]? = some t → args[j]? = some v → Value.okWide Try.prog W .any base t v := hval0
  have hW' := hW
  obtain ⟨p, q, hA0, hV, rfl, hfz, hnd⟩ := hW
  have hA : DataW.TrodAll enc Try.prog W 0 (fun _ => true) true Try.f6.params.toList args.toList ds p := hA0
  rw [Try.params6] at hA hval hsz
  obtain ⟨v0, vs0, d0, ds0, p0, q0, hargs, rfl, rfl, h0, r0⟩ := trodAll_cons hA
  obtain ⟨v1, vs1, d1, ds1, p1, q1, rfl, rfl, rfl, h1, r1⟩ := trodAll_cons r0
  obtain ⟨v2, vs2, d2, ds2, p2, q2, rfl, rfl, rfl, h2, r2⟩ := trodAll_cons r1
  obtain ⟨rfl, rfl, rfl⟩ := trodAll_nil r2
  obtain rfl : args = #[v0, v1, v2] := by cases args; simp_all
  obtain ⟨rfl, rfl⟩ := trodVars_none hV
  obtain ⟨c00, c01, c02, y00, y01, y02, m0, rfl, rfl, rfl, hy00, hy01, hy02⟩ := open_agg3 Try.underlying23 (by kernel_rfl) cells23 (hval 0 23 v0 rfl rfl) h0
  obtain ⟨a0_0, e00, rfl, w0_0⟩ := DataW.trod_int Try.underlying3 hy00
  obtain ⟨a0_1, e01, rfl, w0_1⟩ := DataW.trod_int Try.underlying3 hy01
  obtain ⟨a0_2, e02, rfl, w0_2⟩ := DataW.trod_int Try.underlying3 hy02
  simp at e00 e01 e02
  subst e00 e01 e02
  obtain ⟨a1_0, a1_1, rfl, rfl, rfl, w1_0, w1_1⟩ := Pairs.open_pair (hval 1 38 v1 rfl rfl) h1
  obtain ⟨a2_0, a2_1, rfl, rfl, rfl, w2_0, w2_1⟩ := Pairs.open_pair (hval 2 38 v2 rfl rfl) h2
  clear hA0 hval0 hsz0 hsz
  try simp only [List.append_nil] at hW'
  have gw0_0 := range64 w0_0
  have gw0_1 := range64 w0_1
  have gw0_2 := range64 w0_2
  have gw1_0 := range64 w1_0
  have gw1_1 := range64 w1_1
  have gw2_0 := range64 w2_0
  have gw2_1 := range64 w2_1
  obtain ⟨k, hk⟩ := pure_GaloisField a0_0 a0_1 a0_2 a1_0 a1_1 a2_0 a2_1 (by omega)
  refine (barscanlaw04_GaloisField.calls k a0_0 a0_1 a0_2 a1_0 a1_1 a2_0 a2_1 true W hk).mono fun e W' ⟨he, bel⟩ => ?_
  subst he
  exact ⟨_, rfl, _, _, _, [], _, [], hW', trodAll_mk1 (shut_bool Try.underlying4 _), (trodAll_cons_mk (shut_agg3 (y0 := (.lit (.int .i64 a0_0), [])) (y1 := (.lit (.int .i64 a0_1), [])) (y2 := (.lit (.int .i64 a0_2), [])) Try.underlying23 (by kernel_rfl) cells23 (fld w0_0) (fld w0_1) (fld w0_2)) (trodAll_cons_mk (Pairs.shut_pair w1_0 w1_1) (trodAll_cons_mk (Pairs.shut_pair w2_0 w2_1) trodAll_mk0))), rfl, bel.frame _, fun h => by cases h⟩
theorem named : Try.pinned.checked.prog.funcNamed Rows.galoisFieldRow.func = some 6 := by kernel_rfl
theorem j0 : (Rows.galoisFieldRow.wf (OpenSpec.ofChange Rows.galoisFieldSpec)) = true := by kernel_rfl
theorem j3 : (Try.f6.params.all (Try.pinned.checked.prog.readableRec ·)) = true := by kernel_rfl
theorem j4 : (namedTie Try.pinned.checked.prog Rows.galoisFieldRow.named Rows.galoisFieldSpec.vars) = true := by kernel_rfl
theorem j5 : ((Rows.galoisFieldRow.stops == [])) = true := by kernel_rfl
theorem j7 : ((Rows.galoisFieldRow.knobs == [])) = true := by kernel_rfl
theorem j9 : ((Rows.galoisFieldRow.inPlace == Try.pinned.checked.prog.inPlace 6)) = true := by kernel_rfl
theorem j10 : ((Rows.galoisFieldRow.unfollowed == Try.pinned.checked.prog.unfollowed 6)) = true := by kernel_rfl
theorem j11 : ((Rows.galoisFieldRow.recurses == Try.pinned.checked.prog.recurses 6)) = true := by kernel_rfl
theorem j12 : ((Rows.galoisFieldRow.named == Try.pinned.checked.prog.varsNamed 6)) = true := by kernel_rfl
theorem j13 : ((Rows.galoisFieldRow.maps == (Try.f6.params.toList ++ Rows.galoisFieldSpec.plain.varTypes Try.pinned.checked.prog).any (Try.pinned.checked.prog.mapsRec ·))) = true := by kernel_rfl
theorem j14 : ((Rows.galoisFieldRow.ifaces == (Try.f6.params.toList ++ Rows.galoisFieldSpec.plain.varTypes Try.pinned.checked.prog).any (Try.pinned.checked.prog.ifacesRec ·))) = true := by kernel_rfl
theorem j15 : ((Rows.galoisFieldRow.mapsOut == Try.pinned.checked.prog.mapsAmong Try.f6.resultTypes.toList)) = true := by kernel_rfl
theorem j16 : ((Rows.galoisFieldRow.loops == (Try.f6.params.toList ++ Rows.galoisFieldSpec.plain.varTypes Try.pinned.checked.prog).any (Try.pinned.checked.prog.loopsFrom ·))) = true := by kernel_rfl
theorem j17 : ((Rows.galoisFieldRow.wideKeys == (Try.f6.params.toList ++ Rows.galoisFieldSpec.plain.varTypes Try.pinned.checked.prog ++ Try.f6.resultTypes.toList).any (Try.pinned.checked.prog.wideKeysFrom ·))) = true := by kernel_rfl
theorem j18 : (Rows.galoisFieldSpec.vars.all (Try.pinned.checked.prog.varReadable ·)) = true := by kernel_rfl
theorem j19 : (Try.f6.resultTypes.all (fun t => Try.pinned.checked.prog.readableRec t && decide (t < Try.pinned.checked.prog.types.size))) = true := by kernel_rfl
theorem j20 : ((Rows.galoisFieldRow.ifacesOut == Try.f6.resultTypes.toList.any (Try.pinned.checked.prog.ifacesRec ·))) = true := by kernel_rfl
theorem j21 : ((Rows.galoisFieldRow.loopsOut == Try.f6.resultTypes.toList.any (Try.pinned.checked.prog.loopsFrom ·))) = true := by kernel_rfl
theorem j23 : (Rows.galoisFieldRow.shortTexts.isNone) = true := by kernel_rfl
theorem j29 : ((Rows.galoisFieldRow.pinned == Rows.galoisFieldRow.pinnedBy)) = true := by kernel_rfl
theorem j30 : ((Rows.galoisFieldRow.veiled == (Try.f6.params.toList ++ Rows.galoisFieldSpec.plain.varTypes Try.pinned.checked.prog ++ Try.f6.resultTypes.toList).any (Try.pinned.checked.prog.veiledRec ·))) = true := by kernel_rfl
theorem j31 : (Rows.galoisFieldRow.veiledFits Try.pinned.checked.prog Try.f6.params.toList (Try.f6.params.toList ++ Rows.galoisFieldSpec.plain.varTypes Try.pinned.checked.prog ++ Try.f6.resultTypes.toList)) = true := by kernel_rfl
theorem joined : joinedFacts Try.pinned.checked.prog 6 Try.f6 Rows.galoisFieldSpec Rows.galoisFieldRow = true := by unfold joinedFacts; exact (Facts.andT (Facts.andT (Facts.andT (Facts.andT (Facts.andT (Facts.andT (Facts.andT (Facts.andT (Facts.andT (Facts.andT (Facts.andT (Facts.andT (Facts.andT (Facts.andT (Facts.andT (Facts.andT (Facts.andT (Facts.andT (Facts.andT (Facts.andT (Facts.andT (Facts.andT (Facts.andT (Facts.andT (Facts.andT (Facts.andT (Facts.andT (Facts.andT (Facts.andT (Facts.andT (Facts.andT j0 Facts.laidOut) Facts.mapsRowed) j3) j4) j5) Facts.stops) j7) Facts.stopKnobs) j9) j10) j11) j12) j13) j14) j15) j16) j17) j18) j19) j20) j21) Facts.plainKeys) j23) Facts.stopsHeard) Facts.mayEnter) Facts.lifted) Facts.make) (by kernel_rfl)) j29) j30) j31)
theorem inst : Try.f6.isInstance Try.pinned.checked.prog Rows.galoisFieldRow.origin Rows.galoisFieldRow.targs := of_decide_eq_true (by kernel_rfl)
theorem wrapper : Try.f6.isWrapper Try.pinned.checked.prog Rows.galoisFieldRow.wrapper Rows.galoisFieldRow.mainSum := by unfold Func.isWrapper; first | (rw [if_pos (by decide +kernel)]; kernel_rfl) | (rw [if_neg (by decide +kernel)]; exact ⟨rfl, rfl⟩)
theorem over : Rows.galoisFieldRow.holds Try.pinned (OpenSpec.ofChange Rows.galoisFieldSpec) :=
  OpenClaim.holds_of_wide 6 Try.f6 rfl rfl rfl rfl rfl rfl rfl ⟨rfl, rfl, rfl, rfl, rfl⟩ rfl rfl rfl rfl rfl named Try.func6 joined
    inst wrapper
    (fun os started H enc _ => lifted os started H enc)
theorem proved : Rows.GaloisFieldSaid := over
#print axioms proved
end Go.Proofs.Ytlhaclammaaabaa.galoisField
namespace Go.Proofs.Ytlhaclammaaabaa
/-- GaloisField, under a short name, for the claim. -/
theorem galoisField_holds : Rows.GaloisFieldSaid := galoisField.proved
end Go.Proofs.Ytlhaclammaaabaa
