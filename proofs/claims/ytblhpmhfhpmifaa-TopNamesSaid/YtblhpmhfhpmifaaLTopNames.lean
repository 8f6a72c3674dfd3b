/- TopNames: for every input the law's call returns true, and each argument reads as it did. No condition. -/
import Derived.Test.YtblhpmhfhpmifaaW2
set_option linter.unusedVariables false
set_option linter.unusedSimpArgs false
namespace Go.Proofs.Ytblhpmhfhpmifaa.topNames
open Go.Aw Go.ChangeShapes Go.WideShapes Go.ChangeAt Go.RowKit
set_option linter.unusedVariables false
set_option maxRecDepth 100000
theorem contract (H : Type) (enc : TypeId × Value → H) (W : World) (base : Nat) (args : Array Value) (ds gs : List (DataW H)) (before : List MemPlace)
    (hval : ∀ (j : Nat) t v, Try.f13.params[j]? = some t → args[j]? = some v → Value.okWide Try.prog W .any base t v)
    (hW : DataW.Whole enc Try.prog Try.f13.params.toList Rows.topNamesSpec.vars false W args.toList ds gs before)
    (hz : (DataW.weightsEach Try.prog (Try.f13.params.toList ++ Rows.topNamesSpec.plain.varTypes Try.prog) (ds ++ gs)).all (· ≤ reachBytes) = true) :
    Calls Try.prog 13 args W fun e W' => ∃ v, e = .returned v ∧ Rows.topNamesSpec.post enc Try.prog Try.f13 false true false false W args v W' := by
  have hW' := hW
  obtain ⟨p, q, hA0, hV, rfl, hfz, hnd⟩ := hW
  have hA : DataW.TrodAll enc Try.prog W 0 (fun _ => true) true Try.f13.params.toList args.toList ds p := hA0
  rw [Try.params13] at hA hval hz
  obtain ⟨v0, vs0, d0, ds0, p0, q0, hargs, rfl, rfl, h0, r0⟩ := trodAll_cons hA
  obtain ⟨v1, vs1, d1, ds1, p1, q1, rfl, rfl, rfl, h1, r1⟩ := trodAll_cons r0
  obtain ⟨v2, vs2, d2, ds2, p2, q2, rfl, rfl, rfl, h2, r2⟩ := trodAll_cons r1
  obtain ⟨rfl, rfl, rfl⟩ := trodAll_nil r2
  obtain rfl : args = #[v0, v1, v2] := by cases args; simp_all
  obtain ⟨rfl, rfl⟩ := trodVars_none hV
  obtain ⟨n0, ha0, hl0⟩ := arg_int (hval 0 3 v0 rfl rfl) h0
  obtain ⟨n1, ha1, hl1⟩ := arg_int (hval 1 3 v1 rfl rfl) h1
  obtain ⟨o2, ha2, hl2⟩ := arg_ors (hval 2 63 v2 rfl rfl) h2
  have hn2 := ors_len hz (j := 2) rfl rfl hl2
  refine (law_calls (lTopNames_spec n0 n1 o2 hl0 hl1 hn2) W (pGl W) [v0, v1, v2] (argsOK_cons ha0 (argsOK_cons ha1 (argsOK_cons ha2 (argsOK_nil _ _))))).mono fun e W' ⟨he, hB⟩ => ?_
  exact ⟨_, he, law_post rfl rfl (by rw [Try.params13]; decide) hW' ⟨rfl, rfl, rfl⟩ hB⟩
theorem lifted (os : Os) (started : os.Started) (H : Type) (enc : TypeId × Value → H) :
    ReturnsInHanded {} Try.checked os 13 .any (Rows.topNamesSpec.pre6 enc Try.prog Try.f13 Rows.topNamesRow.domain false) (Rows.topNamesSpec.post enc Try.prog Try.f13 false true false false) := by
  refine returnsInHanded_of_change_sized (C := Try.checked) pOwn started (by kernel_rfl) Try.func13
    (ChangeSpec.witness6 (enc := enc) (C := Try.checked) false ⟨#[], #[.int .i64 0, .int .i64 0, .slice none 0 0], []⟩ 8 (by kernel_rfl) (by kernel_rfl) (by kernel_rfl) (by kernel_rfl)) ?_
  intro W base args ds gs before hval hW _ hz _
  exact contract H enc W base args ds gs before hval hW hz
theorem k1 : Rows.topNamesRow.wf (OpenSpec.ofChange Rows.topNamesSpec) = true := by kernel_rfl
theorem k4 : Try.f13.params.all (Try.prog.readableRec ·) = true := by kernel_rfl
theorem k5 : namedTie Try.prog Rows.topNamesRow.named Rows.topNamesSpec.vars = true := by kernel_rfl
theorem k6 : (Rows.topNamesRow.stops == []) = true := by kernel_rfl
theorem k8 : (Rows.topNamesRow.knobs == []) = true := by kernel_rfl
theorem k10 : (Rows.topNamesRow.inPlace == Try.prog.inPlace 13) = true := by kernel_rfl
theorem k11 : (Rows.topNamesRow.unfollowed == Try.prog.unfollowed 13) = true := by kernel_rfl
theorem k12 : (Rows.topNamesRow.recurses == Try.prog.recurses 13) = true := by kernel_rfl
theorem k13 : (Rows.topNamesRow.named == Try.prog.varsNamed 13) = true := by kernel_rfl
theorem k14 : (Rows.topNamesRow.maps == (Try.f13.params.toList ++ Rows.topNamesSpec.plain.varTypes Try.prog).any (Try.prog.mapsRec ·)) = true := by kernel_rfl
theorem k15 : (Rows.topNamesRow.ifaces == (Try.f13.params.toList ++ Rows.topNamesSpec.plain.varTypes Try.prog).any (Try.prog.ifacesRec ·)) = true := by kernel_rfl
theorem k16 : (Rows.topNamesRow.mapsOut == Try.prog.mapsAmong Try.f13.resultTypes.toList) = true := by kernel_rfl
theorem k17 : (Rows.topNamesRow.loops == (Try.f13.params.toList ++ Rows.topNamesSpec.plain.varTypes Try.prog).any (Try.prog.loopsFrom ·)) = true := by kernel_rfl
theorem k17b : (Rows.topNamesRow.wideKeys == (Try.f13.params.toList ++ Rows.topNamesSpec.plain.varTypes Try.prog ++ Try.f13.resultTypes.toList).any (Try.prog.wideKeysFrom ·)) = true := by kernel_rfl
theorem k18 : Rows.topNamesSpec.vars.all (Try.prog.varReadable ·) = true := by kernel_rfl
theorem k19 : Try.f13.resultTypes.all (fun t => Try.prog.readableRec t && decide (t < Try.prog.types.size)) = true := by kernel_rfl
theorem k20 : (Rows.topNamesRow.ifacesOut == Try.f13.resultTypes.toList.any (Try.prog.ifacesRec ·)) = true := by kernel_rfl
theorem k21 : (Rows.topNamesRow.loopsOut == Try.f13.resultTypes.toList.any (Try.prog.loopsFrom ·)) = true := by kernel_rfl
theorem k22 : (Rows.topNamesRow.plainKeys == Try.prog.plainKeys) = true := by kernel_rfl
theorem k23 : Rows.topNamesRow.shortTexts.isNone = true := by kernel_rfl
theorem k24b : (Rows.topNamesRow.lifted == Try.prog.liftsFinal) = true := by rw [pFinal]; kernel_rfl
theorem k24c : (Try.prog.make == some Rows.topNamesRow.make) = true := by rw [pMake]; kernel_rfl
theorem k25 : (Rows.topNamesRow.kinds == (if Rows.topNamesRow.domain.isEmpty then [] else Try.f13.params.toList.map fun t => match Try.prog.underlying t with | some (.int k) => some k | _ => none)) = true := by kernel_rfl
theorem k26 : (Rows.topNamesRow.pinned == Rows.topNamesRow.pinnedBy) = true := by kernel_rfl
theorem k27 : (Rows.topNamesRow.veiled == (Try.f13.params.toList ++ Rows.topNamesSpec.plain.varTypes Try.prog ++ Try.f13.resultTypes.toList).any (Try.prog.veiledRec ·)) = true := by kernel_rfl
theorem k28 : Rows.topNamesRow.veiledFits Try.prog Try.f13.params.toList (Try.f13.params.toList ++ Rows.topNamesSpec.plain.varTypes Try.prog ++ Try.f13.resultTypes.toList) = true := by kernel_rfl
theorem closed : joinedFacts Try.prog 13 Try.f13 Rows.topNamesSpec Rows.topNamesRow = true := by
  unfold joinedFacts
  exact (andB (andB (andB (andB (andB (andB (andB (andB (andB (andB (andB (andB (andB (andB (andB (andB (andB (andB (andB (andB (andB (andB (andB (andB (andB (andB (andB (andB (andB (andB (andB k1 pLaid) pRowed) k4) k5) k6) pStops) k8) pKnobs) k10) k11) k12) k13) k14) k15) k16) k17) k17b) k18) k19) k20) k21) k22) k23) pHeard) pEnter) k24b) k24c) k25) k26) k27) k28)
theorem named : Try.prog.funcNamed Rows.topNamesRow.func = some 13 := by kernel_rfl
theorem inst : Try.f13.isInstance Try.prog Rows.topNamesRow.origin Rows.topNamesRow.targs := of_decide_eq_true (by kernel_rfl)
theorem wrap : Try.f13.isWrapper Try.prog Rows.topNamesRow.wrapper Rows.topNamesRow.mainSum := by unfold Func.isWrapper; first | (rw [if_pos (by decide +kernel)]; kernel_rfl) | (rw [if_neg (by decide +kernel)]; exact ⟨rfl, rfl⟩)
theorem proved : Rows.TopNamesSaid :=
  OpenClaim.holds_of_wide 13 Try.f13 rfl rfl rfl rfl rfl rfl rfl ⟨rfl, rfl, rfl, rfl, rfl⟩ rfl rfl rfl rfl rfl named Try.func13 closed inst wrap (fun os started H enc _ => lifted os started H enc)
end Go.Proofs.Ytblhpmhfhpmifaa.topNames
