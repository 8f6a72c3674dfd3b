/- TopHalves: for every input the law's call returns true, and each argument reads as it did. No condition. -/
import Derived.Test.YtblhpmhfhpmifabW2
set_option linter.unusedVariables false
set_option linter.unusedSimpArgs false
namespace Go.Proofs.Ytblhpmhfhpmifab.topHalves
open Go.Aw Go.ChangeShapes Go.WideShapes Go.ChangeAt Go.RowKit
set_option linter.unusedVariables false
set_option maxRecDepth 100000
theorem contract (H : Type) (enc : TypeId × Value → H) (W : World) (base : Nat) (args : Array Value) (ds gs : List (DataW H)) (before : List MemPlace)
    (hval : ∀ (j : Nat) t v, Try.f4.params[j]? = some t → args[j]? = some v → Value.okWide Try.prog W .any base t v)
    (hW : DataW.Whole enc Try.prog Try.f4.params.toList Rows.topHalvesSpec.vars false W args.toList ds gs before)
    (hz : (DataW.weightsEach Try.prog (Try.f4.params.toList ++ Rows.topHalvesSpec.plain.varTypes Try.prog) (ds ++ gs)).all (· ≤ reachBytes) = true) :
    Calls Try.prog 4 args W fun e W' => ∃ v, e = .returned v ∧ Rows.topHalvesSpec.post enc Try.prog Try.f4 false true false false W args v W' := by
  have hW' := hW
  obtain ⟨p, q, hA0, hV, rfl, hfz, hnd⟩ := hW
  have hA : DataW.TrodAll enc Try.prog W 0 (fun _ => true) true Try.f4.params.toList args.toList ds p := hA0
  rw [Try.params4] at hA hval hz
  obtain ⟨v0, vs0, d0, ds0, p0, q0, hargs, rfl, rfl, h0, r0⟩ := trodAll_cons hA
  obtain ⟨v1, vs1, d1, ds1, p1, q1, rfl, rfl, rfl, h1, r1⟩ := trodAll_cons r0
  obtain ⟨rfl, rfl, rfl⟩ := trodAll_nil r1
  obtain rfl : args = #[v0, v1] := by cases args; simp_all
  obtain ⟨rfl, rfl⟩ := trodVars_none hV
  obtain ⟨n0, ha0, hl0⟩ := arg_int (hval 0 3 v0 rfl rfl) h0
  obtain ⟨l1, ha1, hl1⟩ := arg_lines (hval 1 22 v1 rfl rfl) h1
  have hn1 := lines_len hz (j := 1) rfl rfl hl1
  refine (law_calls (lTopHalves_spec n0 l1 hl0 hn1) W (pGl W) [v0, v1] (argsOK_cons ha0 (argsOK_cons ha1 (argsOK_nil _ _)))).mono fun e W' ⟨he, hB⟩ => ?_
  exact ⟨_, he, law_post rfl rfl (by rw [Try.params4]; decide) hW' ⟨rfl, rfl, rfl⟩ hB⟩
theorem lifted (os : Os) (started : os.Started) (H : Type) (enc : TypeId × Value → H) :
    ReturnsInHanded {} Try.checked os 4 .any (Rows.topHalvesSpec.pre6 enc Try.prog Try.f4 Rows.topHalvesRow.domain false) (Rows.topHalvesSpec.post enc Try.prog Try.f4 false true false false) := by
  refine returnsInHanded_of_change_sized (C := Try.checked) pOwn started (by kernel_rfl) Try.func4
    (ChangeSpec.witness6 (enc := enc) (C := Try.checked) false ⟨#[], #[.int .i64 0, .slice none 0 0], []⟩ 8 (by kernel_rfl) (by kernel_rfl) (by kernel_rfl) (by kernel_rfl)) ?_
  intro W base args ds gs before hval hW _ hz _
  exact contract H enc W base args ds gs before hval hW hz
theorem k1 : Rows.topHalvesRow.wf (OpenSpec.ofChange Rows.topHalvesSpec) = true := by kernel_rfl
theorem k4 : Try.f4.params.all (Try.prog.readableRec ·) = true := by kernel_rfl
theorem k5 : namedTie Try.prog Rows.topHalvesRow.named Rows.topHalvesSpec.vars = true := by kernel_rfl
theorem k6 : (Rows.topHalvesRow.stops == []) = true := by kernel_rfl
theorem k8 : (Rows.topHalvesRow.knobs == []) = true := by kernel_rfl
theorem k10 : (Rows.topHalvesRow.inPlace == Try.prog.inPlace 4) = true := by kernel_rfl
theorem k11 : (Rows.topHalvesRow.unfollowed == Try.prog.unfollowed 4) = true := by kernel_rfl
theorem k12 : (Rows.topHalvesRow.recurses == Try.prog.recurses 4) = true := by kernel_rfl
theorem k13 : (Rows.topHalvesRow.named == Try.prog.varsNamed 4) = true := by kernel_rfl
theorem k14 : (Rows.topHalvesRow.maps == (Try.f4.params.toList ++ Rows.topHalvesSpec.plain.varTypes Try.prog).any (Try.prog.mapsRec ·)) = true := by kernel_rfl
theorem k15 : (Rows.topHalvesRow.ifaces == (Try.f4.params.toList ++ Rows.topHalvesSpec.plain.varTypes Try.prog).any (Try.prog.ifacesRec ·)) = true := by kernel_rfl
theorem k16 : (Rows.topHalvesRow.mapsOut == Try.prog.mapsAmong Try.f4.resultTypes.toList) = true := by kernel_rfl
theorem k17 : (Rows.topHalvesRow.loops == (Try.f4.params.toList ++ Rows.topHalvesSpec.plain.varTypes Try.prog).any (Try.prog.loopsFrom ·)) = true := by kernel_rfl
theorem k17b : (Rows.topHalvesRow.wideKeys == (Try.f4.params.toList ++ Rows.topHalvesSpec.plain.varTypes Try.prog ++ Try.f4.resultTypes.toList).any (Try.prog.wideKeysFrom ·)) = true := by kernel_rfl
theorem k18 : Rows.topHalvesSpec.vars.all (Try.prog.varReadable ·) = true := by kernel_rfl
theorem k19 : Try.f4.resultTypes.all (fun t => Try.prog.readableRec t && decide (t < Try.prog.types.size)) = true := by kernel_rfl
theorem k20 : (Rows.topHalvesRow.ifacesOut == Try.f4.resultTypes.toList.any (Try.prog.ifacesRec ·)) = true := by kernel_rfl
theorem k21 : (Rows.topHalvesRow.loopsOut == Try.f4.resultTypes.toList.any (Try.prog.loopsFrom ·)) = true := by kernel_rfl
theorem k22 : (Rows.topHalvesRow.plainKeys == Try.prog.plainKeys) = true := by kernel_rfl
theorem k23 : Rows.topHalvesRow.shortTexts.isNone = true := by kernel_rfl
theorem k24b : (Rows.topHalvesRow.lifted == Try.prog.liftsFinal) = true := by rw [pFinal]; kernel_rfl
theorem k24c : (Try.prog.make == some Rows.topHalvesRow.make) = true := by rw [pMake]; kernel_rfl
theorem k25 : (Rows.topHalvesRow.kinds == (if Rows.topHalvesRow.domain.isEmpty then [] else Try.f4.params.toList.map fun t => match Try.prog.underlying t with | some (.int k) => some k | _ => none)) = true := by kernel_rfl
theorem k26 : (Rows.topHalvesRow.pinned == Rows.topHalvesRow.pinnedBy) = true := by kernel_rfl
theorem k27 : (Rows.topHalvesRow.veiled == (Try.f4.params.toList ++ Rows.topHalvesSpec.plain.varTypes Try.prog ++ Try.f4.resultTypes.toList).any (Try.prog.veiledRec ·)) = true := by kernel_rfl
theorem k28 : Rows.topHalvesRow.veiledFits Try.prog Try.f4.params.toList (Try.f4.params.toList ++ Rows.topHalvesSpec.plain.varTypes Try.prog ++ Try.f4.resultTypes.toList) = true := by kernel_rfl
theorem closed : joinedFacts Try.prog 4 Try.f4 Rows.topHalvesSpec Rows.topHalvesRow = true := by
  unfold joinedFacts
  exact (andB (andB (andB (andB (andB (andB (andB (andB (andB (andB (andB (andB (andB (andB (andB (andB (andB (andB (andB (andB (andB (andB (andB (andB (andB (andB (andB (andB (andB (andB (andB k1 pLaid) pRowed) k4) k5) k6) pStops) k8) pKnobs) k10) k11) k12) k13) k14) k15) k16) k17) k17b) k18) k19) k20) k21) k22) k23) pHeard) pEnter) k24b) k24c) k25) k26) k27) k28)
theorem named : Try.prog.funcNamed Rows.topHalvesRow.func = some 4 := by kernel_rfl
theorem inst : Try.f4.isInstance Try.prog Rows.topHalvesRow.origin Rows.topHalvesRow.targs := of_decide_eq_true (by kernel_rfl)
theorem wrap : Try.f4.isWrapper Try.prog Rows.topHalvesRow.wrapper Rows.topHalvesRow.mainSum := by unfold Func.isWrapper; first | (rw [if_pos (by decide +kernel)]; kernel_rfl) | (rw [if_neg (by decide +kernel)]; exact ⟨rfl, rfl⟩)
theorem proved : Rows.TopHalvesSaid :=
  OpenClaim.holds_of_wide 4 Try.f4 rfl rfl rfl rfl rfl rfl rfl ⟨rfl, rfl, rfl, rfl, rfl⟩ rfl rfl rfl rfl rfl named Try.func4 closed inst wrap (fun os started H enc _ => lifted os started H enc)
end Go.Proofs.Ytblhpmhfhpmifab.topHalves
