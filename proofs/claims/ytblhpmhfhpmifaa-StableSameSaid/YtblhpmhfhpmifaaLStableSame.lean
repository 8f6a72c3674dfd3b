/- StableSame: for every input the law's call returns true, and each argument reads as it did. No condition. -/
import Derived.Test.YtblhpmhfhpmifaaW3
set_option linter.unusedVariables false
set_option linter.unusedSimpArgs false
namespace Go.Proofs.Ytblhpmhfhpmifaa.stableSame
open Go.Aw Go.ChangeShapes Go.WideShapes Go.ChangeAt Go.RowKit
set_option linter.unusedVariables false
set_option maxRecDepth 100000
theorem contract (H : Type) (enc : TypeId × Value → H) (W : World) (base : Nat) (args : Array Value) (ds gs : List (DataW H)) (before : List MemPlace)
    (hval : ∀ (j : Nat) t v, Try.f14.params[j]? = some t → args[j]? = some v → Value.okWide Try.prog W .any base t v)
    (hW : DataW.Whole enc Try.prog Try.f14.params.toList Rows.stableSameSpec.vars false W args.toList ds gs before)
    (hz : (DataW.weightsEach Try.prog (Try.f14.params.toList ++ Rows.stableSameSpec.plain.varTypes Try.prog) (ds ++ gs)).all (· ≤ reachBytes) = true) :
    Calls Try.prog 14 args W fun e W' => ∃ v, e = .returned v ∧ Rows.stableSameSpec.post enc Try.prog Try.f14 false true false false W args v W' := by
  have hW' := hW
  obtain ⟨p, q, hA0, hV, rfl, hfz, hnd⟩ := hW
  have hA : DataW.TrodAll enc Try.prog W 0 (fun _ => true) true Try.f14.params.toList args.toList ds p := hA0
  rw [Try.params14] at hA hval hz
  obtain ⟨v0, vs0, d0, ds0, p0, q0, hargs, rfl, rfl, h0, r0⟩ := trodAll_cons hA
  obtain ⟨v1, vs1, d1, ds1, p1, q1, rfl, rfl, rfl, h1, r1⟩ := trodAll_cons r0
  obtain ⟨v2, vs2, d2, ds2, p2, q2, rfl, rfl, rfl, h2, r2⟩ := trodAll_cons r1
  obtain ⟨rfl, rfl, rfl⟩ := trodAll_nil r2
  obtain rfl : args = #[v0, v1, v2] := by cases args; simp_all
  obtain ⟨rfl, rfl⟩ := trodVars_none hV
  obtain ⟨r0, ha0, hl0⟩ := arg_rows (hval 0 44 v0 rfl rfl) h0
  have hn0 := rows_len hz (j := 0) rfl rfl hl0
  obtain ⟨r1, ha1, hl1⟩ := arg_rows (hval 1 44 v1 rfl rfl) h1
  have hn1 := rows_len hz (j := 1) rfl rfl hl1
  obtain ⟨x2, ha2, hl2⟩ := arg_ints (hval 2 28 v2 rfl rfl) h2
  have hn2 := ints_len hz (j := 2) rfl rfl hl2
  refine (law_calls (lStableSame_spec r0 r1 x2 hn0 hn1 hn2) W [v0, v1, v2] (argsOK_cons ha0 (argsOK_cons ha1 (argsOK_cons ha2 (argsOK_nil _ _))))).mono fun e W' ⟨he, hB⟩ => ?_
  exact ⟨_, he, law_post rfl rfl (by rw [Try.params14]; decide) hW' ⟨rfl, rfl, rfl⟩ hB⟩
theorem lifted (os : Os) (started : os.Started) (H : Type) (enc : TypeId × Value → H) :
    ReturnsInHanded {} Try.checked os 14 .any (Rows.stableSameSpec.pre6 enc Try.prog Try.f14 Rows.stableSameRow.domain false) (Rows.stableSameSpec.post enc Try.prog Try.f14 false true false false) := by
  refine returnsInHanded_of_change_sized (C := Try.checked) pOwn started (by kernel_rfl) Try.func14
    (ChangeSpec.witness6 (enc := enc) (C := Try.checked) false ⟨#[], #[.slice none 0 0, .slice none 0 0, .slice none 0 0], []⟩ 8 (by kernel_rfl) (by kernel_rfl) (by kernel_rfl) (by kernel_rfl)) ?_
  intro W base args ds gs before hval hW _ hz _
  exact contract H enc W base args ds gs before hval hW hz
theorem k1 : Rows.stableSameRow.wf (OpenSpec.ofChange Rows.stableSameSpec) = true := by kernel_rfl
theorem k4 : Try.f14.params.all (Try.prog.readableRec ·) = true := by kernel_rfl
theorem k5 : namedTie Try.prog Rows.stableSameRow.named Rows.stableSameSpec.vars = true := by kernel_rfl
theorem k6 : (Rows.stableSameRow.stops == []) = true := by kernel_rfl
theorem k8 : (Rows.stableSameRow.knobs == []) = true := by kernel_rfl
theorem k10 : (Rows.stableSameRow.inPlace == Try.prog.inPlace 14) = true := by kernel_rfl
theorem k11 : (Rows.stableSameRow.unfollowed == Try.prog.unfollowed 14) = true := by kernel_rfl
theorem k12 : (Rows.stableSameRow.recurses == Try.prog.recurses 14) = true := by kernel_rfl
theorem k13 : (Rows.stableSameRow.named == Try.prog.varsNamed 14) = true := by kernel_rfl
theorem k14 : (Rows.stableSameRow.maps == (Try.f14.params.toList ++ Rows.stableSameSpec.plain.varTypes Try.prog).any (Try.prog.mapsRec ·)) = true := by kernel_rfl
theorem k15 : (Rows.stableSameRow.ifaces == (Try.f14.params.toList ++ Rows.stableSameSpec.plain.varTypes Try.prog).any (Try.prog.ifacesRec ·)) = true := by kernel_rfl
theorem k16 : (Rows.stableSameRow.mapsOut == Try.prog.mapsAmong Try.f14.resultTypes.toList) = true := by kernel_rfl
theorem k17 : (Rows.stableSameRow.loops == (Try.f14.params.toList ++ Rows.stableSameSpec.plain.varTypes Try.prog).any (Try.prog.loopsFrom ·)) = true := by kernel_rfl
theorem k17b : (Rows.stableSameRow.wideKeys == (Try.f14.params.toList ++ Rows.stableSameSpec.plain.varTypes Try.prog ++ Try.f14.resultTypes.toList).any (Try.prog.wideKeysFrom ·)) = true := by kernel_rfl
theorem k18 : Rows.stableSameSpec.vars.all (Try.prog.varReadable ·) = true := by kernel_rfl
theorem k19 : Try.f14.resultTypes.all (fun t => Try.prog.readableRec t && decide (t < Try.prog.types.size)) = true := by kernel_rfl
theorem k20 : (Rows.stableSameRow.ifacesOut == Try.f14.resultTypes.toList.any (Try.prog.ifacesRec ·)) = true := by kernel_rfl
theorem k21 : (Rows.stableSameRow.loopsOut == Try.f14.resultTypes.toList.any (Try.prog.loopsFrom ·)) = true := by kernel_rfl
theorem k22 : (Rows.stableSameRow.plainKeys == Try.prog.plainKeys) = true := by kernel_rfl
theorem k23 : Rows.stableSameRow.shortTexts.isNone = true := by kernel_rfl
theorem k24b : (Rows.stableSameRow.lifted == Try.prog.liftsFinal) = true := by rw [pFinal]; kernel_rfl
theorem k24c : (Try.prog.make == some Rows.stableSameRow.make) = true := by rw [pMake]; kernel_rfl
theorem k25 : (Rows.stableSameRow.kinds == (if Rows.stableSameRow.domain.isEmpty then [] else Try.f14.params.toList.map fun t => match Try.prog.underlying t with | some (.int k) => some k | _ => none)) = true := by kernel_rfl
theorem k26 : (Rows.stableSameRow.pinned == Rows.stableSameRow.pinnedBy) = true := by kernel_rfl
theorem k27 : (Rows.stableSameRow.veiled == (Try.f14.params.toList ++ Rows.stableSameSpec.plain.varTypes Try.prog ++ Try.f14.resultTypes.toList).any (Try.prog.veiledRec ·)) = true := by kernel_rfl
theorem k28 : Rows.stableSameRow.veiledFits Try.prog Try.f14.params.toList (Try.f14.params.toList ++ Rows.stableSameSpec.plain.varTypes Try.prog ++ Try.f14.resultTypes.toList) = true := by kernel_rfl
theorem closed : joinedFacts Try.prog 14 Try.f14 Rows.stableSameSpec Rows.stableSameRow = true := by
  unfold joinedFacts
  exact (andB (andB (andB (andB (andB (andB (andB (andB (andB (andB (andB (andB (andB (andB (andB (andB (andB (andB (andB (andB (andB (andB (andB (andB (andB (andB (andB (andB (andB (andB (andB k1 pLaid) pRowed) k4) k5) k6) pStops) k8) pKnobs) k10) k11) k12) k13) k14) k15) k16) k17) k17b) k18) k19) k20) k21) k22) k23) pHeard) pEnter) k24b) k24c) k25) k26) k27) k28)
theorem named : Try.prog.funcNamed Rows.stableSameRow.func = some 14 := by kernel_rfl
theorem inst : Try.f14.isInstance Try.prog Rows.stableSameRow.origin Rows.stableSameRow.targs := of_decide_eq_true (by kernel_rfl)
theorem wrap : Try.f14.isWrapper Try.prog Rows.stableSameRow.wrapper Rows.stableSameRow.mainSum := by unfold Func.isWrapper; first | (rw [if_pos (by decide +kernel)]; kernel_rfl) | (rw [if_neg (by decide +kernel)]; exact ⟨rfl, rfl⟩)
theorem proved : Rows.StableSameSaid :=
  OpenClaim.holds_of_wide 14 Try.f14 rfl rfl rfl rfl rfl rfl rfl ⟨rfl, rfl, rfl, rfl, rfl⟩ rfl rfl rfl rfl rfl named Try.func14 closed inst wrap (fun os started H enc _ => lifted os started H enc)
end Go.Proofs.Ytblhpmhfhpmifaa.stableSame
