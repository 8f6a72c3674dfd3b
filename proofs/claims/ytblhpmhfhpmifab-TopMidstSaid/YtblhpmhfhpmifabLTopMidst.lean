/- TopMidst: for every input the law's call returns true, and each argument reads as it did. No condition. -/
import Derived.Test.YtblhpmhfhpmifabW1
set_option linter.unusedVariables false
set_option linter.unusedSimpArgs false
namespace Go.Proofs.Ytblhpmhfhpmifab.topMidst
open Go.Aw Go.ChangeShapes Go.WideShapes Go.ChangeAt Go.RowKit
set_option linter.unusedVariables false
set_option maxRecDepth 100000
theorem contract (H : Type) (enc : TypeId × Value → H) (W : World) (base : Nat) (args : Array Value) (ds gs : List (DataW H)) (before : List MemPlace)
    (hval : ∀ (j : Nat) t v, Try.f3.params[j]? = some t → args[j]? = some v → Value.okWide Try.prog W .any base t v)
    (hW : DataW.Whole enc Try.prog Try.f3.params.toList Rows.topMidstSpec.vars false W args.toList ds gs before)
    (hz : (DataW.weightsEach Try.prog (Try.f3.params.toList ++ Rows.topMidstSpec.plain.varTypes Try.prog) (ds ++ gs)).all (· ≤ reachBytes) = true) :
    Calls Try.prog 3 args W fun e W' => ∃ v, e = .returned v ∧ Rows.topMidstSpec.post enc Try.prog Try.f3 false true false false W args v W' := by
  have hW' := hW
  obtain ⟨p, q, hA0, hV, rfl, hfz, hnd⟩ := hW
  have hA : DataW.TrodAll enc Try.prog W 0 (fun _ => true) true Try.f3.params.toList args.toList ds p := hA0
  rw [Try.params3] at hA hval hz
  obtain ⟨v0, vs0, d0, ds0, p0, q0, hargs, rfl, rfl, h0, r0⟩ := trodAll_cons hA
  obtain ⟨v1, vs1, d1, ds1, p1, q1, rfl, rfl, rfl, h1, r1⟩ := trodAll_cons r0
  obtain ⟨v2, vs2, d2, ds2, p2, q2, rfl, rfl, rfl, h2, r2⟩ := trodAll_cons r1
  obtain ⟨v3, vs3, d3, ds3, p3, q3, rfl, rfl, rfl, h3, r3⟩ := trodAll_cons r2
  obtain ⟨rfl, rfl, rfl⟩ := trodAll_nil r3
  obtain rfl : args = #[v0, v1, v2, v3] := by cases args; simp_all
  obtain ⟨rfl, rfl⟩ := trodVars_none hV
  obtain ⟨n0, ha0, hl0⟩ := arg_int (hval 0 3 v0 rfl rfl) h0
  obtain ⟨l1, ha1, hl1⟩ := arg_lines (hval 1 22 v1 rfl rfl) h1
  have hn1 := lines_len hz (j := 1) rfl rfl hl1
  obtain ⟨n2, ha2, hl2⟩ := arg_int (hval 2 3 v2 rfl rfl) h2
  obtain ⟨n3, ha3, hl3⟩ := arg_int (hval 3 3 v3 rfl rfl) h3
  refine (law_calls (lTopMidst_spec n0 l1 n2 n3 hl0 hn1 hl2 hl3) W (pGl W) [v0, v1, v2, v3] (argsOK_cons ha0 (argsOK_cons ha1 (argsOK_cons ha2 (argsOK_cons ha3 (argsOK_nil _ _)))))).mono fun e W' ⟨he, hB⟩ => ?_
  exact ⟨_, he, law_post rfl rfl (by rw [Try.params3]; decide) hW' ⟨rfl, rfl, rfl⟩ hB⟩
theorem lifted (os : Os) (started : os.Started) (H : Type) (enc : TypeId × Value → H) :
    ReturnsInHanded {} Try.checked os 3 .any (Rows.topMidstSpec.pre6 enc Try.prog Try.f3 Rows.topMidstRow.domain false) (Rows.topMidstSpec.post enc Try.prog Try.f3 false true false false) := by
  refine returnsInHanded_of_change_sized (C := Try.checked) pOwn started (by kernel_rfl) Try.func3
    (ChangeSpec.witness6 (enc := enc) (C := Try.checked) false ⟨#[], #[.int .i64 0, .slice none 0 0, .int .i64 0, .int .i64 0], []⟩ 8 (by kernel_rfl) (by kernel_rfl) (by kernel_rfl) (by kernel_rfl)) ?_
  intro W base args ds gs before hval hW _ hz _
  exact contract H enc W base args ds gs before hval hW hz
theorem k1 : Rows.topMidstRow.wf (OpenSpec.ofChange Rows.topMidstSpec) = true := by kernel_rfl
theorem k4 : Try.f3.params.all (Try.prog.readableRec ·) = true := by kernel_rfl
theorem k5 : namedTie Try.prog Rows.topMidstRow.named Rows.topMidstSpec.vars = true := by kernel_rfl
theorem k6 : (Rows.topMidstRow.stops == []) = true := by kernel_rfl
theorem k8 : (Rows.topMidstRow.knobs == []) = true := by kernel_rfl
theorem k10 : (Rows.topMidstRow.inPlace == Try.prog.inPlace 3) = true := by kernel_rfl
theorem k11 : (Rows.topMidstRow.unfollowed == Try.prog.unfollowed 3) = true := by kernel_rfl
theorem k12 : (Rows.topMidstRow.recurses == Try.prog.recurses 3) = true := by kernel_rfl
theorem k13 : (Rows.topMidstRow.named == Try.prog.varsNamed 3) = true := by kernel_rfl
theorem k14 : (Rows.topMidstRow.maps == (Try.f3.params.toList ++ Rows.topMidstSpec.plain.varTypes Try.prog).any (Try.prog.mapsRec ·)) = true := by kernel_rfl
theorem k15 : (Rows.topMidstRow.ifaces == (Try.f3.params.toList ++ Rows.topMidstSpec.plain.varTypes Try.prog).any (Try.prog.ifacesRec ·)) = true := by kernel_rfl
theorem k16 : (Rows.topMidstRow.mapsOut == Try.prog.mapsAmong Try.f3.resultTypes.toList) = true := by kernel_rfl
theorem k17 : (Rows.topMidstRow.loops == (Try.f3.params.toList ++ Rows.topMidstSpec.plain.varTypes Try.prog).any (Try.prog.loopsFrom ·)) = true := by kernel_rfl
theorem k17b : (Rows.topMidstRow.wideKeys == (Try.f3.params.toList ++ Rows.topMidstSpec.plain.varTypes Try.prog ++ Try.f3.resultTypes.toList).any (Try.prog.wideKeysFrom ·)) = true := by kernel_rfl
theorem k18 : Rows.topMidstSpec.vars.all (Try.prog.varReadable ·) = true := by kernel_rfl
theorem k19 : Try.f3.resultTypes.all (fun t => Try.prog.readableRec t && decide (t < Try.prog.types.size)) = true := by kernel_rfl
theorem k20 : (Rows.topMidstRow.ifacesOut == Try.f3.resultTypes.toList.any (Try.prog.ifacesRec ·)) = true := by kernel_rfl
theorem k21 : (Rows.topMidstRow.loopsOut == Try.f3.resultTypes.toList.any (Try.prog.loopsFrom ·)) = true := by kernel_rfl
theorem k22 : (Rows.topMidstRow.plainKeys == Try.prog.plainKeys) = true := by kernel_rfl
theorem k23 : Rows.topMidstRow.shortTexts.isNone = true := by kernel_rfl
theorem k24b : (Rows.topMidstRow.lifted == Try.prog.liftsFinal) = true := by rw [pFinal]; kernel_rfl
theorem k24c : (Try.prog.make == some Rows.topMidstRow.make) = true := by rw [pMake]; kernel_rfl
theorem k25 : (Rows.topMidstRow.kinds == (if Rows.topMidstRow.domain.isEmpty then [] else Try.f3.params.toList.map fun t => match Try.prog.underlying t with | some (.int k) => some k | _ => none)) = true := by kernel_rfl
theorem k26 : (Rows.topMidstRow.pinned == Rows.topMidstRow.pinnedBy) = true := by kernel_rfl
theorem k27 : (Rows.topMidstRow.veiled == (Try.f3.params.toList ++ Rows.topMidstSpec.plain.varTypes Try.prog ++ Try.f3.resultTypes.toList).any (Try.prog.veiledRec ·)) = true := by kernel_rfl
theorem k28 : Rows.topMidstRow.veiledFits Try.prog Try.f3.params.toList (Try.f3.params.toList ++ Rows.topMidstSpec.plain.varTypes Try.prog ++ Try.f3.resultTypes.toList) = true := by kernel_rfl
theorem closed : joinedFacts Try.prog 3 Try.f3 Rows.topMidstSpec Rows.topMidstRow = true := by
  unfold joinedFacts
  exact (andB (andB (andB (andB (andB (andB (andB (andB (andB (andB (andB (andB (andB (andB (andB (andB (andB (andB (andB (andB (andB (andB (andB (andB (andB (andB (andB (andB (andB (andB (andB k1 pLaid) pRowed) k4) k5) k6) pStops) k8) pKnobs) k10) k11) k12) k13) k14) k15) k16) k17) k17b) k18) k19) k20) k21) k22) k23) pHeard) pEnter) k24b) k24c) k25) k26) k27) k28)
theorem named : Try.prog.funcNamed Rows.topMidstRow.func = some 3 := by kernel_rfl
theorem inst : Try.f3.isInstance Try.prog Rows.topMidstRow.origin Rows.topMidstRow.targs := of_decide_eq_true (by kernel_rfl)
theorem wrap : Try.f3.isWrapper Try.prog Rows.topMidstRow.wrapper Rows.topMidstRow.mainSum := by unfold Func.isWrapper; first | (rw [if_pos (by decide +kernel)]; kernel_rfl) | (rw [if_neg (by decide +kernel)]; exact ⟨rfl, rfl⟩)
theorem proved : Rows.TopMidstSaid :=
  OpenClaim.holds_of_wide 3 Try.f3 rfl rfl rfl rfl rfl rfl rfl ⟨rfl, rfl, rfl, rfl, rfl⟩ rfl rfl rfl rfl rfl named Try.func3 closed inst wrap (fun os started H enc _ => lifted os started H enc)
end Go.Proofs.Ytblhpmhfhpmifab.topMidst
