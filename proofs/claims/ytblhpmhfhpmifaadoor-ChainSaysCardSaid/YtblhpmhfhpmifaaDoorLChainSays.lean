/- ChainSays: for every input the law's call returns true, and each argument reads as it did; the variable errors.errorType, which errors.As reads, is tied to the program's text by the card. No other condition. -/
import Derived.Test.YtblhpmhfhpmifaaDoorW2
import Derived.Test.YtblhpmhfhpmifaaDoorCards
import Derived.Test.YtblhpmhfhpmifaaDoorTie
set_option linter.unusedVariables false
set_option linter.unusedSimpArgs false
namespace Go.Proofs.YtblhpmhfhpmifaaDoor.chainSays
open Go.Aw Go.ChangeShapes Go.WideShapes Go.ChangeAt Go.RowKit
set_option linter.unusedVariables false
set_option maxRecDepth 100000
theorem contract (H : Type) (enc : TypeId × Value → H) (W : World) (base : Nat) (args : Array Value) (ds gs : List (DataW H)) (before : List MemPlace)
    (hval : ∀ (j : Nat) t v, Tryd.f19.params[j]? = some t → args[j]? = some v → Value.okWide Tryd.prog W .any base t v)
    (hW : DataW.Whole enc Tryd.prog Tryd.f19.params.toList Rows.chainSaysSpec.vars false W args.toList ds gs before)
    (hL : laidMetH Tryd.prog [("errors.errorType", .iface "internal/reflectlite.rtype" (.agg [.ptr (.lit (.string [101, 114, 114, 111, 114]))]))] W)
    (hz : (DataW.weightsEach Tryd.prog (Tryd.f19.params.toList ++ Rows.chainSaysSpec.plain.varTypes Tryd.prog) (ds ++ gs)).all (· ≤ reachBytes) = true) :
    Calls Tryd.prog 19 args W fun e W' => ∃ v, e = .returned v ∧ Rows.chainSaysSpec.post enc Tryd.prog Tryd.f19 false true false false W args v W' := by
  have hW' := hW
  obtain ⟨p, q, hA0, hV, rfl, hfz, hnd⟩ := hW
  have hA : DataW.TrodAll enc Tryd.prog W 0 (fun _ => true) true Tryd.f19.params.toList args.toList ds p := hA0
  rw [Tryd.params19] at hA hval hz
  obtain ⟨v0, vs0, d0, ds0, p0, q0, hargs, rfl, rfl, h0, r0⟩ := trodAll_cons hA
  obtain ⟨v1, vs1, d1, ds1, p1, q1, rfl, rfl, rfl, h1, r1⟩ := trodAll_cons r0
  obtain ⟨rfl, rfl, rfl⟩ := trodAll_nil r1
  obtain rfl : args = #[v0, v1] := by cases args; simp_all
  obtain ⟨rfl, rfl⟩ := trodVars_none hV
  obtain ⟨n0, ha0, hl0⟩ := arg_int (hval 0 3 v0 rfl rfl) h0
  obtain ⟨l1, ha1, hl1⟩ := arg_lines (hval 1 22 v1 rfl rfl) h1
  have hn1 := lines_len hz (j := 1) rfl rfl hl1
  refine (law_calls (lChainSays_spec n0 l1 hl0 hn1) W (gl_of_laid hL) [v0, v1] (argsOK_cons ha0 (argsOK_cons ha1 (argsOK_nil _ _)))).mono fun e W' ⟨he, hB⟩ => ?_
  exact ⟨_, he, law_post rfl rfl (by rw [Tryd.params19]; decide) hW' ⟨rfl, rfl, rfl⟩ hB⟩
/-- A world that meets the condition: the settled one, the variable's cell laid. -/
noncomputable def laidWorld (os : Os) : World :=
  let w0 := World.holding Tryd.prog os ⟨#[], #[], []⟩
  { w0 with heap := w0.heap.modify 0 fun
      | .cells _ t frozen => .cells #[.iface 142 (.agg #[.pointer (some ⟨1, 29, none⟩)])] t frozen
      | o => o }
theorem laidWorld_met (os : Os) (args : Array Value) : laidMetH Tryd.prog Rows.chainSaysRow.laid ((laidWorld os).forCall (fun _ _ => 0) ⟨#[], args, []⟩).memory :=
  laidMetH_of_parts (laidMet_nil _ _) (by kernel_rfl)
theorem lifted (os : Os) (started : os.Started) (H : Type) (enc : TypeId × Value → H) :
    ReturnsInHanded {} Tryd.checked os 19 .any (fun w args => (Rows.chainSaysSpec.pre enc Tryd.prog Tryd.f19 [] false w args ∧ laidMetH Tryd.prog Rows.chainSaysRow.laid w) ∧ sizedMet enc Tryd.prog Tryd.f19 (OpenSpec.ofChange Rows.chainSaysSpec) false w args) (Rows.chainSaysSpec.post enc Tryd.prog Tryd.f19 false true false false) := by
  refine returnsInHanded_of_change_and (C := Tryd.checked) (X := fun w _ => laidMetH Tryd.prog Rows.chainSaysRow.laid w) (fun _ _ _ hh h => h.of_heap hh) pOwn started (by kernel_rfl) Tryd.func19
    (ChangeSpec.witness_at (enc := enc) (C := Tryd.checked) (os := os) (X := fun w _ => laidMetH Tryd.prog Rows.chainSaysRow.laid w) false (laidWorld os) #[.int .i64 0, .slice none 0 0] 8 rfl (by kernel_rfl) (by kernel_rfl) (by kernel_rfl) (by kernel_rfl) (by kernel_rfl) (laidWorld_met os _)) ?_
  intro W base args ds gs before hval hW _ hz hL _
  exact contract H enc W base args ds gs before hval hW hL hz
theorem k1 : Rows.chainSaysRow.wf (OpenSpec.ofChange Rows.chainSaysSpec) = true := by kernel_rfl
theorem k4 : Tryd.f19.params.all (Tryd.prog.readableRec ·) = true := by kernel_rfl
theorem k5 : namedTie Tryd.prog Rows.chainSaysRow.named Rows.chainSaysSpec.vars = true := by kernel_rfl
theorem k6 : (Rows.chainSaysRow.stops == []) = true := by kernel_rfl
theorem k8 : (Rows.chainSaysRow.knobs == []) = true := by kernel_rfl
theorem k10 : (Rows.chainSaysRow.inPlace == Tryd.prog.inPlace 19) = true := by kernel_rfl
theorem k11 : (Rows.chainSaysRow.unfollowed == Tryd.prog.unfollowed 19) = true := by kernel_rfl
theorem k12 : (Rows.chainSaysRow.recurses == Tryd.prog.recurses 19) = true := by kernel_rfl
theorem k13 : (Rows.chainSaysRow.named == Tryd.prog.varsNamed 19) = true := by kernel_rfl
theorem k14 : (Rows.chainSaysRow.maps == (Tryd.f19.params.toList ++ Rows.chainSaysSpec.plain.varTypes Tryd.prog).any (Tryd.prog.mapsRec ·)) = true := by kernel_rfl
theorem k15 : (Rows.chainSaysRow.ifaces == (Tryd.f19.params.toList ++ Rows.chainSaysSpec.plain.varTypes Tryd.prog).any (Tryd.prog.ifacesRec ·)) = true := by kernel_rfl
theorem k16 : (Rows.chainSaysRow.mapsOut == Tryd.prog.mapsAmong Tryd.f19.resultTypes.toList) = true := by kernel_rfl
theorem k17 : (Rows.chainSaysRow.loops == (Tryd.f19.params.toList ++ Rows.chainSaysSpec.plain.varTypes Tryd.prog).any (Tryd.prog.loopsFrom ·)) = true := by kernel_rfl
theorem k17b : (Rows.chainSaysRow.wideKeys == (Tryd.f19.params.toList ++ Rows.chainSaysSpec.plain.varTypes Tryd.prog ++ Tryd.f19.resultTypes.toList).any (Tryd.prog.wideKeysFrom ·)) = true := by kernel_rfl
theorem k18 : Rows.chainSaysSpec.vars.all (Tryd.prog.varReadable ·) = true := by kernel_rfl
theorem k19 : Tryd.f19.resultTypes.all (fun t => Tryd.prog.readableRec t && decide (t < Tryd.prog.types.size)) = true := by kernel_rfl
theorem k20 : (Rows.chainSaysRow.ifacesOut == Tryd.f19.resultTypes.toList.any (Tryd.prog.ifacesRec ·)) = true := by kernel_rfl
theorem k21 : (Rows.chainSaysRow.loopsOut == Tryd.f19.resultTypes.toList.any (Tryd.prog.loopsFrom ·)) = true := by kernel_rfl
theorem k22 : (Rows.chainSaysRow.plainKeys == Tryd.prog.plainKeys) = true := by kernel_rfl
theorem k23 : Rows.chainSaysRow.shortTexts.isNone = true := by kernel_rfl
theorem k24b : (Rows.chainSaysRow.lifted == Tryd.prog.liftsFinal) = true := by rw [pFinal]; kernel_rfl
theorem k24c : (Tryd.prog.make == some Rows.chainSaysRow.make) = true := by rw [pMake]; kernel_rfl
theorem k25 : (Rows.chainSaysRow.kinds == (if Rows.chainSaysRow.domain.isEmpty then [] else Tryd.f19.params.toList.map fun t => match Tryd.prog.underlying t with | some (.int k) => some k | _ => none)) = true := by kernel_rfl
theorem k26 : (Rows.chainSaysRow.pinned == Rows.chainSaysRow.pinnedBy) = true := by kernel_rfl
theorem k27 : (Rows.chainSaysRow.veiled == (Tryd.f19.params.toList ++ Rows.chainSaysSpec.plain.varTypes Tryd.prog ++ Tryd.f19.resultTypes.toList).any (Tryd.prog.veiledRec ·)) = true := by kernel_rfl
theorem k28 : Rows.chainSaysRow.veiledFits Tryd.prog Tryd.f19.params.toList (Tryd.f19.params.toList ++ Rows.chainSaysSpec.plain.varTypes Tryd.prog ++ Tryd.f19.resultTypes.toList) = true := by kernel_rfl
theorem closed : joinedFacts Tryd.prog 19 Tryd.f19 Rows.chainSaysSpec Rows.chainSaysRow = true := by
  unfold joinedFacts
  exact (andB (andB (andB (andB (andB (andB (andB (andB (andB (andB (andB (andB (andB (andB (andB (andB (andB (andB (andB (andB (andB (andB (andB (andB (andB (andB (andB (andB (andB (andB (andB k1 pLaid) pRowed) k4) k5) k6) pStops) k8) pKnobs) k10) k11) k12) k13) k14) k15) k16) k17) k17b) k18) k19) k20) k21) k22) k23) pHeard) pEnter) k24b) k24c) k25) k26) k27) k28)
theorem named : Tryd.prog.funcNamed Rows.chainSaysRow.func = some 19 := by kernel_rfl
theorem inst : Tryd.f19.isInstance Tryd.prog Rows.chainSaysRow.origin Rows.chainSaysRow.targs := of_decide_eq_true (by kernel_rfl)
theorem wrap : Tryd.f19.isWrapper Tryd.prog Rows.chainSaysRow.wrapper Rows.chainSaysRow.mainSum := by unfold Func.isWrapper; first | (rw [if_pos (by decide +kernel)]; kernel_rfl) | (rw [if_neg (by decide +kernel)]; exact ⟨rfl, rfl⟩)
theorem said : Rows.ChainSaysSaid :=
  OpenClaim.holds_of_wide 19 Tryd.f19 rfl rfl rfl rfl rfl rfl rfl ⟨rfl, rfl, rfl, rfl, rfl⟩ rfl rfl rfl rfl rfl named Tryd.func19 closed inst wrap (fun os started H enc _ => lifted os started H enc)
theorem cWf : Rows.chainSaysRow.wfByText (OpenSpec.ofChange Rows.chainSaysSpec) = true := by kernel_rfl
theorem cGoes : false = Rows.chainSaysRow.goesBy Tryd.pinned.checked.prog := by kernel_rfl
theorem cNamed : Tryd.prog.funcNamed "brambleweir/brambleweirlaw2.ChainSays" = some 19 := by kernel_rfl
theorem cHall : ([3, 22] : List TypeId).all (fun u => !Tryd.prog.wantsStandIn u) = true := by kernel_rfl
theorem proved : Rows.ChainSaysCardSaid :=
  Claim7.holds_tied_plain_at .later [] [.handle] true (true, "ef528b23815b70c2662300e7e3ba81efdd8130d758234ace3c638d7836b90011") true
    said (fun _ h => by cases h) cWf (fun _ h => by cases h) chainSays_row_tie rfl ⟨rfl, rfl⟩ pMain rfl
    (fun f fn hf hfn => by
      obtain rfl : f = 19 := Option.some.inj (cNamed.symm.trans hf) |>.symm
      obtain rfl : fn = Tryd.f19 := (Option.some.inj (Tryd.func19.symm.trans hfn)).symm
      exact ⟨pLooks, fun j t ht => by
        rw [Tryd.params19] at ht
        have hm : t ∈ [3, 22] := by simpa using Array.mem_of_getElem? ht
        exact (show Tryd.prog.wantsStandIn t = false by simpa using List.all_eq_true.1 cHall t hm)⟩)
    cGoes
end Go.Proofs.YtblhpmhfhpmifaaDoor.chainSays
