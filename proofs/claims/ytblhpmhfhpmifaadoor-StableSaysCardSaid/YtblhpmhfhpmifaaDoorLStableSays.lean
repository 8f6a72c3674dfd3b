/- StableSays: for every input the law's call returns true, and each argument reads as it did; the variable errors.errorType, which errors.As reads, is tied to the program's text by the card. No other condition. -/
import Derived.Test.YtblhpmhfhpmifaaDoorW2
import Derived.Test.YtblhpmhfhpmifaaDoorCards
import Derived.Test.YtblhpmhfhpmifaaDoorTie
set_option linter.unusedVariables false
set_option linter.unusedSimpArgs false
namespace Go.Proofs.YtblhpmhfhpmifaaDoor.stableSays
open Go.Aw Go.ChangeShapes Go.WideShapes Go.ChangeAt Go.RowKit
set_option linter.unusedVariables false
set_option maxRecDepth 100000
theorem contract (H : Type) (enc : TypeId × Value → H) (W : World) (base : Nat) (args : Array Value) (ds gs : List (DataW H)) (before : List MemPlace)
    (hval : ∀ (j : Nat) t v, Tryd.f14.params[j]? = some t → args[j]? = some v → Value.okWide Tryd.prog W .any base t v)
    (hW : DataW.Whole enc Tryd.prog Tryd.f14.params.toList Rows.stableSaysSpec.vars false W args.toList ds gs before)
    (hL : laidMetH Tryd.prog [("errors.errorType", .iface "internal/reflectlite.rtype" (.agg [.ptr (.lit (.string [101, 114, 114, 111, 114]))]))] W)
    (hz : (DataW.weightsEach Tryd.prog (Tryd.f14.params.toList ++ Rows.stableSaysSpec.plain.varTypes Tryd.prog) (ds ++ gs)).all (· ≤ reachBytes) = true) :
    Calls Tryd.prog 14 args W fun e W' => ∃ v, e = .returned v ∧ Rows.stableSaysSpec.post enc Tryd.prog Tryd.f14 false true false false W args v W' := by
  have hW' := hW
  obtain ⟨p, q, hA0, hV, rfl, hfz, hnd⟩ := hW
  have hA : DataW.TrodAll enc Tryd.prog W 0 (fun _ => true) true Tryd.f14.params.toList args.toList ds p := hA0
  rw [Tryd.params14] at hA hval hz
  obtain ⟨v0, vs0, d0, ds0, p0, q0, hargs, rfl, rfl, h0, r0⟩ := trodAll_cons hA
  obtain ⟨v1, vs1, d1, ds1, p1, q1, rfl, rfl, rfl, h1, r1⟩ := trodAll_cons r0
  obtain ⟨v2, vs2, d2, ds2, p2, q2, rfl, rfl, rfl, h2, r2⟩ := trodAll_cons r1
  obtain ⟨rfl, rfl, rfl⟩ := trodAll_nil r2
  obtain rfl : args = #[v0, v1, v2] := by cases args; simp_all
  obtain ⟨rfl, rfl⟩ := trodVars_none hV
  obtain ⟨r0, ha0, hl0⟩ := arg_rows (hval 0 69 v0 rfl rfl) h0
  have hn0 := rows_len hz (j := 0) rfl rfl hl0
  obtain ⟨r1, ha1, hl1⟩ := arg_rows (hval 1 69 v1 rfl rfl) h1
  have hn1 := rows_len hz (j := 1) rfl rfl hl1
  obtain ⟨x2, ha2, hl2⟩ := arg_ints (hval 2 24 v2 rfl rfl) h2
  have hn2 := ints_len hz (j := 2) rfl rfl hl2
  refine (law_calls (lStableSays_spec r0 r1 x2 hn0 hn1 hn2) W (gl_of_laid hL) [v0, v1, v2] (argsOK_cons ha0 (argsOK_cons ha1 (argsOK_cons ha2 (argsOK_nil _ _))))).mono fun e W' ⟨he, hB⟩ => ?_
  exact ⟨_, he, law_post rfl rfl (by rw [Tryd.params14]; decide) hW' ⟨rfl, rfl, rfl⟩ hB⟩
/-- A world that meets the condition: the settled one, the variable's cell laid. -/
noncomputable def laidWorld (os : Os) : World :=
  let w0 := World.holding Tryd.prog os ⟨#[], #[], []⟩
  { w0 with heap := w0.heap.modify 0 fun
      | .cells _ t frozen => .cells #[.iface 142 (.agg #[.pointer (some ⟨1, 29, none⟩)])] t frozen
      | o => o }
theorem laidWorld_met (os : Os) (args : Array Value) : laidMetH Tryd.prog Rows.stableSaysRow.laid ((laidWorld os).forCall (fun _ _ => 0) ⟨#[], args, []⟩).memory :=
  laidMetH_of_parts (laidMet_nil _ _) (by kernel_rfl)
theorem lifted (os : Os) (started : os.Started) (H : Type) (enc : TypeId × Value → H) :
    ReturnsInHanded {} Tryd.checked os 14 .any (fun w args => (Rows.stableSaysSpec.pre enc Tryd.prog Tryd.f14 [] false w args ∧ laidMetH Tryd.prog Rows.stableSaysRow.laid w) ∧ sizedMet enc Tryd.prog Tryd.f14 (OpenSpec.ofChange Rows.stableSaysSpec) false w args) (Rows.stableSaysSpec.post enc Tryd.prog Tryd.f14 false true false false) := by
  refine returnsInHanded_of_change_and (C := Tryd.checked) (X := fun w _ => laidMetH Tryd.prog Rows.stableSaysRow.laid w) (fun _ _ _ hh h => h.of_heap hh) pOwn started (by kernel_rfl) Tryd.func14
    (ChangeSpec.witness_at (enc := enc) (C := Tryd.checked) (os := os) (X := fun w _ => laidMetH Tryd.prog Rows.stableSaysRow.laid w) false (laidWorld os) #[.slice none 0 0, .slice none 0 0, .slice none 0 0] 8 rfl (by kernel_rfl) (by kernel_rfl) (by kernel_rfl) (by kernel_rfl) (by kernel_rfl) (laidWorld_met os _)) ?_
  intro W base args ds gs before hval hW _ hz hL _
  exact contract H enc W base args ds gs before hval hW hL hz
theorem k1 : Rows.stableSaysRow.wf (OpenSpec.ofChange Rows.stableSaysSpec) = true := by kernel_rfl
theorem k4 : Tryd.f14.params.all (Tryd.prog.readableRec ·) = true := by kernel_rfl
theorem k5 : namedTie Tryd.prog Rows.stableSaysRow.named Rows.stableSaysSpec.vars = true := by kernel_rfl
theorem k6 : (Rows.stableSaysRow.stops == []) = true := by kernel_rfl
theorem k8 : (Rows.stableSaysRow.knobs == []) = true := by kernel_rfl
theorem k10 : (Rows.stableSaysRow.inPlace == Tryd.prog.inPlace 14) = true := by kernel_rfl
theorem k11 : (Rows.stableSaysRow.unfollowed == Tryd.prog.unfollowed 14) = true := by kernel_rfl
theorem k12 : (Rows.stableSaysRow.recurses == Tryd.prog.recurses 14) = true := by kernel_rfl
theorem k13 : (Rows.stableSaysRow.named == Tryd.prog.varsNamed 14) = true := by kernel_rfl
theorem k14 : (Rows.stableSaysRow.maps == (Tryd.f14.params.toList ++ Rows.stableSaysSpec.plain.varTypes Tryd.prog).any (Tryd.prog.mapsRec ·)) = true := by kernel_rfl
theorem k15 : (Rows.stableSaysRow.ifaces == (Tryd.f14.params.toList ++ Rows.stableSaysSpec.plain.varTypes Tryd.prog).any (Tryd.prog.ifacesRec ·)) = true := by kernel_rfl
theorem k16 : (Rows.stableSaysRow.mapsOut == Tryd.prog.mapsAmong Tryd.f14.resultTypes.toList) = true := by kernel_rfl
theorem k17 : (Rows.stableSaysRow.loops == (Tryd.f14.params.toList ++ Rows.stableSaysSpec.plain.varTypes Tryd.prog).any (Tryd.prog.loopsFrom ·)) = true := by kernel_rfl
theorem k17b : (Rows.stableSaysRow.wideKeys == (Tryd.f14.params.toList ++ Rows.stableSaysSpec.plain.varTypes Tryd.prog ++ Tryd.f14.resultTypes.toList).any (Tryd.prog.wideKeysFrom ·)) = true := by kernel_rfl
theorem k18 : Rows.stableSaysSpec.vars.all (Tryd.prog.varReadable ·) = true := by kernel_rfl
theorem k19 : Tryd.f14.resultTypes.all (fun t => Tryd.prog.readableRec t && decide (t < Tryd.prog.types.size)) = true := by kernel_rfl
theorem k20 : (Rows.stableSaysRow.ifacesOut == Tryd.f14.resultTypes.toList.any (Tryd.prog.ifacesRec ·)) = true := by kernel_rfl
theorem k21 : (Rows.stableSaysRow.loopsOut == Tryd.f14.resultTypes.toList.any (Tryd.prog.loopsFrom ·)) = true := by kernel_rfl
theorem k22 : (Rows.stableSaysRow.plainKeys == Tryd.prog.plainKeys) = true := by kernel_rfl
theorem k23 : Rows.stableSaysRow.shortTexts.isNone = true := by kernel_rfl
theorem k24b : (Rows.stableSaysRow.lifted == Tryd.prog.liftsFinal) = true := by rw [pFinal]; kernel_rfl
theorem k24c : (Tryd.prog.make == some Rows.stableSaysRow.make) = true := by rw [pMake]; kernel_rfl
theorem k25 : (Rows.stableSaysRow.kinds == (if Rows.stableSaysRow.domain.isEmpty then [] else Tryd.f14.params.toList.map fun t => match Tryd.prog.underlying t with | some (.int k) => some k | _ => none)) = true := by kernel_rfl
theorem k26 : (Rows.stableSaysRow.pinned == Rows.stableSaysRow.pinnedBy) = true := by kernel_rfl
theorem k27 : (Rows.stableSaysRow.veiled == (Tryd.f14.params.toList ++ Rows.stableSaysSpec.plain.varTypes Tryd.prog ++ Tryd.f14.resultTypes.toList).any (Tryd.prog.veiledRec ·)) = true := by kernel_rfl
theorem k28 : Rows.stableSaysRow.veiledFits Tryd.prog Tryd.f14.params.toList (Tryd.f14.params.toList ++ Rows.stableSaysSpec.plain.varTypes Tryd.prog ++ Tryd.f14.resultTypes.toList) = true := by kernel_rfl
theorem closed : joinedFacts Tryd.prog 14 Tryd.f14 Rows.stableSaysSpec Rows.stableSaysRow = true := by
  unfold joinedFacts
  exact (andB (andB (andB (andB (andB (andB (andB (andB (andB (andB (andB (andB (andB (andB (andB (andB (andB (andB (andB (andB (andB (andB (andB (andB (andB (andB (andB (andB (andB (andB (andB k1 pLaid) pRowed) k4) k5) k6) pStops) k8) pKnobs) k10) k11) k12) k13) k14) k15) k16) k17) k17b) k18) k19) k20) k21) k22) k23) pHeard) pEnter) k24b) k24c) k25) k26) k27) k28)
theorem named : Tryd.prog.funcNamed Rows.stableSaysRow.func = some 14 := by kernel_rfl
theorem inst : Tryd.f14.isInstance Tryd.prog Rows.stableSaysRow.origin Rows.stableSaysRow.targs := of_decide_eq_true (by kernel_rfl)
theorem wrap : Tryd.f14.isWrapper Tryd.prog Rows.stableSaysRow.wrapper Rows.stableSaysRow.mainSum := by unfold Func.isWrapper; first | (rw [if_pos (by decide +kernel)]; kernel_rfl) | (rw [if_neg (by decide +kernel)]; exact ⟨rfl, rfl⟩)
theorem said : Rows.StableSaysSaid :=
  OpenClaim.holds_of_wide 14 Tryd.f14 rfl rfl rfl rfl rfl rfl rfl ⟨rfl, rfl, rfl, rfl, rfl⟩ rfl rfl rfl rfl rfl named Tryd.func14 closed inst wrap (fun os started H enc _ => lifted os started H enc)
theorem cWf : Rows.stableSaysRow.wfByText (OpenSpec.ofChange Rows.stableSaysSpec) = true := by kernel_rfl
theorem cGoes : false = Rows.stableSaysRow.goesBy Tryd.pinned.checked.prog := by kernel_rfl
theorem cNamed : Tryd.prog.funcNamed "brambleweir/brambleweirlaw2.StableSays" = some 14 := by kernel_rfl
theorem cHall : ([69, 69, 24] : List TypeId).all (fun u => !Tryd.prog.wantsStandIn u) = true := by kernel_rfl
theorem proved : Rows.StableSaysCardSaid :=
  Claim7.holds_tied_plain_at .later [] [.handle] true (true, "ef528b23815b70c2662300e7e3ba81efdd8130d758234ace3c638d7836b90011") true
    said (fun _ h => by cases h) cWf (fun _ h => by cases h) stableSays_row_tie rfl ⟨rfl, rfl⟩ pMain rfl
    (fun f fn hf hfn => by
      obtain rfl : f = 14 := Option.some.inj (cNamed.symm.trans hf) |>.symm
      obtain rfl : fn = Tryd.f14 := (Option.some.inj (Tryd.func14.symm.trans hfn)).symm
      exact ⟨pLooks, fun j t ht => by
        rw [Tryd.params14] at ht
        have hm : t ∈ [69, 69, 24] := by simpa using Array.mem_of_getElem? ht
        exact (show Tryd.prog.wantsStandIn t = false by simpa using List.all_eq_true.1 cHall t hm)⟩)
    cGoes
end Go.Proofs.YtblhpmhfhpmifaaDoor.stableSays
