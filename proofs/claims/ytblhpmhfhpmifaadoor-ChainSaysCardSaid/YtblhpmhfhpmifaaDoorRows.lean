/-
  NARROWER THAN 'FOR EVERY INPUT', by the rows' own cells (each row's printed sentence says how): TopoSays: laid · TopoKahn: laid · TopoDeep: laid · TopoTurn: laid · PairsLess: laid · MatchSays: laid · PairsSays: laid · PairsRight: laid · CloseSays: laid · CloseTurn: laid · StrongSays: laid · StableSays: laid · DomSays: laid · PairsAspvall: laid · HalvesSays: laid · HalvesKonig: laid · ChainSays: laid.
  DERIVED. THE GIVEN ROWS OF THIS SEAT. 17 by the template 'for every input the law returns true; each argument reads behind the call as it read before'; 0 by the template 'total and deterministic' (their statements: YtblhpmhfhpmifaaDoorTotals.lean).
  GIVEN WITH THE SEED: the statements are not yours to turn. If you find one false, say at which input.
  Laid BY PROGRAM, IN A SANDBOX (cutbox-rows.mjs): the forced cells as the released guide's own fill.sh prints them over the translation fc26d98798b8dd23… (all of the seat's roots in one cut). By AI agents, Wed Nov 11 2026. No macro, syntax, notation, axiom, sorry.
-/
import Derived.Test.YtblhpmhfhpmifaaDoorChecked
import GoSem.Claim
import GoSem.ClaimJoined
import GoSem.ClaimMapViews
import Derived.JoinedTies
import Derived.KernelRfl
namespace Go.Proofs.YtblhpmhfhpmifaaDoor
/- THE CELL 'sum', in the pinned program and in every row, IS THE sha256 OF THE DUMP (.gsa) THAT YtblhpmhfhpmifaaDoorProg.lean LOADS. Nothing in Lean hashes anything: it is a label: what it is worth is what the hold of that sum in a sandbox is worth. -/
noncomputable def Tryd.pinned : Pinned := { name := "ytblhpmhfhpmifaadoor", sum := "fc26d98798b8dd23479f1f1748e36633b532912a28704c3a4504a39717eabda7", checked := Tryd.checked }
namespace Rows
def none {H : Type} : Left H := { results := [], args := [] }

/- WHAT THE LISTED PACKAGE-LEVEL VARIABLES READ AS WHEN THE CALL BEGINS. Each datum BY PROGRAM (the guide's laid-datum.mjs) off the statement by which the dump's own 'gosem.cut.vars' lays the variable. In a bare row this is a premise. The card (YtblhpmhfhpmifaaDoorCards.lean) ties it to the program's text. -/
def laid_errors_errorType {H : Type} : DataW H := .iface "internal/reflectlite.rtype" (.agg [.ptr (.lit (.string [101, 114, 114, 111, 114]))])

/-- 'brambleweirlaw2.TopoSays': WHATEVER THE INPUT: true; the input reads as it did. -/
def topoSaysSpec : ChangeSpec := { name := "topoSays", fn := fun _ => fun
  | [d1, d2] => { results := [.lit (.bool true)], args := [d1, d2] }
  | _ => none }
def topoSaysRow : OpenClaim := { program := "ytblhpmhfhpmifaadoor", sum := "fc26d98798b8dd23479f1f1748e36633b532912a28704c3a4504a39717eabda7", func := "brambleweir/brambleweirlaw2.TopoSays", spec := "topoSays", inPlace := ["internal/reflectlite.ValueOf", "(internal/reflectlite.Value).Type", "(internal/reflectlite.Value).IsNil", "internal/reflectlite.TypeOf", "(internal/reflectlite.Value).Elem", "(internal/reflectlite.Value).Set"], unfollowed := true, recurses := true, named := ["errors.errorType"], apart := false, laid := [("errors.errorType", laid_errors_errorType)] }
def TopoSaysSaid : Prop := topoSaysRow.holds Tryd.pinned (OpenSpec.ofChange topoSaysSpec)

/-- ITS FALSE NEIGHBOUR: 'it returns false'. Refute it at one input. -/
def topoSaysWrong : ChangeSpec := { name := "topoSays", fn := fun _ => fun
  | [d1, d2] => { results := [.lit (.bool false)], args := [d1, d2] }
  | _ => none }
def TopoSaysWrongFalsely : Prop := topoSaysRow.holds Tryd.pinned (OpenSpec.ofChange topoSaysWrong)

/-- 'brambleweirlaw2.TopoKahn': WHATEVER THE INPUT: true; the input reads as it did. -/
def topoKahnSpec : ChangeSpec := { name := "topoKahn", fn := fun _ => fun
  | [d1, d2] => { results := [.lit (.bool true)], args := [d1, d2] }
  | _ => none }
def topoKahnRow : OpenClaim := { program := "ytblhpmhfhpmifaadoor", sum := "fc26d98798b8dd23479f1f1748e36633b532912a28704c3a4504a39717eabda7", func := "brambleweir/brambleweirlaw2.TopoKahn", spec := "topoKahn", inPlace := ["internal/reflectlite.ValueOf", "(internal/reflectlite.Value).Type", "(internal/reflectlite.Value).IsNil", "internal/reflectlite.TypeOf", "(internal/reflectlite.Value).Elem", "(internal/reflectlite.Value).Set"], unfollowed := true, recurses := true, named := ["errors.errorType"], apart := false, laid := [("errors.errorType", laid_errors_errorType)] }
def TopoKahnSaid : Prop := topoKahnRow.holds Tryd.pinned (OpenSpec.ofChange topoKahnSpec)

/-- ITS FALSE NEIGHBOUR: 'it returns false'. Refute it at one input. -/
def topoKahnWrong : ChangeSpec := { name := "topoKahn", fn := fun _ => fun
  | [d1, d2] => { results := [.lit (.bool false)], args := [d1, d2] }
  | _ => none }
def TopoKahnWrongFalsely : Prop := topoKahnRow.holds Tryd.pinned (OpenSpec.ofChange topoKahnWrong)

/-- 'brambleweirlaw2.TopoDeep': WHATEVER THE INPUT: true; the input reads as it did. -/
def topoDeepSpec : ChangeSpec := { name := "topoDeep", fn := fun _ => fun
  | [d1, d2] => { results := [.lit (.bool true)], args := [d1, d2] }
  | _ => none }
def topoDeepRow : OpenClaim := { program := "ytblhpmhfhpmifaadoor", sum := "fc26d98798b8dd23479f1f1748e36633b532912a28704c3a4504a39717eabda7", func := "brambleweir/brambleweirlaw2.TopoDeep", spec := "topoDeep", inPlace := ["internal/reflectlite.ValueOf", "(internal/reflectlite.Value).Type", "(internal/reflectlite.Value).IsNil", "internal/reflectlite.TypeOf", "(internal/reflectlite.Value).Elem", "(internal/reflectlite.Value).Set"], unfollowed := true, recurses := true, named := ["errors.errorType"], apart := false, laid := [("errors.errorType", laid_errors_errorType)] }
def TopoDeepSaid : Prop := topoDeepRow.holds Tryd.pinned (OpenSpec.ofChange topoDeepSpec)

/-- ITS FALSE NEIGHBOUR: 'it returns false'. Refute it at one input. -/
def topoDeepWrong : ChangeSpec := { name := "topoDeep", fn := fun _ => fun
  | [d1, d2] => { results := [.lit (.bool false)], args := [d1, d2] }
  | _ => none }
def TopoDeepWrongFalsely : Prop := topoDeepRow.holds Tryd.pinned (OpenSpec.ofChange topoDeepWrong)

/-- 'brambleweirlaw2.TopoTurn': WHATEVER THE INPUT: true; the input reads as it did. -/
def topoTurnSpec : ChangeSpec := { name := "topoTurn", fn := fun _ => fun
  | [d1, d2] => { results := [.lit (.bool true)], args := [d1, d2] }
  | _ => none }
def topoTurnRow : OpenClaim := { program := "ytblhpmhfhpmifaadoor", sum := "fc26d98798b8dd23479f1f1748e36633b532912a28704c3a4504a39717eabda7", func := "brambleweir/brambleweirlaw2.TopoTurn", spec := "topoTurn", inPlace := ["internal/reflectlite.ValueOf", "(internal/reflectlite.Value).Type", "(internal/reflectlite.Value).IsNil", "internal/reflectlite.TypeOf", "(internal/reflectlite.Value).Elem", "(internal/reflectlite.Value).Set"], unfollowed := true, recurses := true, named := ["errors.errorType"], apart := false, laid := [("errors.errorType", laid_errors_errorType)] }
def TopoTurnSaid : Prop := topoTurnRow.holds Tryd.pinned (OpenSpec.ofChange topoTurnSpec)

/-- ITS FALSE NEIGHBOUR: 'it returns false'. Refute it at one input. -/
def topoTurnWrong : ChangeSpec := { name := "topoTurn", fn := fun _ => fun
  | [d1, d2] => { results := [.lit (.bool false)], args := [d1, d2] }
  | _ => none }
def TopoTurnWrongFalsely : Prop := topoTurnRow.holds Tryd.pinned (OpenSpec.ofChange topoTurnWrong)

/-- 'brambleweirlaw2.PairsLess': WHATEVER THE INPUT: true; the input reads as it did. -/
def pairsLessSpec : ChangeSpec := { name := "pairsLess", fn := fun _ => fun
  | [d1, d2, d3] => { results := [.lit (.bool true)], args := [d1, d2, d3] }
  | _ => none }
def pairsLessRow : OpenClaim := { program := "ytblhpmhfhpmifaadoor", sum := "fc26d98798b8dd23479f1f1748e36633b532912a28704c3a4504a39717eabda7", func := "brambleweir/brambleweirlaw2.PairsLess", spec := "pairsLess", inPlace := ["internal/reflectlite.ValueOf", "(internal/reflectlite.Value).Type", "(internal/reflectlite.Value).IsNil", "internal/reflectlite.TypeOf", "(internal/reflectlite.Value).Elem", "(internal/reflectlite.Value).Set"], unfollowed := true, recurses := true, named := ["errors.errorType"], apart := false, laid := [("errors.errorType", laid_errors_errorType)] }
def PairsLessSaid : Prop := pairsLessRow.holds Tryd.pinned (OpenSpec.ofChange pairsLessSpec)

/-- ITS FALSE NEIGHBOUR: 'it returns false'. Refute it at one input. -/
def pairsLessWrong : ChangeSpec := { name := "pairsLess", fn := fun _ => fun
  | [d1, d2, d3] => { results := [.lit (.bool false)], args := [d1, d2, d3] }
  | _ => none }
def PairsLessWrongFalsely : Prop := pairsLessRow.holds Tryd.pinned (OpenSpec.ofChange pairsLessWrong)

/-- 'brambleweirlaw2.MatchSays': WHATEVER THE INPUT: true; the input reads as it did. -/
def matchSaysSpec : ChangeSpec := { name := "matchSays", fn := fun _ => fun
  | [d1, d2, d3] => { results := [.lit (.bool true)], args := [d1, d2, d3] }
  | _ => none }
def matchSaysRow : OpenClaim := { program := "ytblhpmhfhpmifaadoor", sum := "fc26d98798b8dd23479f1f1748e36633b532912a28704c3a4504a39717eabda7", func := "brambleweir/brambleweirlaw2.MatchSays", spec := "matchSays", inPlace := ["internal/reflectlite.ValueOf", "(internal/reflectlite.Value).Type", "(internal/reflectlite.Value).IsNil", "internal/reflectlite.TypeOf", "(internal/reflectlite.Value).Elem", "(internal/reflectlite.Value).Set"], unfollowed := true, recurses := true, named := ["errors.errorType"], apart := false, laid := [("errors.errorType", laid_errors_errorType)] }
def MatchSaysSaid : Prop := matchSaysRow.holds Tryd.pinned (OpenSpec.ofChange matchSaysSpec)

/-- ITS FALSE NEIGHBOUR: 'it returns false'. Refute it at one input. -/
def matchSaysWrong : ChangeSpec := { name := "matchSays", fn := fun _ => fun
  | [d1, d2, d3] => { results := [.lit (.bool false)], args := [d1, d2, d3] }
  | _ => none }
def MatchSaysWrongFalsely : Prop := matchSaysRow.holds Tryd.pinned (OpenSpec.ofChange matchSaysWrong)

/-- 'brambleweirlaw2.PairsSays': WHATEVER THE INPUT: true; the input reads as it did. -/
def pairsSaysSpec : ChangeSpec := { name := "pairsSays", fn := fun _ => fun
  | [d1, d2, d3] => { results := [.lit (.bool true)], args := [d1, d2, d3] }
  | _ => none }
def pairsSaysRow : OpenClaim := { program := "ytblhpmhfhpmifaadoor", sum := "fc26d98798b8dd23479f1f1748e36633b532912a28704c3a4504a39717eabda7", func := "brambleweir/brambleweirlaw2.PairsSays", spec := "pairsSays", inPlace := ["internal/reflectlite.ValueOf", "(internal/reflectlite.Value).Type", "(internal/reflectlite.Value).IsNil", "internal/reflectlite.TypeOf", "(internal/reflectlite.Value).Elem", "(internal/reflectlite.Value).Set"], unfollowed := true, recurses := true, named := ["errors.errorType"], apart := false, laid := [("errors.errorType", laid_errors_errorType)] }
def PairsSaysSaid : Prop := pairsSaysRow.holds Tryd.pinned (OpenSpec.ofChange pairsSaysSpec)

/-- ITS FALSE NEIGHBOUR: 'it returns false'. Refute it at one input. -/
def pairsSaysWrong : ChangeSpec := { name := "pairsSays", fn := fun _ => fun
  | [d1, d2, d3] => { results := [.lit (.bool false)], args := [d1, d2, d3] }
  | _ => none }
def PairsSaysWrongFalsely : Prop := pairsSaysRow.holds Tryd.pinned (OpenSpec.ofChange pairsSaysWrong)

/-- 'brambleweirlaw2.PairsRight': WHATEVER THE INPUT: true; the input reads as it did. -/
def pairsRightSpec : ChangeSpec := { name := "pairsRight", fn := fun _ => fun
  | [d1, d2, d3] => { results := [.lit (.bool true)], args := [d1, d2, d3] }
  | _ => none }
def pairsRightRow : OpenClaim := { program := "ytblhpmhfhpmifaadoor", sum := "fc26d98798b8dd23479f1f1748e36633b532912a28704c3a4504a39717eabda7", func := "brambleweir/brambleweirlaw2.PairsRight", spec := "pairsRight", inPlace := ["internal/reflectlite.ValueOf", "(internal/reflectlite.Value).Type", "(internal/reflectlite.Value).IsNil", "internal/reflectlite.TypeOf", "(internal/reflectlite.Value).Elem", "(internal/reflectlite.Value).Set"], unfollowed := true, recurses := true, named := ["errors.errorType"], apart := false, laid := [("errors.errorType", laid_errors_errorType)] }
def PairsRightSaid : Prop := pairsRightRow.holds Tryd.pinned (OpenSpec.ofChange pairsRightSpec)

/-- ITS FALSE NEIGHBOUR: 'it returns false'. Refute it at one input. -/
def pairsRightWrong : ChangeSpec := { name := "pairsRight", fn := fun _ => fun
  | [d1, d2, d3] => { results := [.lit (.bool false)], args := [d1, d2, d3] }
  | _ => none }
def PairsRightWrongFalsely : Prop := pairsRightRow.holds Tryd.pinned (OpenSpec.ofChange pairsRightWrong)

/-- 'brambleweirlaw2.CloseSays': WHATEVER THE INPUT: true; the input reads as it did. -/
def closeSaysSpec : ChangeSpec := { name := "closeSays", fn := fun _ => fun
  | [d1, d2] => { results := [.lit (.bool true)], args := [d1, d2] }
  | _ => none }
def closeSaysRow : OpenClaim := { program := "ytblhpmhfhpmifaadoor", sum := "fc26d98798b8dd23479f1f1748e36633b532912a28704c3a4504a39717eabda7", func := "brambleweir/brambleweirlaw2.CloseSays", spec := "closeSays", inPlace := ["internal/reflectlite.ValueOf", "(internal/reflectlite.Value).Type", "(internal/reflectlite.Value).IsNil", "internal/reflectlite.TypeOf", "(internal/reflectlite.Value).Elem", "(internal/reflectlite.Value).Set"], unfollowed := true, recurses := true, named := ["errors.errorType"], apart := false, laid := [("errors.errorType", laid_errors_errorType)] }
def CloseSaysSaid : Prop := closeSaysRow.holds Tryd.pinned (OpenSpec.ofChange closeSaysSpec)

/-- ITS FALSE NEIGHBOUR: 'it returns false'. Refute it at one input. -/
def closeSaysWrong : ChangeSpec := { name := "closeSays", fn := fun _ => fun
  | [d1, d2] => { results := [.lit (.bool false)], args := [d1, d2] }
  | _ => none }
def CloseSaysWrongFalsely : Prop := closeSaysRow.holds Tryd.pinned (OpenSpec.ofChange closeSaysWrong)

/-- 'brambleweirlaw2.CloseTurn': WHATEVER THE INPUT: true; the input reads as it did. -/
def closeTurnSpec : ChangeSpec := { name := "closeTurn", fn := fun _ => fun
  | [d1, d2] => { results := [.lit (.bool true)], args := [d1, d2] }
  | _ => none }
def closeTurnRow : OpenClaim := { program := "ytblhpmhfhpmifaadoor", sum := "fc26d98798b8dd23479f1f1748e36633b532912a28704c3a4504a39717eabda7", func := "brambleweir/brambleweirlaw2.CloseTurn", spec := "closeTurn", inPlace := ["internal/reflectlite.ValueOf", "(internal/reflectlite.Value).Type", "(internal/reflectlite.Value).IsNil", "internal/reflectlite.TypeOf", "(internal/reflectlite.Value).Elem", "(internal/reflectlite.Value).Set"], unfollowed := true, recurses := true, named := ["errors.errorType"], apart := false, laid := [("errors.errorType", laid_errors_errorType)] }
def CloseTurnSaid : Prop := closeTurnRow.holds Tryd.pinned (OpenSpec.ofChange closeTurnSpec)

/-- ITS FALSE NEIGHBOUR: 'it returns false'. Refute it at one input. -/
def closeTurnWrong : ChangeSpec := { name := "closeTurn", fn := fun _ => fun
  | [d1, d2] => { results := [.lit (.bool false)], args := [d1, d2] }
  | _ => none }
def CloseTurnWrongFalsely : Prop := closeTurnRow.holds Tryd.pinned (OpenSpec.ofChange closeTurnWrong)

/-- 'brambleweirlaw2.StrongSays': WHATEVER THE INPUT: true; the input reads as it did. -/
def strongSaysSpec : ChangeSpec := { name := "strongSays", fn := fun _ => fun
  | [d1, d2] => { results := [.lit (.bool true)], args := [d1, d2] }
  | _ => none }
def strongSaysRow : OpenClaim := { program := "ytblhpmhfhpmifaadoor", sum := "fc26d98798b8dd23479f1f1748e36633b532912a28704c3a4504a39717eabda7", func := "brambleweir/brambleweirlaw2.StrongSays", spec := "strongSays", inPlace := ["internal/reflectlite.ValueOf", "(internal/reflectlite.Value).Type", "(internal/reflectlite.Value).IsNil", "internal/reflectlite.TypeOf", "(internal/reflectlite.Value).Elem", "(internal/reflectlite.Value).Set"], unfollowed := true, recurses := true, named := ["errors.errorType"], apart := false, laid := [("errors.errorType", laid_errors_errorType)] }
def StrongSaysSaid : Prop := strongSaysRow.holds Tryd.pinned (OpenSpec.ofChange strongSaysSpec)

/-- ITS FALSE NEIGHBOUR: 'it returns false'. Refute it at one input. -/
def strongSaysWrong : ChangeSpec := { name := "strongSays", fn := fun _ => fun
  | [d1, d2] => { results := [.lit (.bool false)], args := [d1, d2] }
  | _ => none }
def StrongSaysWrongFalsely : Prop := strongSaysRow.holds Tryd.pinned (OpenSpec.ofChange strongSaysWrong)

/-- 'brambleweirlaw2.StableSays': WHATEVER THE INPUT: true; the input reads as it did. -/
def stableSaysSpec : ChangeSpec := { name := "stableSays", fn := fun _ => fun
  | [d1, d2, d3] => { results := [.lit (.bool true)], args := [d1, d2, d3] }
  | _ => none }
def stableSaysRow : OpenClaim := { program := "ytblhpmhfhpmifaadoor", sum := "fc26d98798b8dd23479f1f1748e36633b532912a28704c3a4504a39717eabda7", func := "brambleweir/brambleweirlaw2.StableSays", spec := "stableSays", inPlace := ["internal/reflectlite.ValueOf", "(internal/reflectlite.Value).Type", "(internal/reflectlite.Value).IsNil", "internal/reflectlite.TypeOf", "(internal/reflectlite.Value).Elem", "(internal/reflectlite.Value).Set"], unfollowed := true, recurses := true, named := ["errors.errorType"], apart := false, laid := [("errors.errorType", laid_errors_errorType)] }
def StableSaysSaid : Prop := stableSaysRow.holds Tryd.pinned (OpenSpec.ofChange stableSaysSpec)

/-- ITS FALSE NEIGHBOUR: 'it returns false'. Refute it at one input. -/
def stableSaysWrong : ChangeSpec := { name := "stableSays", fn := fun _ => fun
  | [d1, d2, d3] => { results := [.lit (.bool false)], args := [d1, d2, d3] }
  | _ => none }
def StableSaysWrongFalsely : Prop := stableSaysRow.holds Tryd.pinned (OpenSpec.ofChange stableSaysWrong)

/-- 'brambleweirlaw2.DomSays': WHATEVER THE INPUT: true; the input reads as it did. -/
def domSaysSpec : ChangeSpec := { name := "domSays", fn := fun _ => fun
  | [d1, d2, d3] => { results := [.lit (.bool true)], args := [d1, d2, d3] }
  | _ => none }
def domSaysRow : OpenClaim := { program := "ytblhpmhfhpmifaadoor", sum := "fc26d98798b8dd23479f1f1748e36633b532912a28704c3a4504a39717eabda7", func := "brambleweir/brambleweirlaw2.DomSays", spec := "domSays", inPlace := ["internal/reflectlite.ValueOf", "(internal/reflectlite.Value).Type", "(internal/reflectlite.Value).IsNil", "internal/reflectlite.TypeOf", "(internal/reflectlite.Value).Elem", "(internal/reflectlite.Value).Set"], unfollowed := true, recurses := true, named := ["errors.errorType"], apart := false, laid := [("errors.errorType", laid_errors_errorType)] }
def DomSaysSaid : Prop := domSaysRow.holds Tryd.pinned (OpenSpec.ofChange domSaysSpec)

/-- ITS FALSE NEIGHBOUR: 'it returns false'. Refute it at one input. -/
def domSaysWrong : ChangeSpec := { name := "domSays", fn := fun _ => fun
  | [d1, d2, d3] => { results := [.lit (.bool false)], args := [d1, d2, d3] }
  | _ => none }
def DomSaysWrongFalsely : Prop := domSaysRow.holds Tryd.pinned (OpenSpec.ofChange domSaysWrong)

/-- 'brambleweirlaw2.PairsAspvall': WHATEVER THE INPUT: true; the input reads as it did. -/
def pairsAspvallSpec : ChangeSpec := { name := "pairsAspvall", fn := fun _ => fun
  | [d1, d2] => { results := [.lit (.bool true)], args := [d1, d2] }
  | _ => none }
def pairsAspvallRow : OpenClaim := { program := "ytblhpmhfhpmifaadoor", sum := "fc26d98798b8dd23479f1f1748e36633b532912a28704c3a4504a39717eabda7", func := "brambleweir/brambleweirlaw2.PairsAspvall", spec := "pairsAspvall", inPlace := ["internal/reflectlite.ValueOf", "(internal/reflectlite.Value).Type", "(internal/reflectlite.Value).IsNil", "internal/reflectlite.TypeOf", "(internal/reflectlite.Value).Elem", "(internal/reflectlite.Value).Set"], unfollowed := true, recurses := true, named := ["errors.errorType"], apart := false, laid := [("errors.errorType", laid_errors_errorType)] }
def PairsAspvallSaid : Prop := pairsAspvallRow.holds Tryd.pinned (OpenSpec.ofChange pairsAspvallSpec)

/-- ITS FALSE NEIGHBOUR: 'it returns false'. Refute it at one input. -/
def pairsAspvallWrong : ChangeSpec := { name := "pairsAspvall", fn := fun _ => fun
  | [d1, d2] => { results := [.lit (.bool false)], args := [d1, d2] }
  | _ => none }
def PairsAspvallWrongFalsely : Prop := pairsAspvallRow.holds Tryd.pinned (OpenSpec.ofChange pairsAspvallWrong)

/-- 'brambleweirlaw2.HalvesSays': WHATEVER THE INPUT: true; the input reads as it did. -/
def halvesSaysSpec : ChangeSpec := { name := "halvesSays", fn := fun _ => fun
  | [d1, d2] => { results := [.lit (.bool true)], args := [d1, d2] }
  | _ => none }
def halvesSaysRow : OpenClaim := { program := "ytblhpmhfhpmifaadoor", sum := "fc26d98798b8dd23479f1f1748e36633b532912a28704c3a4504a39717eabda7", func := "brambleweir/brambleweirlaw2.HalvesSays", spec := "halvesSays", inPlace := ["internal/reflectlite.ValueOf", "(internal/reflectlite.Value).Type", "(internal/reflectlite.Value).IsNil", "internal/reflectlite.TypeOf", "(internal/reflectlite.Value).Elem", "(internal/reflectlite.Value).Set"], unfollowed := true, recurses := true, named := ["errors.errorType"], apart := false, laid := [("errors.errorType", laid_errors_errorType)] }
def HalvesSaysSaid : Prop := halvesSaysRow.holds Tryd.pinned (OpenSpec.ofChange halvesSaysSpec)

/-- ITS FALSE NEIGHBOUR: 'it returns false'. Refute it at one input. -/
def halvesSaysWrong : ChangeSpec := { name := "halvesSays", fn := fun _ => fun
  | [d1, d2] => { results := [.lit (.bool false)], args := [d1, d2] }
  | _ => none }
def HalvesSaysWrongFalsely : Prop := halvesSaysRow.holds Tryd.pinned (OpenSpec.ofChange halvesSaysWrong)

/-- 'brambleweirlaw2.HalvesKonig': WHATEVER THE INPUT: true; the input reads as it did. -/
def halvesKonigSpec : ChangeSpec := { name := "halvesKonig", fn := fun _ => fun
  | [d1, d2] => { results := [.lit (.bool true)], args := [d1, d2] }
  | _ => none }
def halvesKonigRow : OpenClaim := { program := "ytblhpmhfhpmifaadoor", sum := "fc26d98798b8dd23479f1f1748e36633b532912a28704c3a4504a39717eabda7", func := "brambleweir/brambleweirlaw2.HalvesKonig", spec := "halvesKonig", inPlace := ["internal/reflectlite.ValueOf", "(internal/reflectlite.Value).Type", "(internal/reflectlite.Value).IsNil", "internal/reflectlite.TypeOf", "(internal/reflectlite.Value).Elem", "(internal/reflectlite.Value).Set"], unfollowed := true, recurses := true, named := ["errors.errorType"], apart := false, laid := [("errors.errorType", laid_errors_errorType)] }
def HalvesKonigSaid : Prop := halvesKonigRow.holds Tryd.pinned (OpenSpec.ofChange halvesKonigSpec)

/-- ITS FALSE NEIGHBOUR: 'it returns false'. Refute it at one input. -/
def halvesKonigWrong : ChangeSpec := { name := "halvesKonig", fn := fun _ => fun
  | [d1, d2] => { results := [.lit (.bool false)], args := [d1, d2] }
  | _ => none }
def HalvesKonigWrongFalsely : Prop := halvesKonigRow.holds Tryd.pinned (OpenSpec.ofChange halvesKonigWrong)

/-- 'brambleweirlaw2.ChainSays': WHATEVER THE INPUT: true; the input reads as it did. -/
def chainSaysSpec : ChangeSpec := { name := "chainSays", fn := fun _ => fun
  | [d1, d2] => { results := [.lit (.bool true)], args := [d1, d2] }
  | _ => none }
def chainSaysRow : OpenClaim := { program := "ytblhpmhfhpmifaadoor", sum := "fc26d98798b8dd23479f1f1748e36633b532912a28704c3a4504a39717eabda7", func := "brambleweir/brambleweirlaw2.ChainSays", spec := "chainSays", inPlace := ["internal/reflectlite.ValueOf", "(internal/reflectlite.Value).Type", "(internal/reflectlite.Value).IsNil", "internal/reflectlite.TypeOf", "(internal/reflectlite.Value).Elem", "(internal/reflectlite.Value).Set"], unfollowed := true, recurses := true, named := ["errors.errorType"], apart := false, laid := [("errors.errorType", laid_errors_errorType)] }
def ChainSaysSaid : Prop := chainSaysRow.holds Tryd.pinned (OpenSpec.ofChange chainSaysSpec)

/-- ITS FALSE NEIGHBOUR: 'it returns false'. Refute it at one input. -/
def chainSaysWrong : ChangeSpec := { name := "chainSays", fn := fun _ => fun
  | [d1, d2] => { results := [.lit (.bool false)], args := [d1, d2] }
  | _ => none }
def ChainSaysWrongFalsely : Prop := chainSaysRow.holds Tryd.pinned (OpenSpec.ofChange chainSaysWrong)

/- THE SECOND FORM. 'bulk': how many values and letters a reading holds, each counted each time it is reached (what is shared counts as often as it is met; a slice's spare places count too). A statement '..UptoSaid' is the law's where the arguments, and the package variables that the reading takes, are together of bulk at most 1048576: NARROWER than '..Said'. Prove '..Said' where nothing that the law and all that it calls make is longer than what came in: it says more and counts as full. Else prove '..UptoSaid'. A law counts once. -/
mutual
def uptoBulk {H : Type} : DataW H → Nat
  | .lit (.string bytes) => bytes.length + 1
  | .lit _ => 1
  | .nil => 1
  | .ptr d => uptoBulk d + 1
  | .slice elems spare => uptoBulkAll elems + uptoBulkAll spare + 1
  | .agg parts => uptoBulkAll parts + 1
  | .iface _ d => uptoBulk d + 1
  | .map entries => uptoBulkEntries entries + 1
  | .held _ => 1
def uptoBulkAll {H : Type} : List (DataW H) → Nat
  | [] => 0
  | d :: r => uptoBulk d + uptoBulkAll r
def uptoBulkEntries {H : Type} : List (Lit × DataW H) → Nat
  | [] => 0
  | x :: r => uptoBulkEntry x + uptoBulkEntries r
def uptoBulkEntry {H : Type} : Lit × DataW H → Nat
  | (.string bytes, d) => bytes.length + uptoBulk d + 1
  | (_, d) => uptoBulk d + 1
 end
def uptoSmall : (H : Type) → List (DataW H) → Bool := fun _ ds => decide (uptoBulkAll ds ≤ 1048576)
def OpenSpec.upto (s : _root_.Go.ChangeSpec) : _root_.Go.OpenSpec := { _root_.Go.OpenSpec.ofChange s with cond := some uptoSmall }

/-- 'brambleweirlaw2.TopoSays', WHERE WHAT IT READS IS OF BULK AT MOST 1048576: true; the input reads as it did. -/
def topoSaysUptoRow : OpenClaim := { program := "ytblhpmhfhpmifaadoor", sum := "fc26d98798b8dd23479f1f1748e36633b532912a28704c3a4504a39717eabda7", func := "brambleweir/brambleweirlaw2.TopoSays", spec := "topoSays", inPlace := ["internal/reflectlite.ValueOf", "(internal/reflectlite.Value).Type", "(internal/reflectlite.Value).IsNil", "internal/reflectlite.TypeOf", "(internal/reflectlite.Value).Elem", "(internal/reflectlite.Value).Set"], unfollowed := true, recurses := true, named := ["errors.errorType"], apart := false, laid := [("errors.errorType", laid_errors_errorType)], narrowed := true }
def TopoSaysUptoSaid : Prop := topoSaysUptoRow.holds Tryd.pinned (OpenSpec.upto topoSaysSpec)

/-- 'brambleweirlaw2.TopoKahn', WHERE WHAT IT READS IS OF BULK AT MOST 1048576: true; the input reads as it did. -/
def topoKahnUptoRow : OpenClaim := { program := "ytblhpmhfhpmifaadoor", sum := "fc26d98798b8dd23479f1f1748e36633b532912a28704c3a4504a39717eabda7", func := "brambleweir/brambleweirlaw2.TopoKahn", spec := "topoKahn", inPlace := ["internal/reflectlite.ValueOf", "(internal/reflectlite.Value).Type", "(internal/reflectlite.Value).IsNil", "internal/reflectlite.TypeOf", "(internal/reflectlite.Value).Elem", "(internal/reflectlite.Value).Set"], unfollowed := true, recurses := true, named := ["errors.errorType"], apart := false, laid := [("errors.errorType", laid_errors_errorType)], narrowed := true }
def TopoKahnUptoSaid : Prop := topoKahnUptoRow.holds Tryd.pinned (OpenSpec.upto topoKahnSpec)

/-- 'brambleweirlaw2.TopoDeep', WHERE WHAT IT READS IS OF BULK AT MOST 1048576: true; the input reads as it did. -/
def topoDeepUptoRow : OpenClaim := { program := "ytblhpmhfhpmifaadoor", sum := "fc26d98798b8dd23479f1f1748e36633b532912a28704c3a4504a39717eabda7", func := "brambleweir/brambleweirlaw2.TopoDeep", spec := "topoDeep", inPlace := ["internal/reflectlite.ValueOf", "(internal/reflectlite.Value).Type", "(internal/reflectlite.Value).IsNil", "internal/reflectlite.TypeOf", "(internal/reflectlite.Value).Elem", "(internal/reflectlite.Value).Set"], unfollowed := true, recurses := true, named := ["errors.errorType"], apart := false, laid := [("errors.errorType", laid_errors_errorType)], narrowed := true }
def TopoDeepUptoSaid : Prop := topoDeepUptoRow.holds Tryd.pinned (OpenSpec.upto topoDeepSpec)

/-- 'brambleweirlaw2.TopoTurn', WHERE WHAT IT READS IS OF BULK AT MOST 1048576: true; the input reads as it did. -/
def topoTurnUptoRow : OpenClaim := { program := "ytblhpmhfhpmifaadoor", sum := "fc26d98798b8dd23479f1f1748e36633b532912a28704c3a4504a39717eabda7", func := "brambleweir/brambleweirlaw2.TopoTurn", spec := "topoTurn", inPlace := ["internal/reflectlite.ValueOf", "(internal/reflectlite.Value).Type", "(internal/reflectlite.Value).IsNil", "internal/reflectlite.TypeOf", "(internal/reflectlite.Value).Elem", "(internal/reflectlite.Value).Set"], unfollowed := true, recurses := true, named := ["errors.errorType"], apart := false, laid := [("errors.errorType", laid_errors_errorType)], narrowed := true }
def TopoTurnUptoSaid : Prop := topoTurnUptoRow.holds Tryd.pinned (OpenSpec.upto topoTurnSpec)

/-- 'brambleweirlaw2.PairsLess', WHERE WHAT IT READS IS OF BULK AT MOST 1048576: true; the input reads as it did. -/
def pairsLessUptoRow : OpenClaim := { program := "ytblhpmhfhpmifaadoor", sum := "fc26d98798b8dd23479f1f1748e36633b532912a28704c3a4504a39717eabda7", func := "brambleweir/brambleweirlaw2.PairsLess", spec := "pairsLess", inPlace := ["internal/reflectlite.ValueOf", "(internal/reflectlite.Value).Type", "(internal/reflectlite.Value).IsNil", "internal/reflectlite.TypeOf", "(internal/reflectlite.Value).Elem", "(internal/reflectlite.Value).Set"], unfollowed := true, recurses := true, named := ["errors.errorType"], apart := false, laid := [("errors.errorType", laid_errors_errorType)], narrowed := true }
def PairsLessUptoSaid : Prop := pairsLessUptoRow.holds Tryd.pinned (OpenSpec.upto pairsLessSpec)

/-- 'brambleweirlaw2.MatchSays', WHERE WHAT IT READS IS OF BULK AT MOST 1048576: true; the input reads as it did. -/
def matchSaysUptoRow : OpenClaim := { program := "ytblhpmhfhpmifaadoor", sum := "fc26d98798b8dd23479f1f1748e36633b532912a28704c3a4504a39717eabda7", func := "brambleweir/brambleweirlaw2.MatchSays", spec := "matchSays", inPlace := ["internal/reflectlite.ValueOf", "(internal/reflectlite.Value).Type", "(internal/reflectlite.Value).IsNil", "internal/reflectlite.TypeOf", "(internal/reflectlite.Value).Elem", "(internal/reflectlite.Value).Set"], unfollowed := true, recurses := true, named := ["errors.errorType"], apart := false, laid := [("errors.errorType", laid_errors_errorType)], narrowed := true }
def MatchSaysUptoSaid : Prop := matchSaysUptoRow.holds Tryd.pinned (OpenSpec.upto matchSaysSpec)

/-- 'brambleweirlaw2.PairsSays', WHERE WHAT IT READS IS OF BULK AT MOST 1048576: true; the input reads as it did. -/
def pairsSaysUptoRow : OpenClaim := { program := "ytblhpmhfhpmifaadoor", sum := "fc26d98798b8dd23479f1f1748e36633b532912a28704c3a4504a39717eabda7", func := "brambleweir/brambleweirlaw2.PairsSays", spec := "pairsSays", inPlace := ["internal/reflectlite.ValueOf", "(internal/reflectlite.Value).Type", "(internal/reflectlite.Value).IsNil", "internal/reflectlite.TypeOf", "(internal/reflectlite.Value).Elem", "(internal/reflectlite.Value).Set"], unfollowed := true, recurses := true, named := ["errors.errorType"], apart := false, laid := [("errors.errorType", laid_errors_errorType)], narrowed := true }
def PairsSaysUptoSaid : Prop := pairsSaysUptoRow.holds Tryd.pinned (OpenSpec.upto pairsSaysSpec)

/-- 'brambleweirlaw2.PairsRight', WHERE WHAT IT READS IS OF BULK AT MOST 1048576: true; the input reads as it did. -/
def pairsRightUptoRow : OpenClaim := { program := "ytblhpmhfhpmifaadoor", sum := "fc26d98798b8dd23479f1f1748e36633b532912a28704c3a4504a39717eabda7", func := "brambleweir/brambleweirlaw2.PairsRight", spec := "pairsRight", inPlace := ["internal/reflectlite.ValueOf", "(internal/reflectlite.Value).Type", "(internal/reflectlite.Value).IsNil", "internal/reflectlite.TypeOf", "(internal/reflectlite.Value).Elem", "(internal/reflectlite.Value).Set"], unfollowed := true, recurses := true, named := ["errors.errorType"], apart := false, laid := [("errors.errorType", laid_errors_errorType)], narrowed := true }
def PairsRightUptoSaid : Prop := pairsRightUptoRow.holds Tryd.pinned (OpenSpec.upto pairsRightSpec)

/-- 'brambleweirlaw2.CloseSays', WHERE WHAT IT READS IS OF BULK AT MOST 1048576: true; the input reads as it did. -/
def closeSaysUptoRow : OpenClaim := { program := "ytblhpmhfhpmifaadoor", sum := "fc26d98798b8dd23479f1f1748e36633b532912a28704c3a4504a39717eabda7", func := "brambleweir/brambleweirlaw2.CloseSays", spec := "closeSays", inPlace := ["internal/reflectlite.ValueOf", "(internal/reflectlite.Value).Type", "(internal/reflectlite.Value).IsNil", "internal/reflectlite.TypeOf", "(internal/reflectlite.Value).Elem", "(internal/reflectlite.Value).Set"], unfollowed := true, recurses := true, named := ["errors.errorType"], apart := false, laid := [("errors.errorType", laid_errors_errorType)], narrowed := true }
def CloseSaysUptoSaid : Prop := closeSaysUptoRow.holds Tryd.pinned (OpenSpec.upto closeSaysSpec)

/-- 'brambleweirlaw2.CloseTurn', WHERE WHAT IT READS IS OF BULK AT MOST 1048576: true; the input reads as it did. -/
def closeTurnUptoRow : OpenClaim := { program := "ytblhpmhfhpmifaadoor", sum := "fc26d98798b8dd23479f1f1748e36633b532912a28704c3a4504a39717eabda7", func := "brambleweir/brambleweirlaw2.CloseTurn", spec := "closeTurn", inPlace := ["internal/reflectlite.ValueOf", "(internal/reflectlite.Value).Type", "(internal/reflectlite.Value).IsNil", "internal/reflectlite.TypeOf", "(internal/reflectlite.Value).Elem", "(internal/reflectlite.Value).Set"], unfollowed := true, recurses := true, named := ["errors.errorType"], apart := false, laid := [("errors.errorType", laid_errors_errorType)], narrowed := true }
def CloseTurnUptoSaid : Prop := closeTurnUptoRow.holds Tryd.pinned (OpenSpec.upto closeTurnSpec)

/-- 'brambleweirlaw2.StrongSays', WHERE WHAT IT READS IS OF BULK AT MOST 1048576: true; the input reads as it did. -/
def strongSaysUptoRow : OpenClaim := { program := "ytblhpmhfhpmifaadoor", sum := "fc26d98798b8dd23479f1f1748e36633b532912a28704c3a4504a39717eabda7", func := "brambleweir/brambleweirlaw2.StrongSays", spec := "strongSays", inPlace := ["internal/reflectlite.ValueOf", "(internal/reflectlite.Value).Type", "(internal/reflectlite.Value).IsNil", "internal/reflectlite.TypeOf", "(internal/reflectlite.Value).Elem", "(internal/reflectlite.Value).Set"], unfollowed := true, recurses := true, named := ["errors.errorType"], apart := false, laid := [("errors.errorType", laid_errors_errorType)], narrowed := true }
def StrongSaysUptoSaid : Prop := strongSaysUptoRow.holds Tryd.pinned (OpenSpec.upto strongSaysSpec)

/-- 'brambleweirlaw2.StableSays', WHERE WHAT IT READS IS OF BULK AT MOST 1048576: true; the input reads as it did. -/
def stableSaysUptoRow : OpenClaim := { program := "ytblhpmhfhpmifaadoor", sum := "fc26d98798b8dd23479f1f1748e36633b532912a28704c3a4504a39717eabda7", func := "brambleweir/brambleweirlaw2.StableSays", spec := "stableSays", inPlace := ["internal/reflectlite.ValueOf", "(internal/reflectlite.Value).Type", "(internal/reflectlite.Value).IsNil", "internal/reflectlite.TypeOf", "(internal/reflectlite.Value).Elem", "(internal/reflectlite.Value).Set"], unfollowed := true, recurses := true, named := ["errors.errorType"], apart := false, laid := [("errors.errorType", laid_errors_errorType)], narrowed := true }
def StableSaysUptoSaid : Prop := stableSaysUptoRow.holds Tryd.pinned (OpenSpec.upto stableSaysSpec)

/-- 'brambleweirlaw2.DomSays', WHERE WHAT IT READS IS OF BULK AT MOST 1048576: true; the input reads as it did. -/
def domSaysUptoRow : OpenClaim := { program := "ytblhpmhfhpmifaadoor", sum := "fc26d98798b8dd23479f1f1748e36633b532912a28704c3a4504a39717eabda7", func := "brambleweir/brambleweirlaw2.DomSays", spec := "domSays", inPlace := ["internal/reflectlite.ValueOf", "(internal/reflectlite.Value).Type", "(internal/reflectlite.Value).IsNil", "internal/reflectlite.TypeOf", "(internal/reflectlite.Value).Elem", "(internal/reflectlite.Value).Set"], unfollowed := true, recurses := true, named := ["errors.errorType"], apart := false, laid := [("errors.errorType", laid_errors_errorType)], narrowed := true }
def DomSaysUptoSaid : Prop := domSaysUptoRow.holds Tryd.pinned (OpenSpec.upto domSaysSpec)

/-- 'brambleweirlaw2.PairsAspvall', WHERE WHAT IT READS IS OF BULK AT MOST 1048576: true; the input reads as it did. -/
def pairsAspvallUptoRow : OpenClaim := { program := "ytblhpmhfhpmifaadoor", sum := "fc26d98798b8dd23479f1f1748e36633b532912a28704c3a4504a39717eabda7", func := "brambleweir/brambleweirlaw2.PairsAspvall", spec := "pairsAspvall", inPlace := ["internal/reflectlite.ValueOf", "(internal/reflectlite.Value).Type", "(internal/reflectlite.Value).IsNil", "internal/reflectlite.TypeOf", "(internal/reflectlite.Value).Elem", "(internal/reflectlite.Value).Set"], unfollowed := true, recurses := true, named := ["errors.errorType"], apart := false, laid := [("errors.errorType", laid_errors_errorType)], narrowed := true }
def PairsAspvallUptoSaid : Prop := pairsAspvallUptoRow.holds Tryd.pinned (OpenSpec.upto pairsAspvallSpec)

/-- 'brambleweirlaw2.HalvesSays', WHERE WHAT IT READS IS OF BULK AT MOST 1048576: true; the input reads as it did. -/
def halvesSaysUptoRow : OpenClaim := { program := "ytblhpmhfhpmifaadoor", sum := "fc26d98798b8dd23479f1f1748e36633b532912a28704c3a4504a39717eabda7", func := "brambleweir/brambleweirlaw2.HalvesSays", spec := "halvesSays", inPlace := ["internal/reflectlite.ValueOf", "(internal/reflectlite.Value).Type", "(internal/reflectlite.Value).IsNil", "internal/reflectlite.TypeOf", "(internal/reflectlite.Value).Elem", "(internal/reflectlite.Value).Set"], unfollowed := true, recurses := true, named := ["errors.errorType"], apart := false, laid := [("errors.errorType", laid_errors_errorType)], narrowed := true }
def HalvesSaysUptoSaid : Prop := halvesSaysUptoRow.holds Tryd.pinned (OpenSpec.upto halvesSaysSpec)

/-- 'brambleweirlaw2.HalvesKonig', WHERE WHAT IT READS IS OF BULK AT MOST 1048576: true; the input reads as it did. -/
def halvesKonigUptoRow : OpenClaim := { program := "ytblhpmhfhpmifaadoor", sum := "fc26d98798b8dd23479f1f1748e36633b532912a28704c3a4504a39717eabda7", func := "brambleweir/brambleweirlaw2.HalvesKonig", spec := "halvesKonig", inPlace := ["internal/reflectlite.ValueOf", "(internal/reflectlite.Value).Type", "(internal/reflectlite.Value).IsNil", "internal/reflectlite.TypeOf", "(internal/reflectlite.Value).Elem", "(internal/reflectlite.Value).Set"], unfollowed := true, recurses := true, named := ["errors.errorType"], apart := false, laid := [("errors.errorType", laid_errors_errorType)], narrowed := true }
def HalvesKonigUptoSaid : Prop := halvesKonigUptoRow.holds Tryd.pinned (OpenSpec.upto halvesKonigSpec)

/-- 'brambleweirlaw2.ChainSays', WHERE WHAT IT READS IS OF BULK AT MOST 1048576: true; the input reads as it did. -/
def chainSaysUptoRow : OpenClaim := { program := "ytblhpmhfhpmifaadoor", sum := "fc26d98798b8dd23479f1f1748e36633b532912a28704c3a4504a39717eabda7", func := "brambleweir/brambleweirlaw2.ChainSays", spec := "chainSays", inPlace := ["internal/reflectlite.ValueOf", "(internal/reflectlite.Value).Type", "(internal/reflectlite.Value).IsNil", "internal/reflectlite.TypeOf", "(internal/reflectlite.Value).Elem", "(internal/reflectlite.Value).Set"], unfollowed := true, recurses := true, named := ["errors.errorType"], apart := false, laid := [("errors.errorType", laid_errors_errorType)], narrowed := true }
def ChainSaysUptoSaid : Prop := chainSaysUptoRow.holds Tryd.pinned (OpenSpec.upto chainSaysSpec)

end Rows
end Go.Proofs.YtblhpmhfhpmifaaDoor
