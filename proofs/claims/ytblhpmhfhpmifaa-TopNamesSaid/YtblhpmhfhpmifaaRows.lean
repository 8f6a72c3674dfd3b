/-
  No cell of these rows narrows 'for every input' (looked for: loops, veiled, ifaces, maps, wideKeys, modest, calm, conditions, laid).
  DERIVED. THE GIVEN ROWS OF THIS SEAT. 23 by the template 'for every input the law returns true; each argument reads behind the call as it read before'; 0 by the template 'total and deterministic' (their statements: YtblhpmhfhpmifaaTotals.lean).
  GIVEN WITH THE SEED: the statements are not yours to turn. If you find one false, say at which input.
  Laid BY PROGRAM, IN A SANDBOX (cutbox-rows.mjs): the forced cells as the released guide's own fill.sh prints them over the translation 939686d56b0aaf2d… (all of the seat's roots in one cut). By AI agents, Wed Nov 11 2026. No macro, syntax, notation, axiom, sorry.
-/
import Derived.Test.YtblhpmhfhpmifaaChecked
import GoSem.Claim
import GoSem.ClaimJoined
import GoSem.ClaimMapViews
import Derived.JoinedTies
import Derived.KernelRfl
namespace Go.Proofs.Ytblhpmhfhpmifaa
/- THE CELL 'sum', in the pinned program and in every row, IS THE sha256 OF THE DUMP (.gsa) THAT YtblhpmhfhpmifaaProg.lean LOADS. Nothing in Lean hashes anything: it is a label: what it is worth is what the hold of that sum in a sandbox is worth. -/
noncomputable def Try.pinned : Pinned := { name := "ytblhpmhfhpmifaa", sum := "939686d56b0aaf2d991e007f64e4df116b405289303205d611c5ab49764dba6a", checked := Try.checked }
namespace Rows
def none {H : Type} : Left H := { results := [], args := [] }

/-- 'brambleweirlaw2.MatchKonig': WHATEVER THE INPUT: true; the input reads as it did. -/
def matchKonigSpec : ChangeSpec := { name := "matchKonig", fn := fun _ => fun
  | [d1, d2, d3] => { results := [.lit (.bool true)], args := [d1, d2, d3] }
  | _ => none }
def matchKonigRow : OpenClaim := { program := "ytblhpmhfhpmifaa", sum := "939686d56b0aaf2d991e007f64e4df116b405289303205d611c5ab49764dba6a", func := "brambleweir/brambleweirlaw2.MatchKonig", spec := "matchKonig", unfollowed := true, recurses := true, apart := false }
def MatchKonigSaid : Prop := matchKonigRow.holds Try.pinned (OpenSpec.ofChange matchKonigSpec)

/-- ITS FALSE NEIGHBOUR: 'it returns false'. Refute it at one input. -/
def matchKonigWrong : ChangeSpec := { name := "matchKonig", fn := fun _ => fun
  | [d1, d2, d3] => { results := [.lit (.bool false)], args := [d1, d2, d3] }
  | _ => none }
def MatchKonigWrongFalsely : Prop := matchKonigRow.holds Try.pinned (OpenSpec.ofChange matchKonigWrong)

/-- 'brambleweirlaw2.MatchHall': WHATEVER THE INPUT: true; the input reads as it did. -/
def matchHallSpec : ChangeSpec := { name := "matchHall", fn := fun _ => fun
  | [d1, d2, d3] => { results := [.lit (.bool true)], args := [d1, d2, d3] }
  | _ => none }
def matchHallRow : OpenClaim := { program := "ytblhpmhfhpmifaa", sum := "939686d56b0aaf2d991e007f64e4df116b405289303205d611c5ab49764dba6a", func := "brambleweir/brambleweirlaw2.MatchHall", spec := "matchHall", unfollowed := true, recurses := true, apart := false }
def MatchHallSaid : Prop := matchHallRow.holds Try.pinned (OpenSpec.ofChange matchHallSpec)

/-- ITS FALSE NEIGHBOUR: 'it returns false'. Refute it at one input. -/
def matchHallWrong : ChangeSpec := { name := "matchHall", fn := fun _ => fun
  | [d1, d2, d3] => { results := [.lit (.bool false)], args := [d1, d2, d3] }
  | _ => none }
def MatchHallWrongFalsely : Prop := matchHallRow.holds Try.pinned (OpenSpec.ofChange matchHallWrong)

/-- 'brambleweirlaw2.MatchTurn': WHATEVER THE INPUT: true; the input reads as it did. -/
def matchTurnSpec : ChangeSpec := { name := "matchTurn", fn := fun _ => fun
  | [d1, d2, d3, d4] => { results := [.lit (.bool true)], args := [d1, d2, d3, d4] }
  | _ => none }
def matchTurnRow : OpenClaim := { program := "ytblhpmhfhpmifaa", sum := "939686d56b0aaf2d991e007f64e4df116b405289303205d611c5ab49764dba6a", func := "brambleweir/brambleweirlaw2.MatchTurn", spec := "matchTurn", unfollowed := true, recurses := true, apart := false }
def MatchTurnSaid : Prop := matchTurnRow.holds Try.pinned (OpenSpec.ofChange matchTurnSpec)

/-- ITS FALSE NEIGHBOUR: 'it returns false'. Refute it at one input. -/
def matchTurnWrong : ChangeSpec := { name := "matchTurn", fn := fun _ => fun
  | [d1, d2, d3, d4] => { results := [.lit (.bool false)], args := [d1, d2, d3, d4] }
  | _ => none }
def MatchTurnWrongFalsely : Prop := matchTurnRow.holds Try.pinned (OpenSpec.ofChange matchTurnWrong)

/-- 'brambleweirlaw2.MatchLeast': WHATEVER THE INPUT: true; the input reads as it did. -/
def matchLeastSpec : ChangeSpec := { name := "matchLeast", fn := fun _ => fun
  | [d1, d2, d3, d4] => { results := [.lit (.bool true)], args := [d1, d2, d3, d4] }
  | _ => none }
def matchLeastRow : OpenClaim := { program := "ytblhpmhfhpmifaa", sum := "939686d56b0aaf2d991e007f64e4df116b405289303205d611c5ab49764dba6a", func := "brambleweir/brambleweirlaw2.MatchLeast", spec := "matchLeast", unfollowed := true, recurses := true, apart := false }
def MatchLeastSaid : Prop := matchLeastRow.holds Try.pinned (OpenSpec.ofChange matchLeastSpec)

/-- ITS FALSE NEIGHBOUR: 'it returns false'. Refute it at one input. -/
def matchLeastWrong : ChangeSpec := { name := "matchLeast", fn := fun _ => fun
  | [d1, d2, d3, d4] => { results := [.lit (.bool false)], args := [d1, d2, d3, d4] }
  | _ => none }
def MatchLeastWrongFalsely : Prop := matchLeastRow.holds Try.pinned (OpenSpec.ofChange matchLeastWrong)

/-- 'brambleweirlaw2.CloseWays': WHATEVER THE INPUT: true; the input reads as it did. -/
def closeWaysSpec : ChangeSpec := { name := "closeWays", fn := fun _ => fun
  | [d1, d2] => { results := [.lit (.bool true)], args := [d1, d2] }
  | _ => none }
def closeWaysRow : OpenClaim := { program := "ytblhpmhfhpmifaa", sum := "939686d56b0aaf2d991e007f64e4df116b405289303205d611c5ab49764dba6a", func := "brambleweir/brambleweirlaw2.CloseWays", spec := "closeWays", unfollowed := true, recurses := true, apart := false }
def CloseWaysSaid : Prop := closeWaysRow.holds Try.pinned (OpenSpec.ofChange closeWaysSpec)

/-- ITS FALSE NEIGHBOUR: 'it returns false'. Refute it at one input. -/
def closeWaysWrong : ChangeSpec := { name := "closeWays", fn := fun _ => fun
  | [d1, d2] => { results := [.lit (.bool false)], args := [d1, d2] }
  | _ => none }
def CloseWaysWrongFalsely : Prop := closeWaysRow.holds Try.pinned (OpenSpec.ofChange closeWaysWrong)

/-- 'brambleweirlaw2.CloseFew': WHATEVER THE INPUT: true; the input reads as it did. -/
def closeFewSpec : ChangeSpec := { name := "closeFew", fn := fun _ => fun
  | [d1, d2, d3] => { results := [.lit (.bool true)], args := [d1, d2, d3] }
  | _ => none }
def closeFewRow : OpenClaim := { program := "ytblhpmhfhpmifaa", sum := "939686d56b0aaf2d991e007f64e4df116b405289303205d611c5ab49764dba6a", func := "brambleweir/brambleweirlaw2.CloseFew", spec := "closeFew", unfollowed := true, recurses := true, apart := false }
def CloseFewSaid : Prop := closeFewRow.holds Try.pinned (OpenSpec.ofChange closeFewSpec)

/-- ITS FALSE NEIGHBOUR: 'it returns false'. Refute it at one input. -/
def closeFewWrong : ChangeSpec := { name := "closeFew", fn := fun _ => fun
  | [d1, d2, d3] => { results := [.lit (.bool false)], args := [d1, d2, d3] }
  | _ => none }
def CloseFewWrongFalsely : Prop := closeFewRow.holds Try.pinned (OpenSpec.ofChange closeFewWrong)

/-- 'brambleweirlaw2.StrongTurn': WHATEVER THE INPUT: true; the input reads as it did. -/
def strongTurnSpec : ChangeSpec := { name := "strongTurn", fn := fun _ => fun
  | [d1, d2] => { results := [.lit (.bool true)], args := [d1, d2] }
  | _ => none }
def strongTurnRow : OpenClaim := { program := "ytblhpmhfhpmifaa", sum := "939686d56b0aaf2d991e007f64e4df116b405289303205d611c5ab49764dba6a", func := "brambleweir/brambleweirlaw2.StrongTurn", spec := "strongTurn", unfollowed := true, recurses := true, apart := false }
def StrongTurnSaid : Prop := strongTurnRow.holds Try.pinned (OpenSpec.ofChange strongTurnSpec)

/-- ITS FALSE NEIGHBOUR: 'it returns false'. Refute it at one input. -/
def strongTurnWrong : ChangeSpec := { name := "strongTurn", fn := fun _ => fun
  | [d1, d2] => { results := [.lit (.bool false)], args := [d1, d2] }
  | _ => none }
def StrongTurnWrongFalsely : Prop := strongTurnRow.holds Try.pinned (OpenSpec.ofChange strongTurnWrong)

/-- 'brambleweirlaw2.StrongMore': WHATEVER THE INPUT: true; the input reads as it did. -/
def strongMoreSpec : ChangeSpec := { name := "strongMore", fn := fun _ => fun
  | [d1, d2, d3] => { results := [.lit (.bool true)], args := [d1, d2, d3] }
  | _ => none }
def strongMoreRow : OpenClaim := { program := "ytblhpmhfhpmifaa", sum := "939686d56b0aaf2d991e007f64e4df116b405289303205d611c5ab49764dba6a", func := "brambleweir/brambleweirlaw2.StrongMore", spec := "strongMore", unfollowed := true, recurses := true, apart := false }
def StrongMoreSaid : Prop := strongMoreRow.holds Try.pinned (OpenSpec.ofChange strongMoreSpec)

/-- ITS FALSE NEIGHBOUR: 'it returns false'. Refute it at one input. -/
def strongMoreWrong : ChangeSpec := { name := "strongMore", fn := fun _ => fun
  | [d1, d2, d3] => { results := [.lit (.bool false)], args := [d1, d2, d3] }
  | _ => none }
def StrongMoreWrongFalsely : Prop := strongMoreRow.holds Try.pinned (OpenSpec.ofChange strongMoreWrong)

/-- 'brambleweirlaw2.StableGale': WHATEVER THE INPUT: true; the input reads as it did. -/
def stableGaleSpec : ChangeSpec := { name := "stableGale", fn := fun _ => fun
  | [d1, d2] => { results := [.lit (.bool true)], args := [d1, d2] }
  | _ => none }
def stableGaleRow : OpenClaim := { program := "ytblhpmhfhpmifaa", sum := "939686d56b0aaf2d991e007f64e4df116b405289303205d611c5ab49764dba6a", func := "brambleweir/brambleweirlaw2.StableGale", spec := "stableGale", unfollowed := true, recurses := true, apart := false }
def StableGaleSaid : Prop := stableGaleRow.holds Try.pinned (OpenSpec.ofChange stableGaleSpec)

/-- ITS FALSE NEIGHBOUR: 'it returns false'. Refute it at one input. -/
def stableGaleWrong : ChangeSpec := { name := "stableGale", fn := fun _ => fun
  | [d1, d2] => { results := [.lit (.bool false)], args := [d1, d2] }
  | _ => none }
def StableGaleWrongFalsely : Prop := stableGaleRow.holds Try.pinned (OpenSpec.ofChange stableGaleWrong)

/-- 'brambleweirlaw2.StableBest': WHATEVER THE INPUT: true; the input reads as it did. -/
def stableBestSpec : ChangeSpec := { name := "stableBest", fn := fun _ => fun
  | [d1, d2, d3] => { results := [.lit (.bool true)], args := [d1, d2, d3] }
  | _ => none }
def stableBestRow : OpenClaim := { program := "ytblhpmhfhpmifaa", sum := "939686d56b0aaf2d991e007f64e4df116b405289303205d611c5ab49764dba6a", func := "brambleweir/brambleweirlaw2.StableBest", spec := "stableBest", unfollowed := true, recurses := true, apart := false }
def StableBestSaid : Prop := stableBestRow.holds Try.pinned (OpenSpec.ofChange stableBestSpec)

/-- ITS FALSE NEIGHBOUR: 'it returns false'. Refute it at one input. -/
def stableBestWrong : ChangeSpec := { name := "stableBest", fn := fun _ => fun
  | [d1, d2, d3] => { results := [.lit (.bool false)], args := [d1, d2, d3] }
  | _ => none }
def StableBestWrongFalsely : Prop := stableBestRow.holds Try.pinned (OpenSpec.ofChange stableBestWrong)

/-- 'brambleweirtop.TopNames': WHATEVER THE INPUT: true; the input reads as it did. -/
def topNamesSpec : ChangeSpec := { name := "topNames", fn := fun _ => fun
  | [d1, d2, d3] => { results := [.lit (.bool true)], args := [d1, d2, d3] }
  | _ => none }
def topNamesRow : OpenClaim := { program := "ytblhpmhfhpmifaa", sum := "939686d56b0aaf2d991e007f64e4df116b405289303205d611c5ab49764dba6a", func := "brambleweir/brambleweirtop.TopNames", spec := "topNames", unfollowed := true, recurses := true, apart := false }
def TopNamesSaid : Prop := topNamesRow.holds Try.pinned (OpenSpec.ofChange topNamesSpec)

/-- ITS FALSE NEIGHBOUR: 'it returns false'. Refute it at one input. -/
def topNamesWrong : ChangeSpec := { name := "topNames", fn := fun _ => fun
  | [d1, d2, d3] => { results := [.lit (.bool false)], args := [d1, d2, d3] }
  | _ => none }
def TopNamesWrongFalsely : Prop := topNamesRow.holds Try.pinned (OpenSpec.ofChange topNamesWrong)

/-- 'brambleweirlaw2.StableSame': WHATEVER THE INPUT: true; the input reads as it did. -/
def stableSameSpec : ChangeSpec := { name := "stableSame", fn := fun _ => fun
  | [d1, d2, d3] => { results := [.lit (.bool true)], args := [d1, d2, d3] }
  | _ => none }
def stableSameRow : OpenClaim := { program := "ytblhpmhfhpmifaa", sum := "939686d56b0aaf2d991e007f64e4df116b405289303205d611c5ab49764dba6a", func := "brambleweir/brambleweirlaw2.StableSame", spec := "stableSame", unfollowed := true, recurses := true, apart := false }
def StableSameSaid : Prop := stableSameRow.holds Try.pinned (OpenSpec.ofChange stableSameSpec)

/-- ITS FALSE NEIGHBOUR: 'it returns false'. Refute it at one input. -/
def stableSameWrong : ChangeSpec := { name := "stableSame", fn := fun _ => fun
  | [d1, d2, d3] => { results := [.lit (.bool false)], args := [d1, d2, d3] }
  | _ => none }
def StableSameWrongFalsely : Prop := stableSameRow.holds Try.pinned (OpenSpec.ofChange stableSameWrong)

/-- 'brambleweirlaw2.DomChain': WHATEVER THE INPUT: true; the input reads as it did. -/
def domChainSpec : ChangeSpec := { name := "domChain", fn := fun _ => fun
  | [d1, d2, d3] => { results := [.lit (.bool true)], args := [d1, d2, d3] }
  | _ => none }
def domChainRow : OpenClaim := { program := "ytblhpmhfhpmifaa", sum := "939686d56b0aaf2d991e007f64e4df116b405289303205d611c5ab49764dba6a", func := "brambleweir/brambleweirlaw2.DomChain", spec := "domChain", unfollowed := true, recurses := true, apart := false }
def DomChainSaid : Prop := domChainRow.holds Try.pinned (OpenSpec.ofChange domChainSpec)

/-- ITS FALSE NEIGHBOUR: 'it returns false'. Refute it at one input. -/
def domChainWrong : ChangeSpec := { name := "domChain", fn := fun _ => fun
  | [d1, d2, d3] => { results := [.lit (.bool false)], args := [d1, d2, d3] }
  | _ => none }
def DomChainWrongFalsely : Prop := domChainRow.holds Try.pinned (OpenSpec.ofChange domChainWrong)

/-- 'brambleweirlaw2.DomLast': WHATEVER THE INPUT: true; the input reads as it did. -/
def domLastSpec : ChangeSpec := { name := "domLast", fn := fun _ => fun
  | [d1, d2, d3] => { results := [.lit (.bool true)], args := [d1, d2, d3] }
  | _ => none }
def domLastRow : OpenClaim := { program := "ytblhpmhfhpmifaa", sum := "939686d56b0aaf2d991e007f64e4df116b405289303205d611c5ab49764dba6a", func := "brambleweir/brambleweirlaw2.DomLast", spec := "domLast", unfollowed := true, recurses := true, apart := false }
def DomLastSaid : Prop := domLastRow.holds Try.pinned (OpenSpec.ofChange domLastSpec)

/-- ITS FALSE NEIGHBOUR: 'it returns false'. Refute it at one input. -/
def domLastWrong : ChangeSpec := { name := "domLast", fn := fun _ => fun
  | [d1, d2, d3] => { results := [.lit (.bool false)], args := [d1, d2, d3] }
  | _ => none }
def DomLastWrongFalsely : Prop := domLastRow.holds Try.pinned (OpenSpec.ofChange domLastWrong)

/-- 'brambleweirlaw2.DomCut': WHATEVER THE INPUT: true; the input reads as it did. -/
def domCutSpec : ChangeSpec := { name := "domCut", fn := fun _ => fun
  | [d1, d2, d3, d4, d5] => { results := [.lit (.bool true)], args := [d1, d2, d3, d4, d5] }
  | _ => none }
def domCutRow : OpenClaim := { program := "ytblhpmhfhpmifaa", sum := "939686d56b0aaf2d991e007f64e4df116b405289303205d611c5ab49764dba6a", func := "brambleweir/brambleweirlaw2.DomCut", spec := "domCut", unfollowed := true, recurses := true, apart := false }
def DomCutSaid : Prop := domCutRow.holds Try.pinned (OpenSpec.ofChange domCutSpec)

/-- ITS FALSE NEIGHBOUR: 'it returns false'. Refute it at one input. -/
def domCutWrong : ChangeSpec := { name := "domCut", fn := fun _ => fun
  | [d1, d2, d3, d4, d5] => { results := [.lit (.bool false)], args := [d1, d2, d3, d4, d5] }
  | _ => none }
def DomCutWrongFalsely : Prop := domCutRow.holds Try.pinned (OpenSpec.ofChange domCutWrong)

/-- 'brambleweirtop.TopOver': WHATEVER THE INPUT: true; the input reads as it did. -/
def topOverSpec : ChangeSpec := { name := "topOver", fn := fun _ => fun
  | [d1, d2, d3] => { results := [.lit (.bool true)], args := [d1, d2, d3] }
  | _ => none }
def topOverRow : OpenClaim := { program := "ytblhpmhfhpmifaa", sum := "939686d56b0aaf2d991e007f64e4df116b405289303205d611c5ab49764dba6a", func := "brambleweir/brambleweirtop.TopOver", spec := "topOver", unfollowed := true, recurses := true, apart := false }
def TopOverSaid : Prop := topOverRow.holds Try.pinned (OpenSpec.ofChange topOverSpec)

/-- ITS FALSE NEIGHBOUR: 'it returns false'. Refute it at one input. -/
def topOverWrong : ChangeSpec := { name := "topOver", fn := fun _ => fun
  | [d1, d2, d3] => { results := [.lit (.bool false)], args := [d1, d2, d3] }
  | _ => none }
def TopOverWrongFalsely : Prop := topOverRow.holds Try.pinned (OpenSpec.ofChange topOverWrong)

/-- 'brambleweirlaw2.StrongBoth': WHATEVER THE INPUT: true; the input reads as it did. -/
def strongBothSpec : ChangeSpec := { name := "strongBoth", fn := fun _ => fun
  | [d1, d2, d3, d4] => { results := [.lit (.bool true)], args := [d1, d2, d3, d4] }
  | _ => none }
def strongBothRow : OpenClaim := { program := "ytblhpmhfhpmifaa", sum := "939686d56b0aaf2d991e007f64e4df116b405289303205d611c5ab49764dba6a", func := "brambleweir/brambleweirlaw2.StrongBoth", spec := "strongBoth", unfollowed := true, recurses := true, apart := false }
def StrongBothSaid : Prop := strongBothRow.holds Try.pinned (OpenSpec.ofChange strongBothSpec)

/-- ITS FALSE NEIGHBOUR: 'it returns false'. Refute it at one input. -/
def strongBothWrong : ChangeSpec := { name := "strongBoth", fn := fun _ => fun
  | [d1, d2, d3, d4] => { results := [.lit (.bool false)], args := [d1, d2, d3, d4] }
  | _ => none }
def StrongBothWrongFalsely : Prop := strongBothRow.holds Try.pinned (OpenSpec.ofChange strongBothWrong)

/-- 'brambleweirlaw2.HalvesLess': WHATEVER THE INPUT: true; the input reads as it did. -/
def halvesLessSpec : ChangeSpec := { name := "halvesLess", fn := fun _ => fun
  | [d1, d2, d3, d4] => { results := [.lit (.bool true)], args := [d1, d2, d3, d4] }
  | _ => none }
def halvesLessRow : OpenClaim := { program := "ytblhpmhfhpmifaa", sum := "939686d56b0aaf2d991e007f64e4df116b405289303205d611c5ab49764dba6a", func := "brambleweir/brambleweirlaw2.HalvesLess", spec := "halvesLess", unfollowed := true, recurses := true, apart := false }
def HalvesLessSaid : Prop := halvesLessRow.holds Try.pinned (OpenSpec.ofChange halvesLessSpec)

/-- ITS FALSE NEIGHBOUR: 'it returns false'. Refute it at one input. -/
def halvesLessWrong : ChangeSpec := { name := "halvesLess", fn := fun _ => fun
  | [d1, d2, d3, d4] => { results := [.lit (.bool false)], args := [d1, d2, d3, d4] }
  | _ => none }
def HalvesLessWrongFalsely : Prop := halvesLessRow.holds Try.pinned (OpenSpec.ofChange halvesLessWrong)

/-- 'brambleweirlaw2.StrongFold': WHATEVER THE INPUT: true; the input reads as it did. -/
def strongFoldSpec : ChangeSpec := { name := "strongFold", fn := fun _ => fun
  | [d1, d2] => { results := [.lit (.bool true)], args := [d1, d2] }
  | _ => none }
def strongFoldRow : OpenClaim := { program := "ytblhpmhfhpmifaa", sum := "939686d56b0aaf2d991e007f64e4df116b405289303205d611c5ab49764dba6a", func := "brambleweir/brambleweirlaw2.StrongFold", spec := "strongFold", unfollowed := true, recurses := true, apart := false }
def StrongFoldSaid : Prop := strongFoldRow.holds Try.pinned (OpenSpec.ofChange strongFoldSpec)

/-- ITS FALSE NEIGHBOUR: 'it returns false'. Refute it at one input. -/
def strongFoldWrong : ChangeSpec := { name := "strongFold", fn := fun _ => fun
  | [d1, d2] => { results := [.lit (.bool false)], args := [d1, d2] }
  | _ => none }
def StrongFoldWrongFalsely : Prop := strongFoldRow.holds Try.pinned (OpenSpec.ofChange strongFoldWrong)

/-- 'brambleweirlaw2.ChainDilworth': WHATEVER THE INPUT: true; the input reads as it did. -/
def chainDilworthSpec : ChangeSpec := { name := "chainDilworth", fn := fun _ => fun
  | [d1, d2] => { results := [.lit (.bool true)], args := [d1, d2] }
  | _ => none }
def chainDilworthRow : OpenClaim := { program := "ytblhpmhfhpmifaa", sum := "939686d56b0aaf2d991e007f64e4df116b405289303205d611c5ab49764dba6a", func := "brambleweir/brambleweirlaw2.ChainDilworth", spec := "chainDilworth", unfollowed := true, recurses := true, apart := false }
def ChainDilworthSaid : Prop := chainDilworthRow.holds Try.pinned (OpenSpec.ofChange chainDilworthSpec)

/-- ITS FALSE NEIGHBOUR: 'it returns false'. Refute it at one input. -/
def chainDilworthWrong : ChangeSpec := { name := "chainDilworth", fn := fun _ => fun
  | [d1, d2] => { results := [.lit (.bool false)], args := [d1, d2] }
  | _ => none }
def ChainDilworthWrongFalsely : Prop := chainDilworthRow.holds Try.pinned (OpenSpec.ofChange chainDilworthWrong)

/-- 'brambleweirtop.TopHalf': WHATEVER THE INPUT: true; the input reads as it did. -/
def topHalfSpec : ChangeSpec := { name := "topHalf", fn := fun _ => fun
  | [d1, d2] => { results := [.lit (.bool true)], args := [d1, d2] }
  | _ => none }
def topHalfRow : OpenClaim := { program := "ytblhpmhfhpmifaa", sum := "939686d56b0aaf2d991e007f64e4df116b405289303205d611c5ab49764dba6a", func := "brambleweir/brambleweirtop.TopHalf", spec := "topHalf", unfollowed := true, recurses := true, apart := false }
def TopHalfSaid : Prop := topHalfRow.holds Try.pinned (OpenSpec.ofChange topHalfSpec)

/-- ITS FALSE NEIGHBOUR: 'it returns false'. Refute it at one input. -/
def topHalfWrong : ChangeSpec := { name := "topHalf", fn := fun _ => fun
  | [d1, d2] => { results := [.lit (.bool false)], args := [d1, d2] }
  | _ => none }
def TopHalfWrongFalsely : Prop := topHalfRow.holds Try.pinned (OpenSpec.ofChange topHalfWrong)

/-- 'brambleweirlaw2.ChainMirsky': WHATEVER THE INPUT: true; the input reads as it did. -/
def chainMirskySpec : ChangeSpec := { name := "chainMirsky", fn := fun _ => fun
  | [d1, d2] => { results := [.lit (.bool true)], args := [d1, d2] }
  | _ => none }
def chainMirskyRow : OpenClaim := { program := "ytblhpmhfhpmifaa", sum := "939686d56b0aaf2d991e007f64e4df116b405289303205d611c5ab49764dba6a", func := "brambleweir/brambleweirlaw2.ChainMirsky", spec := "chainMirsky", unfollowed := true, recurses := true, apart := false }
def ChainMirskySaid : Prop := chainMirskyRow.holds Try.pinned (OpenSpec.ofChange chainMirskySpec)

/-- ITS FALSE NEIGHBOUR: 'it returns false'. Refute it at one input. -/
def chainMirskyWrong : ChangeSpec := { name := "chainMirsky", fn := fun _ => fun
  | [d1, d2] => { results := [.lit (.bool false)], args := [d1, d2] }
  | _ => none }
def ChainMirskyWrongFalsely : Prop := chainMirskyRow.holds Try.pinned (OpenSpec.ofChange chainMirskyWrong)

/-- 'brambleweirlaw2.ChainMore': WHATEVER THE INPUT: true; the input reads as it did. -/
def chainMoreSpec : ChangeSpec := { name := "chainMore", fn := fun _ => fun
  | [d1, d2, d3] => { results := [.lit (.bool true)], args := [d1, d2, d3] }
  | _ => none }
def chainMoreRow : OpenClaim := { program := "ytblhpmhfhpmifaa", sum := "939686d56b0aaf2d991e007f64e4df116b405289303205d611c5ab49764dba6a", func := "brambleweir/brambleweirlaw2.ChainMore", spec := "chainMore", unfollowed := true, recurses := true, apart := false }
def ChainMoreSaid : Prop := chainMoreRow.holds Try.pinned (OpenSpec.ofChange chainMoreSpec)

/-- ITS FALSE NEIGHBOUR: 'it returns false'. Refute it at one input. -/
def chainMoreWrong : ChangeSpec := { name := "chainMore", fn := fun _ => fun
  | [d1, d2, d3] => { results := [.lit (.bool false)], args := [d1, d2, d3] }
  | _ => none }
def ChainMoreWrongFalsely : Prop := chainMoreRow.holds Try.pinned (OpenSpec.ofChange chainMoreWrong)

/- THE SECOND FORM. 'bulk': how many values and letters a reading holds, each counted each time it is reached (what is shared counts as often as it is met; a slice's spare places count too). A statement '..UptoSaid' is the law's where the arguments, and the package variables that the reading takes, are together of bulk at most 1048576: NARROWER than '..Said'. Prove '..Said' where nothing that the law and all that it calls make is longer than what came in: it says more and counts as full. Else prove '..UptoSaid'. A law counts once. -/
mutual
def uptoBulk {H : Type} : DataW H → Nat
  | .lit (.string bytes) => bytes.length + 1
  | .lit _ => 1
  | .nil => 1
  | .ptr d => uptoBulk d + 1
  | .slice elems spare => uptoBulkAll elems + uptoBulkAll spare + 1
  | .agg parts => uptoBulkAll parts + 1
  | .iface _ d => uptoBulk d + 1
  | .map entries => uptoBulkEntries entries + 1
  | .held _ => 1
def uptoBulkAll {H : Type} : List (DataW H) → Nat
  | [] => 0
  | d :: r => uptoBulk d + uptoBulkAll r
def uptoBulkEntries {H : Type} : List (Lit × DataW H) → Nat
  | [] => 0
  | x :: r => uptoBulkEntry x + uptoBulkEntries r
def uptoBulkEntry {H : Type} : Lit × DataW H → Nat
  | (.string bytes, d) => bytes.length + uptoBulk d + 1
  | (_, d) => uptoBulk d + 1
 end
def uptoSmall : (H : Type) → List (DataW H) → Bool := fun _ ds => decide (uptoBulkAll ds ≤ 1048576)
def OpenSpec.upto (s : _root_.Go.ChangeSpec) : _root_.Go.OpenSpec := { _root_.Go.OpenSpec.ofChange s with cond := some uptoSmall }

/-- 'brambleweirlaw2.MatchKonig', WHERE WHAT IT READS IS OF BULK AT MOST 1048576: true; the input reads as it did. -/
def matchKonigUptoRow : OpenClaim := { program := "ytblhpmhfhpmifaa", sum := "939686d56b0aaf2d991e007f64e4df116b405289303205d611c5ab49764dba6a", func := "brambleweir/brambleweirlaw2.MatchKonig", spec := "matchKonig", unfollowed := true, recurses := true, apart := false, narrowed := true }
def MatchKonigUptoSaid : Prop := matchKonigUptoRow.holds Try.pinned (OpenSpec.upto matchKonigSpec)

/-- 'brambleweirlaw2.MatchHall', WHERE WHAT IT READS IS OF BULK AT MOST 1048576: true; the input reads as it did. -/
def matchHallUptoRow : OpenClaim := { program := "ytblhpmhfhpmifaa", sum := "939686d56b0aaf2d991e007f64e4df116b405289303205d611c5ab49764dba6a", func := "brambleweir/brambleweirlaw2.MatchHall", spec := "matchHall", unfollowed := true, recurses := true, apart := false, narrowed := true }
def MatchHallUptoSaid : Prop := matchHallUptoRow.holds Try.pinned (OpenSpec.upto matchHallSpec)

/-- 'brambleweirlaw2.MatchTurn', WHERE WHAT IT READS IS OF BULK AT MOST 1048576: true; the input reads as it did. -/
def matchTurnUptoRow : OpenClaim := { program := "ytblhpmhfhpmifaa", sum := "939686d56b0aaf2d991e007f64e4df116b405289303205d611c5ab49764dba6a", func := "brambleweir/brambleweirlaw2.MatchTurn", spec := "matchTurn", unfollowed := true, recurses := true, apart := false, narrowed := true }
def MatchTurnUptoSaid : Prop := matchTurnUptoRow.holds Try.pinned (OpenSpec.upto matchTurnSpec)

/-- 'brambleweirlaw2.MatchLeast', WHERE WHAT IT READS IS OF BULK AT MOST 1048576: true; the input reads as it did. -/
def matchLeastUptoRow : OpenClaim := { program := "ytblhpmhfhpmifaa", sum := "939686d56b0aaf2d991e007f64e4df116b405289303205d611c5ab49764dba6a", func := "brambleweir/brambleweirlaw2.MatchLeast", spec := "matchLeast", unfollowed := true, recurses := true, apart := false, narrowed := true }
def MatchLeastUptoSaid : Prop := matchLeastUptoRow.holds Try.pinned (OpenSpec.upto matchLeastSpec)

/-- 'brambleweirlaw2.CloseWays', WHERE WHAT IT READS IS OF BULK AT MOST 1048576: true; the input reads as it did. -/
def closeWaysUptoRow : OpenClaim := { program := "ytblhpmhfhpmifaa", sum := "939686d56b0aaf2d991e007f64e4df116b405289303205d611c5ab49764dba6a", func := "brambleweir/brambleweirlaw2.CloseWays", spec := "closeWays", unfollowed := true, recurses := true, apart := false, narrowed := true }
def CloseWaysUptoSaid : Prop := closeWaysUptoRow.holds Try.pinned (OpenSpec.upto closeWaysSpec)

/-- 'brambleweirlaw2.CloseFew', WHERE WHAT IT READS IS OF BULK AT MOST 1048576: true; the input reads as it did. -/
def closeFewUptoRow : OpenClaim := { program := "ytblhpmhfhpmifaa", sum := "939686d56b0aaf2d991e007f64e4df116b405289303205d611c5ab49764dba6a", func := "brambleweir/brambleweirlaw2.CloseFew", spec := "closeFew", unfollowed := true, recurses := true, apart := false, narrowed := true }
def CloseFewUptoSaid : Prop := closeFewUptoRow.holds Try.pinned (OpenSpec.upto closeFewSpec)

/-- 'brambleweirlaw2.StrongTurn', WHERE WHAT IT READS IS OF BULK AT MOST 1048576: true; the input reads as it did. -/
def strongTurnUptoRow : OpenClaim := { program := "ytblhpmhfhpmifaa", sum := "939686d56b0aaf2d991e007f64e4df116b405289303205d611c5ab49764dba6a", func := "brambleweir/brambleweirlaw2.StrongTurn", spec := "strongTurn", unfollowed := true, recurses := true, apart := false, narrowed := true }
def StrongTurnUptoSaid : Prop := strongTurnUptoRow.holds Try.pinned (OpenSpec.upto strongTurnSpec)

/-- 'brambleweirlaw2.StrongMore', WHERE WHAT IT READS IS OF BULK AT MOST 1048576: true; the input reads as it did. -/
def strongMoreUptoRow : OpenClaim := { program := "ytblhpmhfhpmifaa", sum := "939686d56b0aaf2d991e007f64e4df116b405289303205d611c5ab49764dba6a", func := "brambleweir/brambleweirlaw2.StrongMore", spec := "strongMore", unfollowed := true, recurses := true, apart := false, narrowed := true }
def StrongMoreUptoSaid : Prop := strongMoreUptoRow.holds Try.pinned (OpenSpec.upto strongMoreSpec)

/-- 'brambleweirlaw2.StableGale', WHERE WHAT IT READS IS OF BULK AT MOST 1048576: true; the input reads as it did. -/
def stableGaleUptoRow : OpenClaim := { program := "ytblhpmhfhpmifaa", sum := "939686d56b0aaf2d991e007f64e4df116b405289303205d611c5ab49764dba6a", func := "brambleweir/brambleweirlaw2.StableGale", spec := "stableGale", unfollowed := true, recurses := true, apart := false, narrowed := true }
def StableGaleUptoSaid : Prop := stableGaleUptoRow.holds Try.pinned (OpenSpec.upto stableGaleSpec)

/-- 'brambleweirlaw2.StableBest', WHERE WHAT IT READS IS OF BULK AT MOST 1048576: true; the input reads as it did. -/
def stableBestUptoRow : OpenClaim := { program := "ytblhpmhfhpmifaa", sum := "939686d56b0aaf2d991e007f64e4df116b405289303205d611c5ab49764dba6a", func := "brambleweir/brambleweirlaw2.StableBest", spec := "stableBest", unfollowed := true, recurses := true, apart := false, narrowed := true }
def StableBestUptoSaid : Prop := stableBestUptoRow.holds Try.pinned (OpenSpec.upto stableBestSpec)

/-- 'brambleweirtop.TopNames', WHERE WHAT IT READS IS OF BULK AT MOST 1048576: true; the input reads as it did. -/
def topNamesUptoRow : OpenClaim := { program := "ytblhpmhfhpmifaa", sum := "939686d56b0aaf2d991e007f64e4df116b405289303205d611c5ab49764dba6a", func := "brambleweir/brambleweirtop.TopNames", spec := "topNames", unfollowed := true, recurses := true, apart := false, narrowed := true }
def TopNamesUptoSaid : Prop := topNamesUptoRow.holds Try.pinned (OpenSpec.upto topNamesSpec)

/-- 'brambleweirlaw2.StableSame', WHERE WHAT IT READS IS OF BULK AT MOST 1048576: true; the input reads as it did. -/
def stableSameUptoRow : OpenClaim := { program := "ytblhpmhfhpmifaa", sum := "939686d56b0aaf2d991e007f64e4df116b405289303205d611c5ab49764dba6a", func := "brambleweir/brambleweirlaw2.StableSame", spec := "stableSame", unfollowed := true, recurses := true, apart := false, narrowed := true }
def StableSameUptoSaid : Prop := stableSameUptoRow.holds Try.pinned (OpenSpec.upto stableSameSpec)

/-- 'brambleweirlaw2.DomChain', WHERE WHAT IT READS IS OF BULK AT MOST 1048576: true; the input reads as it did. -/
def domChainUptoRow : OpenClaim := { program := "ytblhpmhfhpmifaa", sum := "939686d56b0aaf2d991e007f64e4df116b405289303205d611c5ab49764dba6a", func := "brambleweir/brambleweirlaw2.DomChain", spec := "domChain", unfollowed := true, recurses := true, apart := false, narrowed := true }
def DomChainUptoSaid : Prop := domChainUptoRow.holds Try.pinned (OpenSpec.upto domChainSpec)

/-- 'brambleweirlaw2.DomLast', WHERE WHAT IT READS IS OF BULK AT MOST 1048576: true; the input reads as it did. -/
def domLastUptoRow : OpenClaim := { program := "ytblhpmhfhpmifaa", sum := "939686d56b0aaf2d991e007f64e4df116b405289303205d611c5ab49764dba6a", func := "brambleweir/brambleweirlaw2.DomLast", spec := "domLast", unfollowed := true, recurses := true, apart := false, narrowed := true }
def DomLastUptoSaid : Prop := domLastUptoRow.holds Try.pinned (OpenSpec.upto domLastSpec)

/-- 'brambleweirlaw2.DomCut', WHERE WHAT IT READS IS OF BULK AT MOST 1048576: true; the input reads as it did. -/
def domCutUptoRow : OpenClaim := { program := "ytblhpmhfhpmifaa", sum := "939686d56b0aaf2d991e007f64e4df116b405289303205d611c5ab49764dba6a", func := "brambleweir/brambleweirlaw2.DomCut", spec := "domCut", unfollowed := true, recurses := true, apart := false, narrowed := true }
def DomCutUptoSaid : Prop := domCutUptoRow.holds Try.pinned (OpenSpec.upto domCutSpec)

/-- 'brambleweirtop.TopOver', WHERE WHAT IT READS IS OF BULK AT MOST 1048576: true; the input reads as it did. -/
def topOverUptoRow : OpenClaim := { program := "ytblhpmhfhpmifaa", sum := "939686d56b0aaf2d991e007f64e4df116b405289303205d611c5ab49764dba6a", func := "brambleweir/brambleweirtop.TopOver", spec := "topOver", unfollowed := true, recurses := true, apart := false, narrowed := true }
def TopOverUptoSaid : Prop := topOverUptoRow.holds Try.pinned (OpenSpec.upto topOverSpec)

/-- 'brambleweirlaw2.StrongBoth', WHERE WHAT IT READS IS OF BULK AT MOST 1048576: true; the input reads as it did. -/
def strongBothUptoRow : OpenClaim := { program := "ytblhpmhfhpmifaa", sum := "939686d56b0aaf2d991e007f64e4df116b405289303205d611c5ab49764dba6a", func := "brambleweir/brambleweirlaw2.StrongBoth", spec := "strongBoth", unfollowed := true, recurses := true, apart := false, narrowed := true }
def StrongBothUptoSaid : Prop := strongBothUptoRow.holds Try.pinned (OpenSpec.upto strongBothSpec)

/-- 'brambleweirlaw2.HalvesLess', WHERE WHAT IT READS IS OF BULK AT MOST 1048576: true; the input reads as it did. -/
def halvesLessUptoRow : OpenClaim := { program := "ytblhpmhfhpmifaa", sum := "939686d56b0aaf2d991e007f64e4df116b405289303205d611c5ab49764dba6a", func := "brambleweir/brambleweirlaw2.HalvesLess", spec := "halvesLess", unfollowed := true, recurses := true, apart := false, narrowed := true }
def HalvesLessUptoSaid : Prop := halvesLessUptoRow.holds Try.pinned (OpenSpec.upto halvesLessSpec)

/-- 'brambleweirlaw2.StrongFold', WHERE WHAT IT READS IS OF BULK AT MOST 1048576: true; the input reads as it did. -/
def strongFoldUptoRow : OpenClaim := { program := "ytblhpmhfhpmifaa", sum := "939686d56b0aaf2d991e007f64e4df116b405289303205d611c5ab49764dba6a", func := "brambleweir/brambleweirlaw2.StrongFold", spec := "strongFold", unfollowed := true, recurses := true, apart := false, narrowed := true }
def StrongFoldUptoSaid : Prop := strongFoldUptoRow.holds Try.pinned (OpenSpec.upto strongFoldSpec)

/-- 'brambleweirlaw2.ChainDilworth', WHERE WHAT IT READS IS OF BULK AT MOST 1048576: true; the input reads as it did. -/
def chainDilworthUptoRow : OpenClaim := { program := "ytblhpmhfhpmifaa", sum := "939686d56b0aaf2d991e007f64e4df116b405289303205d611c5ab49764dba6a", func := "brambleweir/brambleweirlaw2.ChainDilworth", spec := "chainDilworth", unfollowed := true, recurses := true, apart := false, narrowed := true }
def ChainDilworthUptoSaid : Prop := chainDilworthUptoRow.holds Try.pinned (OpenSpec.upto chainDilworthSpec)

/-- 'brambleweirtop.TopHalf', WHERE WHAT IT READS IS OF BULK AT MOST 1048576: true; the input reads as it did. -/
def topHalfUptoRow : OpenClaim := { program := "ytblhpmhfhpmifaa", sum := "939686d56b0aaf2d991e007f64e4df116b405289303205d611c5ab49764dba6a", func := "brambleweir/brambleweirtop.TopHalf", spec := "topHalf", unfollowed := true, recurses := true, apart := false, narrowed := true }
def TopHalfUptoSaid : Prop := topHalfUptoRow.holds Try.pinned (OpenSpec.upto topHalfSpec)

/-- 'brambleweirlaw2.ChainMirsky', WHERE WHAT IT READS IS OF BULK AT MOST 1048576: true; the input reads as it did. -/
def chainMirskyUptoRow : OpenClaim := { program := "ytblhpmhfhpmifaa", sum := "939686d56b0aaf2d991e007f64e4df116b405289303205d611c5ab49764dba6a", func := "brambleweir/brambleweirlaw2.ChainMirsky", spec := "chainMirsky", unfollowed := true, recurses := true, apart := false, narrowed := true }
def ChainMirskyUptoSaid : Prop := chainMirskyUptoRow.holds Try.pinned (OpenSpec.upto chainMirskySpec)

/-- 'brambleweirlaw2.ChainMore', WHERE WHAT IT READS IS OF BULK AT MOST 1048576: true; the input reads as it did. -/
def chainMoreUptoRow : OpenClaim := { program := "ytblhpmhfhpmifaa", sum := "939686d56b0aaf2d991e007f64e4df116b405289303205d611c5ab49764dba6a", func := "brambleweir/brambleweirlaw2.ChainMore", spec := "chainMore", unfollowed := true, recurses := true, apart := false, narrowed := true }
def ChainMoreUptoSaid : Prop := chainMoreUptoRow.holds Try.pinned (OpenSpec.upto chainMoreSpec)

end Rows
end Go.Proofs.Ytblhpmhfhpmifaa
