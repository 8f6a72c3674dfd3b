/-
  DERIVED. GIVEN WITH THE SEED: THE CARDS: each row of YtblhpmhfhpmifaaDoorRows.lean that lists a variable, with what it lists TIED to the program's text (the seventh form; the later family's looks); each row that meets fmt, with fmt's text TOLD by the authors' own Lean function (tested against real Go, not proved from fmt's source: count such statements apart). THE CARD IS WHAT COUNTS. Prove the row's statement (the work); the ties are given (YtblhpmhfhpmifaaDoorTie.lean); close each card by the builder's one call (the guide's Derived/Test/ToyasCard.lean, 'card_holds'). Laid BY PROGRAM, IN A SANDBOX (cutbox-door.mjs). By AI agents, Wed Nov 11 2026. No macro, syntax, notation, axiom, sorry.
-/
import Derived.Test.YtblhpmhfhpmifaaDoorRows
import GoSem.ClaimSeven
namespace Go.Proofs.YtblhpmhfhpmifaaDoor
namespace Rows

/-- THE TIED CARD OF 'brambleweirlaw2.TopoSays'. -/
def topoSaysCard : Claim7 := { stood := { row := topoSaysRow, standIns := [], harness := (true, "ef528b23815b70c2662300e7e3ba81efdd8130d758234ace3c638d7836b90011"), looks := true }, kinds := [], alts := [], laidByText := true, laidKinds := [.handle], laidTests := true, laidLooks := .later }
def TopoSaysCardSaid : Prop := Claim7.holds Tryd.pinned (.plain (OpenSpec.ofChange topoSaysSpec)) topoSaysCard

/-- THE TIED CARD OF 'brambleweirlaw2.TopoKahn'. -/
def topoKahnCard : Claim7 := { stood := { row := topoKahnRow, standIns := [], harness := (true, "ef528b23815b70c2662300e7e3ba81efdd8130d758234ace3c638d7836b90011"), looks := true }, kinds := [], alts := [], laidByText := true, laidKinds := [.handle], laidTests := true, laidLooks := .later }
def TopoKahnCardSaid : Prop := Claim7.holds Tryd.pinned (.plain (OpenSpec.ofChange topoKahnSpec)) topoKahnCard

/-- THE TIED CARD OF 'brambleweirlaw2.TopoDeep'. -/
def topoDeepCard : Claim7 := { stood := { row := topoDeepRow, standIns := [], harness := (true, "ef528b23815b70c2662300e7e3ba81efdd8130d758234ace3c638d7836b90011"), looks := true }, kinds := [], alts := [], laidByText := true, laidKinds := [.handle], laidTests := true, laidLooks := .later }
def TopoDeepCardSaid : Prop := Claim7.holds Tryd.pinned (.plain (OpenSpec.ofChange topoDeepSpec)) topoDeepCard

/-- THE TIED CARD OF 'brambleweirlaw2.TopoTurn'. -/
def topoTurnCard : Claim7 := { stood := { row := topoTurnRow, standIns := [], harness := (true, "ef528b23815b70c2662300e7e3ba81efdd8130d758234ace3c638d7836b90011"), looks := true }, kinds := [], alts := [], laidByText := true, laidKinds := [.handle], laidTests := true, laidLooks := .later }
def TopoTurnCardSaid : Prop := Claim7.holds Tryd.pinned (.plain (OpenSpec.ofChange topoTurnSpec)) topoTurnCard

/-- THE TIED CARD OF 'brambleweirlaw2.PairsLess'. -/
def pairsLessCard : Claim7 := { stood := { row := pairsLessRow, standIns := [], harness := (true, "ef528b23815b70c2662300e7e3ba81efdd8130d758234ace3c638d7836b90011"), looks := true }, kinds := [], alts := [], laidByText := true, laidKinds := [.handle], laidTests := true, laidLooks := .later }
def PairsLessCardSaid : Prop := Claim7.holds Tryd.pinned (.plain (OpenSpec.ofChange pairsLessSpec)) pairsLessCard

/-- THE TIED CARD OF 'brambleweirlaw2.MatchSays'. -/
def matchSaysCard : Claim7 := { stood := { row := matchSaysRow, standIns := [], harness := (true, "ef528b23815b70c2662300e7e3ba81efdd8130d758234ace3c638d7836b90011"), looks := true }, kinds := [], alts := [], laidByText := true, laidKinds := [.handle], laidTests := true, laidLooks := .later }
def MatchSaysCardSaid : Prop := Claim7.holds Tryd.pinned (.plain (OpenSpec.ofChange matchSaysSpec)) matchSaysCard

/-- THE TIED CARD OF 'brambleweirlaw2.PairsSays'. -/
def pairsSaysCard : Claim7 := { stood := { row := pairsSaysRow, standIns := [], harness := (true, "ef528b23815b70c2662300e7e3ba81efdd8130d758234ace3c638d7836b90011"), looks := true }, kinds := [], alts := [], laidByText := true, laidKinds := [.handle], laidTests := true, laidLooks := .later }
def PairsSaysCardSaid : Prop := Claim7.holds Tryd.pinned (.plain (OpenSpec.ofChange pairsSaysSpec)) pairsSaysCard

/-- THE TIED CARD OF 'brambleweirlaw2.PairsRight'. -/
def pairsRightCard : Claim7 := { stood := { row := pairsRightRow, standIns := [], harness := (true, "ef528b23815b70c2662300e7e3ba81efdd8130d758234ace3c638d7836b90011"), looks := true }, kinds := [], alts := [], laidByText := true, laidKinds := [.handle], laidTests := true, laidLooks := .later }
def PairsRightCardSaid : Prop := Claim7.holds Tryd.pinned (.plain (OpenSpec.ofChange pairsRightSpec)) pairsRightCard

/-- THE TIED CARD OF 'brambleweirlaw2.CloseSays'. -/
def closeSaysCard : Claim7 := { stood := { row := closeSaysRow, standIns := [], harness := (true, "ef528b23815b70c2662300e7e3ba81efdd8130d758234ace3c638d7836b90011"), looks := true }, kinds := [], alts := [], laidByText := true, laidKinds := [.handle], laidTests := true, laidLooks := .later }
def CloseSaysCardSaid : Prop := Claim7.holds Tryd.pinned (.plain (OpenSpec.ofChange closeSaysSpec)) closeSaysCard

/-- THE TIED CARD OF 'brambleweirlaw2.CloseTurn'. -/
def closeTurnCard : Claim7 := { stood := { row := closeTurnRow, standIns := [], harness := (true, "ef528b23815b70c2662300e7e3ba81efdd8130d758234ace3c638d7836b90011"), looks := true }, kinds := [], alts := [], laidByText := true, laidKinds := [.handle], laidTests := true, laidLooks := .later }
def CloseTurnCardSaid : Prop := Claim7.holds Tryd.pinned (.plain (OpenSpec.ofChange closeTurnSpec)) closeTurnCard

/-- THE TIED CARD OF 'brambleweirlaw2.StrongSays'. -/
def strongSaysCard : Claim7 := { stood := { row := strongSaysRow, standIns := [], harness := (true, "ef528b23815b70c2662300e7e3ba81efdd8130d758234ace3c638d7836b90011"), looks := true }, kinds := [], alts := [], laidByText := true, laidKinds := [.handle], laidTests := true, laidLooks := .later }
def StrongSaysCardSaid : Prop := Claim7.holds Tryd.pinned (.plain (OpenSpec.ofChange strongSaysSpec)) strongSaysCard

/-- THE TIED CARD OF 'brambleweirlaw2.StableSays'. -/
def stableSaysCard : Claim7 := { stood := { row := stableSaysRow, standIns := [], harness := (true, "ef528b23815b70c2662300e7e3ba81efdd8130d758234ace3c638d7836b90011"), looks := true }, kinds := [], alts := [], laidByText := true, laidKinds := [.handle], laidTests := true, laidLooks := .later }
def StableSaysCardSaid : Prop := Claim7.holds Tryd.pinned (.plain (OpenSpec.ofChange stableSaysSpec)) stableSaysCard

/-- THE TIED CARD OF 'brambleweirlaw2.DomSays'. -/
def domSaysCard : Claim7 := { stood := { row := domSaysRow, standIns := [], harness := (true, "ef528b23815b70c2662300e7e3ba81efdd8130d758234ace3c638d7836b90011"), looks := true }, kinds := [], alts := [], laidByText := true, laidKinds := [.handle], laidTests := true, laidLooks := .later }
def DomSaysCardSaid : Prop := Claim7.holds Tryd.pinned (.plain (OpenSpec.ofChange domSaysSpec)) domSaysCard

/-- THE TIED CARD OF 'brambleweirlaw2.PairsAspvall'. -/
def pairsAspvallCard : Claim7 := { stood := { row := pairsAspvallRow, standIns := [], harness := (true, "ef528b23815b70c2662300e7e3ba81efdd8130d758234ace3c638d7836b90011"), looks := true }, kinds := [], alts := [], laidByText := true, laidKinds := [.handle], laidTests := true, laidLooks := .later }
def PairsAspvallCardSaid : Prop := Claim7.holds Tryd.pinned (.plain (OpenSpec.ofChange pairsAspvallSpec)) pairsAspvallCard

/-- THE TIED CARD OF 'brambleweirlaw2.HalvesSays'. -/
def halvesSaysCard : Claim7 := { stood := { row := halvesSaysRow, standIns := [], harness := (true, "ef528b23815b70c2662300e7e3ba81efdd8130d758234ace3c638d7836b90011"), looks := true }, kinds := [], alts := [], laidByText := true, laidKinds := [.handle], laidTests := true, laidLooks := .later }
def HalvesSaysCardSaid : Prop := Claim7.holds Tryd.pinned (.plain (OpenSpec.ofChange halvesSaysSpec)) halvesSaysCard

/-- THE TIED CARD OF 'brambleweirlaw2.HalvesKonig'. -/
def halvesKonigCard : Claim7 := { stood := { row := halvesKonigRow, standIns := [], harness := (true, "ef528b23815b70c2662300e7e3ba81efdd8130d758234ace3c638d7836b90011"), looks := true }, kinds := [], alts := [], laidByText := true, laidKinds := [.handle], laidTests := true, laidLooks := .later }
def HalvesKonigCardSaid : Prop := Claim7.holds Tryd.pinned (.plain (OpenSpec.ofChange halvesKonigSpec)) halvesKonigCard

/-- THE TIED CARD OF 'brambleweirlaw2.ChainSays'. -/
def chainSaysCard : Claim7 := { stood := { row := chainSaysRow, standIns := [], harness := (true, "ef528b23815b70c2662300e7e3ba81efdd8130d758234ace3c638d7836b90011"), looks := true }, kinds := [], alts := [], laidByText := true, laidKinds := [.handle], laidTests := true, laidLooks := .later }
def ChainSaysCardSaid : Prop := Claim7.holds Tryd.pinned (.plain (OpenSpec.ofChange chainSaysSpec)) chainSaysCard

/-- THE SECOND FORM's CARD OF 'brambleweirlaw2.TopoSays'. -/
def topoSaysUptoCard : Claim7 := { stood := { row := topoSaysUptoRow, standIns := [], harness := (true, "ef528b23815b70c2662300e7e3ba81efdd8130d758234ace3c638d7836b90011"), looks := true }, kinds := [], alts := [], laidByText := true, laidKinds := [.handle], laidTests := true, laidLooks := .later }
def TopoSaysUptoCardSaid : Prop := Claim7.holds Tryd.pinned (.plain (OpenSpec.upto topoSaysSpec)) topoSaysUptoCard

/-- THE SECOND FORM's CARD OF 'brambleweirlaw2.TopoKahn'. -/
def topoKahnUptoCard : Claim7 := { stood := { row := topoKahnUptoRow, standIns := [], harness := (true, "ef528b23815b70c2662300e7e3ba81efdd8130d758234ace3c638d7836b90011"), looks := true }, kinds := [], alts := [], laidByText := true, laidKinds := [.handle], laidTests := true, laidLooks := .later }
def TopoKahnUptoCardSaid : Prop := Claim7.holds Tryd.pinned (.plain (OpenSpec.upto topoKahnSpec)) topoKahnUptoCard

/-- THE SECOND FORM's CARD OF 'brambleweirlaw2.TopoDeep'. -/
def topoDeepUptoCard : Claim7 := { stood := { row := topoDeepUptoRow, standIns := [], harness := (true, "ef528b23815b70c2662300e7e3ba81efdd8130d758234ace3c638d7836b90011"), looks := true }, kinds := [], alts := [], laidByText := true, laidKinds := [.handle], laidTests := true, laidLooks := .later }
def TopoDeepUptoCardSaid : Prop := Claim7.holds Tryd.pinned (.plain (OpenSpec.upto topoDeepSpec)) topoDeepUptoCard

/-- THE SECOND FORM's CARD OF 'brambleweirlaw2.TopoTurn'. -/
def topoTurnUptoCard : Claim7 := { stood := { row := topoTurnUptoRow, standIns := [], harness := (true, "ef528b23815b70c2662300e7e3ba81efdd8130d758234ace3c638d7836b90011"), looks := true }, kinds := [], alts := [], laidByText := true, laidKinds := [.handle], laidTests := true, laidLooks := .later }
def TopoTurnUptoCardSaid : Prop := Claim7.holds Tryd.pinned (.plain (OpenSpec.upto topoTurnSpec)) topoTurnUptoCard

/-- THE SECOND FORM's CARD OF 'brambleweirlaw2.PairsLess'. -/
def pairsLessUptoCard : Claim7 := { stood := { row := pairsLessUptoRow, standIns := [], harness := (true, "ef528b23815b70c2662300e7e3ba81efdd8130d758234ace3c638d7836b90011"), looks := true }, kinds := [], alts := [], laidByText := true, laidKinds := [.handle], laidTests := true, laidLooks := .later }
def PairsLessUptoCardSaid : Prop := Claim7.holds Tryd.pinned (.plain (OpenSpec.upto pairsLessSpec)) pairsLessUptoCard

/-- THE SECOND FORM's CARD OF 'brambleweirlaw2.MatchSays'. -/
def matchSaysUptoCard : Claim7 := { stood := { row := matchSaysUptoRow, standIns := [], harness := (true, "ef528b23815b70c2662300e7e3ba81efdd8130d758234ace3c638d7836b90011"), looks := true }, kinds := [], alts := [], laidByText := true, laidKinds := [.handle], laidTests := true, laidLooks := .later }
def MatchSaysUptoCardSaid : Prop := Claim7.holds Tryd.pinned (.plain (OpenSpec.upto matchSaysSpec)) matchSaysUptoCard

/-- THE SECOND FORM's CARD OF 'brambleweirlaw2.PairsSays'. -/
def pairsSaysUptoCard : Claim7 := { stood := { row := pairsSaysUptoRow, standIns := [], harness := (true, "ef528b23815b70c2662300e7e3ba81efdd8130d758234ace3c638d7836b90011"), looks := true }, kinds := [], alts := [], laidByText := true, laidKinds := [.handle], laidTests := true, laidLooks := .later }
def PairsSaysUptoCardSaid : Prop := Claim7.holds Tryd.pinned (.plain (OpenSpec.upto pairsSaysSpec)) pairsSaysUptoCard

/-- THE SECOND FORM's CARD OF 'brambleweirlaw2.PairsRight'. -/
def pairsRightUptoCard : Claim7 := { stood := { row := pairsRightUptoRow, standIns := [], harness := (true, "ef528b23815b70c2662300e7e3ba81efdd8130d758234ace3c638d7836b90011"), looks := true }, kinds := [], alts := [], laidByText := true, laidKinds := [.handle], laidTests := true, laidLooks := .later }
def PairsRightUptoCardSaid : Prop := Claim7.holds Tryd.pinned (.plain (OpenSpec.upto pairsRightSpec)) pairsRightUptoCard

/-- THE SECOND FORM's CARD OF 'brambleweirlaw2.CloseSays'. -/
def closeSaysUptoCard : Claim7 := { stood := { row := closeSaysUptoRow, standIns := [], harness := (true, "ef528b23815b70c2662300e7e3ba81efdd8130d758234ace3c638d7836b90011"), looks := true }, kinds := [], alts := [], laidByText := true, laidKinds := [.handle], laidTests := true, laidLooks := .later }
def CloseSaysUptoCardSaid : Prop := Claim7.holds Tryd.pinned (.plain (OpenSpec.upto closeSaysSpec)) closeSaysUptoCard

/-- THE SECOND FORM's CARD OF 'brambleweirlaw2.CloseTurn'. -/
def closeTurnUptoCard : Claim7 := { stood := { row := closeTurnUptoRow, standIns := [], harness := (true, "ef528b23815b70c2662300e7e3ba81efdd8130d758234ace3c638d7836b90011"), looks := true }, kinds := [], alts := [], laidByText := true, laidKinds := [.handle], laidTests := true, laidLooks := .later }
def CloseTurnUptoCardSaid : Prop := Claim7.holds Tryd.pinned (.plain (OpenSpec.upto closeTurnSpec)) closeTurnUptoCard

/-- THE SECOND FORM's CARD OF 'brambleweirlaw2.StrongSays'. -/
def strongSaysUptoCard : Claim7 := { stood := { row := strongSaysUptoRow, standIns := [], harness := (true, "ef528b23815b70c2662300e7e3ba81efdd8130d758234ace3c638d7836b90011"), looks := true }, kinds := [], alts := [], laidByText := true, laidKinds := [.handle], laidTests := true, laidLooks := .later }
def StrongSaysUptoCardSaid : Prop := Claim7.holds Tryd.pinned (.plain (OpenSpec.upto strongSaysSpec)) strongSaysUptoCard

/-- THE SECOND FORM's CARD OF 'brambleweirlaw2.StableSays'. -/
def stableSaysUptoCard : Claim7 := { stood := { row := stableSaysUptoRow, standIns := [], harness := (true, "ef528b23815b70c2662300e7e3ba81efdd8130d758234ace3c638d7836b90011"), looks := true }, kinds := [], alts := [], laidByText := true, laidKinds := [.handle], laidTests := true, laidLooks := .later }
def StableSaysUptoCardSaid : Prop := Claim7.holds Tryd.pinned (.plain (OpenSpec.upto stableSaysSpec)) stableSaysUptoCard

/-- THE SECOND FORM's CARD OF 'brambleweirlaw2.DomSays'. -/
def domSaysUptoCard : Claim7 := { stood := { row := domSaysUptoRow, standIns := [], harness := (true, "ef528b23815b70c2662300e7e3ba81efdd8130d758234ace3c638d7836b90011"), looks := true }, kinds := [], alts := [], laidByText := true, laidKinds := [.handle], laidTests := true, laidLooks := .later }
def DomSaysUptoCardSaid : Prop := Claim7.holds Tryd.pinned (.plain (OpenSpec.upto domSaysSpec)) domSaysUptoCard

/-- THE SECOND FORM's CARD OF 'brambleweirlaw2.PairsAspvall'. -/
def pairsAspvallUptoCard : Claim7 := { stood := { row := pairsAspvallUptoRow, standIns := [], harness := (true, "ef528b23815b70c2662300e7e3ba81efdd8130d758234ace3c638d7836b90011"), looks := true }, kinds := [], alts := [], laidByText := true, laidKinds := [.handle], laidTests := true, laidLooks := .later }
def PairsAspvallUptoCardSaid : Prop := Claim7.holds Tryd.pinned (.plain (OpenSpec.upto pairsAspvallSpec)) pairsAspvallUptoCard

/-- THE SECOND FORM's CARD OF 'brambleweirlaw2.HalvesSays'. -/
def halvesSaysUptoCard : Claim7 := { stood := { row := halvesSaysUptoRow, standIns := [], harness := (true, "ef528b23815b70c2662300e7e3ba81efdd8130d758234ace3c638d7836b90011"), looks := true }, kinds := [], alts := [], laidByText := true, laidKinds := [.handle], laidTests := true, laidLooks := .later }
def HalvesSaysUptoCardSaid : Prop := Claim7.holds Tryd.pinned (.plain (OpenSpec.upto halvesSaysSpec)) halvesSaysUptoCard

/-- THE SECOND FORM's CARD OF 'brambleweirlaw2.HalvesKonig'. -/
def halvesKonigUptoCard : Claim7 := { stood := { row := halvesKonigUptoRow, standIns := [], harness := (true, "ef528b23815b70c2662300e7e3ba81efdd8130d758234ace3c638d7836b90011"), looks := true }, kinds := [], alts := [], laidByText := true, laidKinds := [.handle], laidTests := true, laidLooks := .later }
def HalvesKonigUptoCardSaid : Prop := Claim7.holds Tryd.pinned (.plain (OpenSpec.upto halvesKonigSpec)) halvesKonigUptoCard

/-- THE SECOND FORM's CARD OF 'brambleweirlaw2.ChainSays'. -/
def chainSaysUptoCard : Claim7 := { stood := { row := chainSaysUptoRow, standIns := [], harness := (true, "ef528b23815b70c2662300e7e3ba81efdd8130d758234ace3c638d7836b90011"), looks := true }, kinds := [], alts := [], laidByText := true, laidKinds := [.handle], laidTests := true, laidLooks := .later }
def ChainSaysUptoCardSaid : Prop := Claim7.holds Tryd.pinned (.plain (OpenSpec.upto chainSaysSpec)) chainSaysUptoCard
end Rows
end Go.Proofs.YtblhpmhfhpmifaaDoor
