/-
  DERIVED. GIVEN WITH THE SEED: THE CARDS: each row of YtokfcofjdbnagaaDoorRows.lean that lists a variable, with what it lists TIED to the program's text (the seventh form; the later family's looks); each row that meets fmt, with fmt's text TOLD by the authors' own Lean function (tested against real Go, not proved from fmt's source: count such statements apart). THE CARD IS WHAT COUNTS. Prove the row's statement (the work); the ties are given (YtokfcofjdbnagaaDoorTie.lean); close each card by the builder's one call (the guide's Derived/Test/ToyasCard.lean, 'card_holds'). Laid BY PROGRAM, IN A SANDBOX (cutbox-door.mjs). By AI agents, Wed Nov 11 2026. No macro, syntax, notation, axiom, sorry.
-/
import Derived.Test.YtokfcofjdbnagaaDoorRows
import GoSem.ClaimSeven
namespace Go.Proofs.YtokfcofjdbnagaaDoor
namespace Rows

/-- THE TIED CARD OF 'canopykeep.WireLong'. -/
def wireLongCard : Claim7 := { stood := { row := wireLongRow, standIns := [], harness := (true, "471a3ef366ce14f7b2d4f5fe2767095549c11d127069ec902422740869574ca2"), looks := false }, kinds := [], alts := [], laidByText := true, laidKinds := [.data], laidTests := true, laidLooks := .later }
def WireLongCardSaid : Prop := Claim7.holds Tryd.pinned (.plain (OpenSpec.ofChange wireLongSpec)) wireLongCard

/-- THE TIED CARD OF 'canopykeep.KnownSums'. -/
def knownSumsCard : Claim7 := { stood := { row := knownSumsRow, standIns := [], harness := (true, "471a3ef366ce14f7b2d4f5fe2767095549c11d127069ec902422740869574ca2"), looks := false }, kinds := [], alts := [], laidByText := true, laidKinds := [.data, .data, .data], laidTests := true, laidLooks := .later }
def KnownSumsCardSaid : Prop := Claim7.holds Tryd.pinned (.plain (OpenSpec.ofChange knownSumsSpec)) knownSumsCard

/-- THE TIED CARD OF 'canopykeep.SumLong'. -/
def sumLongCard : Claim7 := { stood := { row := sumLongRow, standIns := [], harness := (true, "471a3ef366ce14f7b2d4f5fe2767095549c11d127069ec902422740869574ca2"), looks := false }, kinds := [], alts := [], laidByText := true, laidKinds := [.data, .data, .data], laidTests := true, laidLooks := .later }
def SumLongCardSaid : Prop := Claim7.holds Tryd.pinned (.plain (OpenSpec.ofChange sumLongSpec)) sumLongCard

/-- THE TIED CARD OF 'canopykeep.PartsMade'. -/
def partsMadeCard : Claim7 := { stood := { row := partsMadeRow, standIns := [], harness := (true, "471a3ef366ce14f7b2d4f5fe2767095549c11d127069ec902422740869574ca2"), looks := false }, kinds := [], alts := [], laidByText := true, laidKinds := [.data, .data, .data], laidTests := true, laidLooks := .later }
def PartsMadeCardSaid : Prop := Claim7.holds Tryd.pinned (.plain (OpenSpec.ofChange partsMadeSpec)) partsMadeCard

/-- THE TIED CARD OF 'canopykeep.WireBack'. -/
def wireBackCard : Claim7 := { stood := { row := wireBackRow, standIns := [], harness := (true, "471a3ef366ce14f7b2d4f5fe2767095549c11d127069ec902422740869574ca2"), looks := false }, kinds := [], alts := [], laidByText := true, laidKinds := [.data], laidTests := true, laidLooks := .later }
def WireBackCardSaid : Prop := Claim7.holds Tryd.pinned (.plain (OpenSpec.ofChange wireBackSpec)) wireBackCard

/-- THE TIED CARD OF 'canopykeep.WireFixed'. -/
def wireFixedCard : Claim7 := { stood := { row := wireFixedRow, standIns := [], harness := (true, "471a3ef366ce14f7b2d4f5fe2767095549c11d127069ec902422740869574ca2"), looks := false }, kinds := [], alts := [], laidByText := true, laidKinds := [.data], laidTests := true, laidLooks := .later }
def WireFixedCardSaid : Prop := Claim7.holds Tryd.pinned (.plain (OpenSpec.ofChange wireFixedSpec)) wireFixedCard

/-- THE TIED CARD OF 'canopykeep.WireTorn'. -/
def wireTornCard : Claim7 := { stood := { row := wireTornRow, standIns := [], harness := (true, "471a3ef366ce14f7b2d4f5fe2767095549c11d127069ec902422740869574ca2"), looks := false }, kinds := [], alts := [], laidByText := true, laidKinds := [.data], laidTests := true, laidLooks := .later }
def WireTornCardSaid : Prop := Claim7.holds Tryd.pinned (.plain (OpenSpec.ofChange wireTornSpec)) wireTornCard

/-- THE TIED CARD OF 'canopykeep.RootMade'. -/
def rootMadeCard : Claim7 := { stood := { row := rootMadeRow, standIns := [], harness := (true, "471a3ef366ce14f7b2d4f5fe2767095549c11d127069ec902422740869574ca2"), looks := false }, kinds := [], alts := [], laidByText := true, laidKinds := [.data, .data, .data], laidTests := true, laidLooks := .later }
def RootMadeCardSaid : Prop := Claim7.holds Tryd.pinned (.plain (OpenSpec.ofChange rootMadeSpec)) rootMadeCard

/-- THE TIED CARD OF 'canopykeep.RootSides'. -/
def rootSidesCard : Claim7 := { stood := { row := rootSidesRow, standIns := [], harness := (true, "471a3ef366ce14f7b2d4f5fe2767095549c11d127069ec902422740869574ca2"), looks := false }, kinds := [], alts := [], laidByText := true, laidKinds := [.data, .data, .data], laidTests := true, laidLooks := .later }
def RootSidesCardSaid : Prop := Claim7.holds Tryd.pinned (.plain (OpenSpec.ofChange rootSidesSpec)) rootSidesCard

/-- THE TIED CARD OF 'canopykeep.PairsOrder'. -/
def pairsOrderCard : Claim7 := { stood := { row := pairsOrderRow, standIns := [], harness := (true, "471a3ef366ce14f7b2d4f5fe2767095549c11d127069ec902422740869574ca2"), looks := false }, kinds := [], alts := [], laidByText := true, laidKinds := [.data, .data, .data], laidTests := true, laidLooks := .later }
def PairsOrderCardSaid : Prop := Claim7.holds Tryd.pinned (.plain (OpenSpec.ofChange pairsOrderSpec)) pairsOrderCard

/-- THE TIED CARD OF 'canopykeep.RootSame'. -/
def rootSameCard : Claim7 := { stood := { row := rootSameRow, standIns := [], harness := (true, "471a3ef366ce14f7b2d4f5fe2767095549c11d127069ec902422740869574ca2"), looks := false }, kinds := [], alts := [], laidByText := true, laidKinds := [.data, .data, .data], laidTests := true, laidLooks := .later }
def RootSameCardSaid : Prop := Claim7.holds Tryd.pinned (.plain (OpenSpec.ofChange rootSameSpec)) rootSameCard

/-- THE TIED CARD OF 'canopykeep.WireTells'. -/
def wireTellsCard : Claim7 := { stood := { row := wireTellsRow, standIns := [], harness := (true, "471a3ef366ce14f7b2d4f5fe2767095549c11d127069ec902422740869574ca2"), looks := false }, kinds := [], alts := [], laidByText := true, laidKinds := [.data], laidTests := true, laidLooks := .later }
def WireTellsCardSaid : Prop := Claim7.holds Tryd.pinned (.plain (OpenSpec.ofChange wireTellsSpec)) wireTellsCard

/-- THE SECOND FORM's CARD OF 'canopykeep.WireLong'. -/
def wireLongUptoCard : Claim7 := { stood := { row := wireLongUptoRow, standIns := [], harness := (true, "471a3ef366ce14f7b2d4f5fe2767095549c11d127069ec902422740869574ca2"), looks := false }, kinds := [], alts := [], laidByText := true, laidKinds := [.data], laidTests := true, laidLooks := .later }
def WireLongUptoCardSaid : Prop := Claim7.holds Tryd.pinned (.plain (OpenSpec.upto wireLongSpec)) wireLongUptoCard

/-- THE SECOND FORM's CARD OF 'canopykeep.KnownSums'. -/
def knownSumsUptoCard : Claim7 := { stood := { row := knownSumsUptoRow, standIns := [], harness := (true, "471a3ef366ce14f7b2d4f5fe2767095549c11d127069ec902422740869574ca2"), looks := false }, kinds := [], alts := [], laidByText := true, laidKinds := [.data, .data, .data], laidTests := true, laidLooks := .later }
def KnownSumsUptoCardSaid : Prop := Claim7.holds Tryd.pinned (.plain (OpenSpec.upto knownSumsSpec)) knownSumsUptoCard

/-- THE SECOND FORM's CARD OF 'canopykeep.SumLong'. -/
def sumLongUptoCard : Claim7 := { stood := { row := sumLongUptoRow, standIns := [], harness := (true, "471a3ef366ce14f7b2d4f5fe2767095549c11d127069ec902422740869574ca2"), looks := false }, kinds := [], alts := [], laidByText := true, laidKinds := [.data, .data, .data], laidTests := true, laidLooks := .later }
def SumLongUptoCardSaid : Prop := Claim7.holds Tryd.pinned (.plain (OpenSpec.upto sumLongSpec)) sumLongUptoCard

/-- THE SECOND FORM's CARD OF 'canopykeep.PartsMade'. -/
def partsMadeUptoCard : Claim7 := { stood := { row := partsMadeUptoRow, standIns := [], harness := (true, "471a3ef366ce14f7b2d4f5fe2767095549c11d127069ec902422740869574ca2"), looks := false }, kinds := [], alts := [], laidByText := true, laidKinds := [.data, .data, .data], laidTests := true, laidLooks := .later }
def PartsMadeUptoCardSaid : Prop := Claim7.holds Tryd.pinned (.plain (OpenSpec.upto partsMadeSpec)) partsMadeUptoCard

/-- THE SECOND FORM's CARD OF 'canopykeep.WireBack'. -/
def wireBackUptoCard : Claim7 := { stood := { row := wireBackUptoRow, standIns := [], harness := (true, "471a3ef366ce14f7b2d4f5fe2767095549c11d127069ec902422740869574ca2"), looks := false }, kinds := [], alts := [], laidByText := true, laidKinds := [.data], laidTests := true, laidLooks := .later }
def WireBackUptoCardSaid : Prop := Claim7.holds Tryd.pinned (.plain (OpenSpec.upto wireBackSpec)) wireBackUptoCard

/-- THE SECOND FORM's CARD OF 'canopykeep.WireFixed'. -/
def wireFixedUptoCard : Claim7 := { stood := { row := wireFixedUptoRow, standIns := [], harness := (true, "471a3ef366ce14f7b2d4f5fe2767095549c11d127069ec902422740869574ca2"), looks := false }, kinds := [], alts := [], laidByText := true, laidKinds := [.data], laidTests := true, laidLooks := .later }
def WireFixedUptoCardSaid : Prop := Claim7.holds Tryd.pinned (.plain (OpenSpec.upto wireFixedSpec)) wireFixedUptoCard

/-- THE SECOND FORM's CARD OF 'canopykeep.WireTorn'. -/
def wireTornUptoCard : Claim7 := { stood := { row := wireTornUptoRow, standIns := [], harness := (true, "471a3ef366ce14f7b2d4f5fe2767095549c11d127069ec902422740869574ca2"), looks := false }, kinds := [], alts := [], laidByText := true, laidKinds := [.data], laidTests := true, laidLooks := .later }
def WireTornUptoCardSaid : Prop := Claim7.holds Tryd.pinned (.plain (OpenSpec.upto wireTornSpec)) wireTornUptoCard

/-- THE SECOND FORM's CARD OF 'canopykeep.RootMade'. -/
def rootMadeUptoCard : Claim7 := { stood := { row := rootMadeUptoRow, standIns := [], harness := (true, "471a3ef366ce14f7b2d4f5fe2767095549c11d127069ec902422740869574ca2"), looks := false }, kinds := [], alts := [], laidByText := true, laidKinds := [.data, .data, .data], laidTests := true, laidLooks := .later }
def RootMadeUptoCardSaid : Prop := Claim7.holds Tryd.pinned (.plain (OpenSpec.upto rootMadeSpec)) rootMadeUptoCard

/-- THE SECOND FORM's CARD OF 'canopykeep.RootSides'. -/
def rootSidesUptoCard : Claim7 := { stood := { row := rootSidesUptoRow, standIns := [], harness := (true, "471a3ef366ce14f7b2d4f5fe2767095549c11d127069ec902422740869574ca2"), looks := false }, kinds := [], alts := [], laidByText := true, laidKinds := [.data, .data, .data], laidTests := true, laidLooks := .later }
def RootSidesUptoCardSaid : Prop := Claim7.holds Tryd.pinned (.plain (OpenSpec.upto rootSidesSpec)) rootSidesUptoCard

/-- THE SECOND FORM's CARD OF 'canopykeep.PairsOrder'. -/
def pairsOrderUptoCard : Claim7 := { stood := { row := pairsOrderUptoRow, standIns := [], harness := (true, "471a3ef366ce14f7b2d4f5fe2767095549c11d127069ec902422740869574ca2"), looks := false }, kinds := [], alts := [], laidByText := true, laidKinds := [.data, .data, .data], laidTests := true, laidLooks := .later }
def PairsOrderUptoCardSaid : Prop := Claim7.holds Tryd.pinned (.plain (OpenSpec.upto pairsOrderSpec)) pairsOrderUptoCard

/-- THE SECOND FORM's CARD OF 'canopykeep.RootSame'. -/
def rootSameUptoCard : Claim7 := { stood := { row := rootSameUptoRow, standIns := [], harness := (true, "471a3ef366ce14f7b2d4f5fe2767095549c11d127069ec902422740869574ca2"), looks := false }, kinds := [], alts := [], laidByText := true, laidKinds := [.data, .data, .data], laidTests := true, laidLooks := .later }
def RootSameUptoCardSaid : Prop := Claim7.holds Tryd.pinned (.plain (OpenSpec.upto rootSameSpec)) rootSameUptoCard

/-- THE SECOND FORM's CARD OF 'canopykeep.WireTells'. -/
def wireTellsUptoCard : Claim7 := { stood := { row := wireTellsUptoRow, standIns := [], harness := (true, "471a3ef366ce14f7b2d4f5fe2767095549c11d127069ec902422740869574ca2"), looks := false }, kinds := [], alts := [], laidByText := true, laidKinds := [.data], laidTests := true, laidLooks := .later }
def WireTellsUptoCardSaid : Prop := Claim7.holds Tryd.pinned (.plain (OpenSpec.upto wireTellsSpec)) wireTellsUptoCard
end Rows
end Go.Proofs.YtokfcofjdbnagaaDoor
