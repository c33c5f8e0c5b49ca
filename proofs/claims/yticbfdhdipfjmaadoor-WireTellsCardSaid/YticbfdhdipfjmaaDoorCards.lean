/-
  DERIVED. GIVEN WITH THE SEED: THE CARDS: each row of YticbfdhdipfjmaaDoorRows.lean that lists a variable, with what it lists TIED to the program's text (the seventh form; the later family's looks); each row that meets fmt, with fmt's text TOLD by the authors' own Lean function (tested against real Go, not proved from fmt's source: count such statements apart). THE CARD IS WHAT COUNTS. Prove the row's statement (the work); the ties are given (YticbfdhdipfjmaaDoorTie.lean); close each card by the builder's one call (the guide's Derived/Test/ToyasCard.lean, 'card_holds'). Laid BY PROGRAM, IN A SANDBOX (cutbox-door.mjs). By AI agents, Wed Nov 11 2026. No macro, syntax, notation, axiom, sorry.
-/
import Derived.Test.YticbfdhdipfjmaaDoorRows
import GoSem.ClaimSeven
namespace Go.Proofs.YticbfdhdipfjmaaDoor
namespace Rows

/-- THE TIED CARD OF 'canopykeep.WireBack'. -/
def wireBackCard : Claim7 := { stood := { row := wireBackRow, standIns := [], harness := (true, "7b304ce1442792aa8eeb8c374ee25ecfcf8cccec3d4cb7c9fa3ea0cfbc7985d9"), looks := false }, kinds := [], alts := [], laidByText := true, laidKinds := [.data], laidTests := true, laidLooks := .later }
def WireBackCardSaid : Prop := Claim7.holds Tryd.pinned (.plain (OpenSpec.ofChange wireBackSpec)) wireBackCard

/-- THE TIED CARD OF 'canopykeep.WireFixed'. -/
def wireFixedCard : Claim7 := { stood := { row := wireFixedRow, standIns := [], harness := (true, "7b304ce1442792aa8eeb8c374ee25ecfcf8cccec3d4cb7c9fa3ea0cfbc7985d9"), looks := false }, kinds := [], alts := [], laidByText := true, laidKinds := [.data], laidTests := true, laidLooks := .later }
def WireFixedCardSaid : Prop := Claim7.holds Tryd.pinned (.plain (OpenSpec.ofChange wireFixedSpec)) wireFixedCard

/-- THE TIED CARD OF 'canopykeep.WireTorn'. -/
def wireTornCard : Claim7 := { stood := { row := wireTornRow, standIns := [], harness := (true, "7b304ce1442792aa8eeb8c374ee25ecfcf8cccec3d4cb7c9fa3ea0cfbc7985d9"), looks := false }, kinds := [], alts := [], laidByText := true, laidKinds := [.data], laidTests := true, laidLooks := .later }
def WireTornCardSaid : Prop := Claim7.holds Tryd.pinned (.plain (OpenSpec.ofChange wireTornSpec)) wireTornCard

/-- THE TIED CARD OF 'canopykeep.WireTells'. -/
def wireTellsCard : Claim7 := { stood := { row := wireTellsRow, standIns := [], harness := (true, "7b304ce1442792aa8eeb8c374ee25ecfcf8cccec3d4cb7c9fa3ea0cfbc7985d9"), looks := false }, kinds := [], alts := [], laidByText := true, laidKinds := [.data], laidTests := true, laidLooks := .later }
def WireTellsCardSaid : Prop := Claim7.holds Tryd.pinned (.plain (OpenSpec.ofChange wireTellsSpec)) wireTellsCard

/-- THE TIED CARD OF 'canopykeep.KnownSums'. -/
def knownSumsCard : Claim7 := { stood := { row := knownSumsRow, standIns := [], harness := (true, "7b304ce1442792aa8eeb8c374ee25ecfcf8cccec3d4cb7c9fa3ea0cfbc7985d9"), looks := false }, kinds := [], alts := [], laidByText := true, laidKinds := [.data, .data, .data], laidTests := true, laidLooks := .later }
def KnownSumsCardSaid : Prop := Claim7.holds Tryd.pinned (.plain (OpenSpec.ofChange knownSumsSpec)) knownSumsCard

/-- THE TIED CARD OF 'canopykeep.SumLong'. -/
def sumLongCard : Claim7 := { stood := { row := sumLongRow, standIns := [], harness := (true, "7b304ce1442792aa8eeb8c374ee25ecfcf8cccec3d4cb7c9fa3ea0cfbc7985d9"), looks := false }, kinds := [], alts := [], laidByText := true, laidKinds := [.data, .data, .data], laidTests := true, laidLooks := .later }
def SumLongCardSaid : Prop := Claim7.holds Tryd.pinned (.plain (OpenSpec.ofChange sumLongSpec)) sumLongCard

/-- THE TIED CARD OF 'canopykeep.PartsMade'. -/
def partsMadeCard : Claim7 := { stood := { row := partsMadeRow, standIns := [], harness := (true, "7b304ce1442792aa8eeb8c374ee25ecfcf8cccec3d4cb7c9fa3ea0cfbc7985d9"), looks := false }, kinds := [], alts := [], laidByText := true, laidKinds := [.data, .data, .data], laidTests := true, laidLooks := .later }
def PartsMadeCardSaid : Prop := Claim7.holds Tryd.pinned (.plain (OpenSpec.ofChange partsMadeSpec)) partsMadeCard

/-- THE SECOND FORM's CARD OF 'canopykeep.WireBack'. -/
def wireBackUptoCard : Claim7 := { stood := { row := wireBackUptoRow, standIns := [], harness := (true, "7b304ce1442792aa8eeb8c374ee25ecfcf8cccec3d4cb7c9fa3ea0cfbc7985d9"), looks := false }, kinds := [], alts := [], laidByText := true, laidKinds := [.data], laidTests := true, laidLooks := .later }
def WireBackUptoCardSaid : Prop := Claim7.holds Tryd.pinned (.plain (OpenSpec.upto wireBackSpec)) wireBackUptoCard

/-- THE SECOND FORM's CARD OF 'canopykeep.WireFixed'. -/
def wireFixedUptoCard : Claim7 := { stood := { row := wireFixedUptoRow, standIns := [], harness := (true, "7b304ce1442792aa8eeb8c374ee25ecfcf8cccec3d4cb7c9fa3ea0cfbc7985d9"), looks := false }, kinds := [], alts := [], laidByText := true, laidKinds := [.data], laidTests := true, laidLooks := .later }
def WireFixedUptoCardSaid : Prop := Claim7.holds Tryd.pinned (.plain (OpenSpec.upto wireFixedSpec)) wireFixedUptoCard

/-- THE SECOND FORM's CARD OF 'canopykeep.WireTorn'. -/
def wireTornUptoCard : Claim7 := { stood := { row := wireTornUptoRow, standIns := [], harness := (true, "7b304ce1442792aa8eeb8c374ee25ecfcf8cccec3d4cb7c9fa3ea0cfbc7985d9"), looks := false }, kinds := [], alts := [], laidByText := true, laidKinds := [.data], laidTests := true, laidLooks := .later }
def WireTornUptoCardSaid : Prop := Claim7.holds Tryd.pinned (.plain (OpenSpec.upto wireTornSpec)) wireTornUptoCard

/-- THE SECOND FORM's CARD OF 'canopykeep.WireTells'. -/
def wireTellsUptoCard : Claim7 := { stood := { row := wireTellsUptoRow, standIns := [], harness := (true, "7b304ce1442792aa8eeb8c374ee25ecfcf8cccec3d4cb7c9fa3ea0cfbc7985d9"), looks := false }, kinds := [], alts := [], laidByText := true, laidKinds := [.data], laidTests := true, laidLooks := .later }
def WireTellsUptoCardSaid : Prop := Claim7.holds Tryd.pinned (.plain (OpenSpec.upto wireTellsSpec)) wireTellsUptoCard

/-- THE SECOND FORM's CARD OF 'canopykeep.KnownSums'. -/
def knownSumsUptoCard : Claim7 := { stood := { row := knownSumsUptoRow, standIns := [], harness := (true, "7b304ce1442792aa8eeb8c374ee25ecfcf8cccec3d4cb7c9fa3ea0cfbc7985d9"), looks := false }, kinds := [], alts := [], laidByText := true, laidKinds := [.data, .data, .data], laidTests := true, laidLooks := .later }
def KnownSumsUptoCardSaid : Prop := Claim7.holds Tryd.pinned (.plain (OpenSpec.upto knownSumsSpec)) knownSumsUptoCard

/-- THE SECOND FORM's CARD OF 'canopykeep.SumLong'. -/
def sumLongUptoCard : Claim7 := { stood := { row := sumLongUptoRow, standIns := [], harness := (true, "7b304ce1442792aa8eeb8c374ee25ecfcf8cccec3d4cb7c9fa3ea0cfbc7985d9"), looks := false }, kinds := [], alts := [], laidByText := true, laidKinds := [.data, .data, .data], laidTests := true, laidLooks := .later }
def SumLongUptoCardSaid : Prop := Claim7.holds Tryd.pinned (.plain (OpenSpec.upto sumLongSpec)) sumLongUptoCard

/-- THE SECOND FORM's CARD OF 'canopykeep.PartsMade'. -/
def partsMadeUptoCard : Claim7 := { stood := { row := partsMadeUptoRow, standIns := [], harness := (true, "7b304ce1442792aa8eeb8c374ee25ecfcf8cccec3d4cb7c9fa3ea0cfbc7985d9"), looks := false }, kinds := [], alts := [], laidByText := true, laidKinds := [.data, .data, .data], laidTests := true, laidLooks := .later }
def PartsMadeUptoCardSaid : Prop := Claim7.holds Tryd.pinned (.plain (OpenSpec.upto partsMadeSpec)) partsMadeUptoCard
end Rows
end Go.Proofs.YticbfdhdipfjmaaDoor
