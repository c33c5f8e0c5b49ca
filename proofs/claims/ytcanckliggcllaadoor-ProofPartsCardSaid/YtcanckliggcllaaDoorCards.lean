/-
  DERIVED. GIVEN WITH THE SEED: THE CARDS: each row of YtcanckliggcllaaDoorRows.lean that lists a variable, with what it lists TIED to the program's text (the seventh form; the later family's looks); each row that meets fmt, with fmt's text TOLD by the authors' own Lean function (tested against real Go, not proved from fmt's source: count such statements apart). THE CARD IS WHAT COUNTS. Prove the row's statement (the work); the ties are given (YtcanckliggcllaaDoorTie.lean); close each card by the builder's one call (the guide's Derived/Test/ToyasCard.lean, 'card_holds'). Laid BY PROGRAM, IN A SANDBOX (cutbox-door.mjs). By AI agents, Wed Nov 11 2026. No macro, syntax, notation, axiom, sorry.
-/
import Derived.Test.YtcanckliggcllaaDoorRows
import GoSem.ClaimSeven
namespace Go.Proofs.YtcanckliggcllaaDoor
namespace Rows

/-- THE TIED CARD OF 'canopykeep.KnownSums'. -/
def knownSumsCard : Claim7 := { stood := { row := knownSumsRow, standIns := [], harness := (true, "6e7b09f0f8c418e3809cd5e77a60b9c959bece3f2a8ed53d30e053527ab78923"), looks := false }, kinds := [], alts := [], laidByText := true, laidKinds := [.data, .data, .data], laidTests := true, laidLooks := .later }
def KnownSumsCardSaid : Prop := Claim7.holds Tryd.pinned (.plain (OpenSpec.ofChange knownSumsSpec)) knownSumsCard

/-- THE TIED CARD OF 'canopykeep.SumLong'. -/
def sumLongCard : Claim7 := { stood := { row := sumLongRow, standIns := [], harness := (true, "6e7b09f0f8c418e3809cd5e77a60b9c959bece3f2a8ed53d30e053527ab78923"), looks := false }, kinds := [], alts := [], laidByText := true, laidKinds := [.data, .data, .data], laidTests := true, laidLooks := .later }
def SumLongCardSaid : Prop := Claim7.holds Tryd.pinned (.plain (OpenSpec.ofChange sumLongSpec)) sumLongCard

/-- THE TIED CARD OF 'canopykeep.PartsMade'. -/
def partsMadeCard : Claim7 := { stood := { row := partsMadeRow, standIns := [], harness := (true, "6e7b09f0f8c418e3809cd5e77a60b9c959bece3f2a8ed53d30e053527ab78923"), looks := false }, kinds := [], alts := [], laidByText := true, laidKinds := [.data, .data, .data], laidTests := true, laidLooks := .later }
def PartsMadeCardSaid : Prop := Claim7.holds Tryd.pinned (.plain (OpenSpec.ofChange partsMadeSpec)) partsMadeCard

/-- THE TIED CARD OF 'canopykeep.RootMade'. -/
def rootMadeCard : Claim7 := { stood := { row := rootMadeRow, standIns := [], harness := (true, "6e7b09f0f8c418e3809cd5e77a60b9c959bece3f2a8ed53d30e053527ab78923"), looks := false }, kinds := [], alts := [], laidByText := true, laidKinds := [.data, .data, .data], laidTests := true, laidLooks := .later }
def RootMadeCardSaid : Prop := Claim7.holds Tryd.pinned (.plain (OpenSpec.ofChange rootMadeSpec)) rootMadeCard

/-- THE TIED CARD OF 'canopykeep.RootSides'. -/
def rootSidesCard : Claim7 := { stood := { row := rootSidesRow, standIns := [], harness := (true, "6e7b09f0f8c418e3809cd5e77a60b9c959bece3f2a8ed53d30e053527ab78923"), looks := false }, kinds := [], alts := [], laidByText := true, laidKinds := [.data, .data, .data], laidTests := true, laidLooks := .later }
def RootSidesCardSaid : Prop := Claim7.holds Tryd.pinned (.plain (OpenSpec.ofChange rootSidesSpec)) rootSidesCard

/-- THE TIED CARD OF 'canopykeep.PairsOrder'. -/
def pairsOrderCard : Claim7 := { stood := { row := pairsOrderRow, standIns := [], harness := (true, "6e7b09f0f8c418e3809cd5e77a60b9c959bece3f2a8ed53d30e053527ab78923"), looks := false }, kinds := [], alts := [], laidByText := true, laidKinds := [.data, .data, .data], laidTests := true, laidLooks := .later }
def PairsOrderCardSaid : Prop := Claim7.holds Tryd.pinned (.plain (OpenSpec.ofChange pairsOrderSpec)) pairsOrderCard

/-- THE TIED CARD OF 'canopykeep.RootSame'. -/
def rootSameCard : Claim7 := { stood := { row := rootSameRow, standIns := [], harness := (true, "6e7b09f0f8c418e3809cd5e77a60b9c959bece3f2a8ed53d30e053527ab78923"), looks := false }, kinds := [], alts := [], laidByText := true, laidKinds := [.data, .data, .data], laidTests := true, laidLooks := .later }
def RootSameCardSaid : Prop := Claim7.holds Tryd.pinned (.plain (OpenSpec.ofChange rootSameSpec)) rootSameCard

/-- THE TIED CARD OF 'canopykeep.ProveHolds'. -/
def proveHoldsCard : Claim7 := { stood := { row := proveHoldsRow, standIns := [], harness := (true, "6e7b09f0f8c418e3809cd5e77a60b9c959bece3f2a8ed53d30e053527ab78923"), looks := false }, kinds := [], alts := [], laidByText := true, laidKinds := [.data, .data, .data], laidTests := true, laidLooks := .later }
def ProveHoldsCardSaid : Prop := Claim7.holds Tryd.pinned (.plain (OpenSpec.ofChange proveHoldsSpec)) proveHoldsCard

/-- THE TIED CARD OF 'canopykeep.ProveAll'. -/
def proveAllCard : Claim7 := { stood := { row := proveAllRow, standIns := [], harness := (true, "6e7b09f0f8c418e3809cd5e77a60b9c959bece3f2a8ed53d30e053527ab78923"), looks := false }, kinds := [], alts := [], laidByText := true, laidKinds := [.data, .data, .data], laidTests := true, laidLooks := .later }
def ProveAllCardSaid : Prop := Claim7.holds Tryd.pinned (.plain (OpenSpec.ofChange proveAllSpec)) proveAllCard

/-- THE TIED CARD OF 'canopykeep.ProofParts'. -/
def proofPartsCard : Claim7 := { stood := { row := proofPartsRow, standIns := [], harness := (true, "6e7b09f0f8c418e3809cd5e77a60b9c959bece3f2a8ed53d30e053527ab78923"), looks := false }, kinds := [], alts := [], laidByText := true, laidKinds := [.data, .data, .data], laidTests := true, laidLooks := .later }
def ProofPartsCardSaid : Prop := Claim7.holds Tryd.pinned (.plain (OpenSpec.ofChange proofPartsSpec)) proofPartsCard

/-- THE TIED CARD OF 'canopykeep.ProofElse'. -/
def proofElseCard : Claim7 := { stood := { row := proofElseRow, standIns := [], harness := (true, "6e7b09f0f8c418e3809cd5e77a60b9c959bece3f2a8ed53d30e053527ab78923"), looks := false }, kinds := [], alts := [], laidByText := true, laidKinds := [.data, .data, .data], laidTests := true, laidLooks := .later }
def ProofElseCardSaid : Prop := Claim7.holds Tryd.pinned (.plain (OpenSpec.ofChange proofElseSpec)) proofElseCard

/-- THE TIED CARD OF 'canopykeep.ProofForm'. -/
def proofFormCard : Claim7 := { stood := { row := proofFormRow, standIns := [], harness := (true, "6e7b09f0f8c418e3809cd5e77a60b9c959bece3f2a8ed53d30e053527ab78923"), looks := false }, kinds := [], alts := [], laidByText := true, laidKinds := [.data, .data, .data], laidTests := true, laidLooks := .later }
def ProofFormCardSaid : Prop := Claim7.holds Tryd.pinned (.plain (OpenSpec.ofChange proofFormSpec)) proofFormCard

/-- THE SECOND FORM's CARD OF 'canopykeep.KnownSums'. -/
def knownSumsUptoCard : Claim7 := { stood := { row := knownSumsUptoRow, standIns := [], harness := (true, "6e7b09f0f8c418e3809cd5e77a60b9c959bece3f2a8ed53d30e053527ab78923"), looks := false }, kinds := [], alts := [], laidByText := true, laidKinds := [.data, .data, .data], laidTests := true, laidLooks := .later }
def KnownSumsUptoCardSaid : Prop := Claim7.holds Tryd.pinned (.plain (OpenSpec.upto knownSumsSpec)) knownSumsUptoCard

/-- THE SECOND FORM's CARD OF 'canopykeep.SumLong'. -/
def sumLongUptoCard : Claim7 := { stood := { row := sumLongUptoRow, standIns := [], harness := (true, "6e7b09f0f8c418e3809cd5e77a60b9c959bece3f2a8ed53d30e053527ab78923"), looks := false }, kinds := [], alts := [], laidByText := true, laidKinds := [.data, .data, .data], laidTests := true, laidLooks := .later }
def SumLongUptoCardSaid : Prop := Claim7.holds Tryd.pinned (.plain (OpenSpec.upto sumLongSpec)) sumLongUptoCard

/-- THE SECOND FORM's CARD OF 'canopykeep.PartsMade'. -/
def partsMadeUptoCard : Claim7 := { stood := { row := partsMadeUptoRow, standIns := [], harness := (true, "6e7b09f0f8c418e3809cd5e77a60b9c959bece3f2a8ed53d30e053527ab78923"), looks := false }, kinds := [], alts := [], laidByText := true, laidKinds := [.data, .data, .data], laidTests := true, laidLooks := .later }
def PartsMadeUptoCardSaid : Prop := Claim7.holds Tryd.pinned (.plain (OpenSpec.upto partsMadeSpec)) partsMadeUptoCard

/-- THE SECOND FORM's CARD OF 'canopykeep.RootMade'. -/
def rootMadeUptoCard : Claim7 := { stood := { row := rootMadeUptoRow, standIns := [], harness := (true, "6e7b09f0f8c418e3809cd5e77a60b9c959bece3f2a8ed53d30e053527ab78923"), looks := false }, kinds := [], alts := [], laidByText := true, laidKinds := [.data, .data, .data], laidTests := true, laidLooks := .later }
def RootMadeUptoCardSaid : Prop := Claim7.holds Tryd.pinned (.plain (OpenSpec.upto rootMadeSpec)) rootMadeUptoCard

/-- THE SECOND FORM's CARD OF 'canopykeep.RootSides'. -/
def rootSidesUptoCard : Claim7 := { stood := { row := rootSidesUptoRow, standIns := [], harness := (true, "6e7b09f0f8c418e3809cd5e77a60b9c959bece3f2a8ed53d30e053527ab78923"), looks := false }, kinds := [], alts := [], laidByText := true, laidKinds := [.data, .data, .data], laidTests := true, laidLooks := .later }
def RootSidesUptoCardSaid : Prop := Claim7.holds Tryd.pinned (.plain (OpenSpec.upto rootSidesSpec)) rootSidesUptoCard

/-- THE SECOND FORM's CARD OF 'canopykeep.PairsOrder'. -/
def pairsOrderUptoCard : Claim7 := { stood := { row := pairsOrderUptoRow, standIns := [], harness := (true, "6e7b09f0f8c418e3809cd5e77a60b9c959bece3f2a8ed53d30e053527ab78923"), looks := false }, kinds := [], alts := [], laidByText := true, laidKinds := [.data, .data, .data], laidTests := true, laidLooks := .later }
def PairsOrderUptoCardSaid : Prop := Claim7.holds Tryd.pinned (.plain (OpenSpec.upto pairsOrderSpec)) pairsOrderUptoCard

/-- THE SECOND FORM's CARD OF 'canopykeep.RootSame'. -/
def rootSameUptoCard : Claim7 := { stood := { row := rootSameUptoRow, standIns := [], harness := (true, "6e7b09f0f8c418e3809cd5e77a60b9c959bece3f2a8ed53d30e053527ab78923"), looks := false }, kinds := [], alts := [], laidByText := true, laidKinds := [.data, .data, .data], laidTests := true, laidLooks := .later }
def RootSameUptoCardSaid : Prop := Claim7.holds Tryd.pinned (.plain (OpenSpec.upto rootSameSpec)) rootSameUptoCard

/-- THE SECOND FORM's CARD OF 'canopykeep.ProveHolds'. -/
def proveHoldsUptoCard : Claim7 := { stood := { row := proveHoldsUptoRow, standIns := [], harness := (true, "6e7b09f0f8c418e3809cd5e77a60b9c959bece3f2a8ed53d30e053527ab78923"), looks := false }, kinds := [], alts := [], laidByText := true, laidKinds := [.data, .data, .data], laidTests := true, laidLooks := .later }
def ProveHoldsUptoCardSaid : Prop := Claim7.holds Tryd.pinned (.plain (OpenSpec.upto proveHoldsSpec)) proveHoldsUptoCard

/-- THE SECOND FORM's CARD OF 'canopykeep.ProveAll'. -/
def proveAllUptoCard : Claim7 := { stood := { row := proveAllUptoRow, standIns := [], harness := (true, "6e7b09f0f8c418e3809cd5e77a60b9c959bece3f2a8ed53d30e053527ab78923"), looks := false }, kinds := [], alts := [], laidByText := true, laidKinds := [.data, .data, .data], laidTests := true, laidLooks := .later }
def ProveAllUptoCardSaid : Prop := Claim7.holds Tryd.pinned (.plain (OpenSpec.upto proveAllSpec)) proveAllUptoCard

/-- THE SECOND FORM's CARD OF 'canopykeep.ProofParts'. -/
def proofPartsUptoCard : Claim7 := { stood := { row := proofPartsUptoRow, standIns := [], harness := (true, "6e7b09f0f8c418e3809cd5e77a60b9c959bece3f2a8ed53d30e053527ab78923"), looks := false }, kinds := [], alts := [], laidByText := true, laidKinds := [.data, .data, .data], laidTests := true, laidLooks := .later }
def ProofPartsUptoCardSaid : Prop := Claim7.holds Tryd.pinned (.plain (OpenSpec.upto proofPartsSpec)) proofPartsUptoCard

/-- THE SECOND FORM's CARD OF 'canopykeep.ProofElse'. -/
def proofElseUptoCard : Claim7 := { stood := { row := proofElseUptoRow, standIns := [], harness := (true, "6e7b09f0f8c418e3809cd5e77a60b9c959bece3f2a8ed53d30e053527ab78923"), looks := false }, kinds := [], alts := [], laidByText := true, laidKinds := [.data, .data, .data], laidTests := true, laidLooks := .later }
def ProofElseUptoCardSaid : Prop := Claim7.holds Tryd.pinned (.plain (OpenSpec.upto proofElseSpec)) proofElseUptoCard

/-- THE SECOND FORM's CARD OF 'canopykeep.ProofForm'. -/
def proofFormUptoCard : Claim7 := { stood := { row := proofFormUptoRow, standIns := [], harness := (true, "6e7b09f0f8c418e3809cd5e77a60b9c959bece3f2a8ed53d30e053527ab78923"), looks := false }, kinds := [], alts := [], laidByText := true, laidKinds := [.data, .data, .data], laidTests := true, laidLooks := .later }
def ProofFormUptoCardSaid : Prop := Claim7.holds Tryd.pinned (.plain (OpenSpec.upto proofFormSpec)) proofFormUptoCard
end Rows
end Go.Proofs.YtcanckliggcllaaDoor
