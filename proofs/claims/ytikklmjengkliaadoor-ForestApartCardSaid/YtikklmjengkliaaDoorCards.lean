/-
  DERIVED. GIVEN WITH THE SEED: THE CARDS: each row of YtikklmjengkliaaDoorRows.lean that lists a variable, with what it lists TIED to the program's text (the seventh form; the later family's looks); each row that meets fmt, with fmt's text TOLD by the authors' own Lean function (tested against real Go, not proved from fmt's source: count such statements apart). THE CARD IS WHAT COUNTS. Prove the row's statement (the work); the ties are given (YtikklmjengkliaaDoorTie.lean); close each card by the builder's one call (the guide's Derived/Test/ToyasCard.lean, 'card_holds'). Laid BY PROGRAM, IN A SANDBOX (cutbox-door.mjs). By AI agents, Wed Nov 11 2026. No macro, syntax, notation, axiom, sorry.
-/
import Derived.Test.YtikklmjengkliaaDoorRows
import GoSem.ClaimSeven
namespace Go.Proofs.YtikklmjengkliaaDoor
namespace Rows

/-- THE TIED CARD OF 'canopykeep.ForestEmpty'. -/
def forestEmptyCard : Claim7 := { stood := { row := forestEmptyRow, standIns := [], harness := (true, "f293559bce3ae5a8b6cb68d4aadaad1043fb083a0568287f6e9e9c119e565911"), looks := false }, kinds := [], alts := [], laidByText := true, laidKinds := [.data, .data, .data], laidTests := true, laidLooks := .later }
def ForestEmptyCardSaid : Prop := Claim7.holds Tryd.pinned (.plain (OpenSpec.ofChange forestEmptySpec)) forestEmptyCard

/-- THE TIED CARD OF 'canopykeep.RootNames'. -/
def rootNamesCard : Claim7 := { stood := { row := rootNamesRow, standIns := [], harness := (true, "f293559bce3ae5a8b6cb68d4aadaad1043fb083a0568287f6e9e9c119e565911"), looks := false }, kinds := [], alts := [], laidByText := true, laidKinds := [.data, .data, .data], laidTests := true, laidLooks := .later }
def RootNamesCardSaid : Prop := Claim7.holds Tryd.pinned (.plain (OpenSpec.ofChange rootNamesSpec)) rootNamesCard

/-- THE TIED CARD OF 'canopykeep.ForestHolds'. -/
def forestHoldsCard : Claim7 := { stood := { row := forestHoldsRow, standIns := [], harness := (true, "f293559bce3ae5a8b6cb68d4aadaad1043fb083a0568287f6e9e9c119e565911"), looks := false }, kinds := [], alts := [], laidByText := true, laidKinds := [.data, .data, .data], laidTests := true, laidLooks := .later }
def ForestHoldsCardSaid : Prop := Claim7.holds Tryd.pinned (.plain (OpenSpec.ofChange forestHoldsSpec)) forestHoldsCard

/-- THE TIED CARD OF 'canopykeep.ForestApart'. -/
def forestApartCard : Claim7 := { stood := { row := forestApartRow, standIns := [], harness := (true, "f293559bce3ae5a8b6cb68d4aadaad1043fb083a0568287f6e9e9c119e565911"), looks := false }, kinds := [], alts := [], laidByText := true, laidKinds := [.data, .data, .data], laidTests := true, laidLooks := .later }
def ForestApartCardSaid : Prop := Claim7.holds Tryd.pinned (.plain (OpenSpec.ofChange forestApartSpec)) forestApartCard

/-- THE TIED CARD OF 'canopykeep.FoldCut'. -/
def foldCutCard : Claim7 := { stood := { row := foldCutRow, standIns := [], harness := (true, "f293559bce3ae5a8b6cb68d4aadaad1043fb083a0568287f6e9e9c119e565911"), looks := false }, kinds := [], alts := [], laidByText := true, laidKinds := [.data, .data, .data], laidTests := true, laidLooks := .later }
def FoldCutCardSaid : Prop := Claim7.holds Tryd.pinned (.plain (OpenSpec.ofChange foldCutSpec)) foldCutCard

/-- THE TIED CARD OF 'canopykeep.TapeMany'. -/
def tapeManyCard : Claim7 := { stood := { row := tapeManyRow, standIns := [], harness := (true, "f293559bce3ae5a8b6cb68d4aadaad1043fb083a0568287f6e9e9c119e565911"), looks := false }, kinds := [], alts := [], laidByText := true, laidKinds := [.data, .data, .data], laidTests := true, laidLooks := .later }
def TapeManyCardSaid : Prop := Claim7.holds Tryd.pinned (.plain (OpenSpec.ofChange tapeManySpec)) tapeManyCard

/-- THE TIED CARD OF 'canopykeep.TapeBack'. -/
def tapeBackCard : Claim7 := { stood := { row := tapeBackRow, standIns := [], harness := (true, "f293559bce3ae5a8b6cb68d4aadaad1043fb083a0568287f6e9e9c119e565911"), looks := false }, kinds := [], alts := [], laidByText := true, laidKinds := [.data, .data, .data], laidTests := true, laidLooks := .later }
def TapeBackCardSaid : Prop := Claim7.holds Tryd.pinned (.plain (OpenSpec.ofChange tapeBackSpec)) tapeBackCard

/-- THE TIED CARD OF 'canopykeep.TapeTorn'. -/
def tapeTornCard : Claim7 := { stood := { row := tapeTornRow, standIns := [], harness := (true, "f293559bce3ae5a8b6cb68d4aadaad1043fb083a0568287f6e9e9c119e565911"), looks := false }, kinds := [], alts := [], laidByText := true, laidKinds := [.data, .data, .data], laidTests := true, laidLooks := .later }
def TapeTornCardSaid : Prop := Claim7.holds Tryd.pinned (.plain (OpenSpec.ofChange tapeTornSpec)) tapeTornCard

/-- THE TIED CARD OF 'canopykeep.TapeTurns'. -/
def tapeTurnsCard : Claim7 := { stood := { row := tapeTurnsRow, standIns := [], harness := (true, "f293559bce3ae5a8b6cb68d4aadaad1043fb083a0568287f6e9e9c119e565911"), looks := false }, kinds := [], alts := [], laidByText := true, laidKinds := [.data, .data, .data], laidTests := true, laidLooks := .later }
def TapeTurnsCardSaid : Prop := Claim7.holds Tryd.pinned (.plain (OpenSpec.ofChange tapeTurnsSpec)) tapeTurnsCard

/-- THE TIED CARD OF 'canopykeep.TapeOn'. -/
def tapeOnCard : Claim7 := { stood := { row := tapeOnRow, standIns := [], harness := (true, "f293559bce3ae5a8b6cb68d4aadaad1043fb083a0568287f6e9e9c119e565911"), looks := false }, kinds := [], alts := [], laidByText := true, laidKinds := [.data, .data, .data], laidTests := true, laidLooks := .later }
def TapeOnCardSaid : Prop := Claim7.holds Tryd.pinned (.plain (OpenSpec.ofChange tapeOnSpec)) tapeOnCard

/-- THE TIED CARD OF 'canopykeep.TapeKeeps'. -/
def tapeKeepsCard : Claim7 := { stood := { row := tapeKeepsRow, standIns := [], harness := (true, "f293559bce3ae5a8b6cb68d4aadaad1043fb083a0568287f6e9e9c119e565911"), looks := false }, kinds := [], alts := [], laidByText := true, laidKinds := [.data, .data, .data], laidTests := true, laidLooks := .later }
def TapeKeepsCardSaid : Prop := Claim7.holds Tryd.pinned (.plain (OpenSpec.ofChange tapeKeepsSpec)) tapeKeepsCard

/-- THE SECOND FORM's CARD OF 'canopykeep.ForestEmpty'. -/
def forestEmptyUptoCard : Claim7 := { stood := { row := forestEmptyUptoRow, standIns := [], harness := (true, "f293559bce3ae5a8b6cb68d4aadaad1043fb083a0568287f6e9e9c119e565911"), looks := false }, kinds := [], alts := [], laidByText := true, laidKinds := [.data, .data, .data], laidTests := true, laidLooks := .later }
def ForestEmptyUptoCardSaid : Prop := Claim7.holds Tryd.pinned (.plain (OpenSpec.upto forestEmptySpec)) forestEmptyUptoCard

/-- THE SECOND FORM's CARD OF 'canopykeep.RootNames'. -/
def rootNamesUptoCard : Claim7 := { stood := { row := rootNamesUptoRow, standIns := [], harness := (true, "f293559bce3ae5a8b6cb68d4aadaad1043fb083a0568287f6e9e9c119e565911"), looks := false }, kinds := [], alts := [], laidByText := true, laidKinds := [.data, .data, .data], laidTests := true, laidLooks := .later }
def RootNamesUptoCardSaid : Prop := Claim7.holds Tryd.pinned (.plain (OpenSpec.upto rootNamesSpec)) rootNamesUptoCard

/-- THE SECOND FORM's CARD OF 'canopykeep.ForestHolds'. -/
def forestHoldsUptoCard : Claim7 := { stood := { row := forestHoldsUptoRow, standIns := [], harness := (true, "f293559bce3ae5a8b6cb68d4aadaad1043fb083a0568287f6e9e9c119e565911"), looks := false }, kinds := [], alts := [], laidByText := true, laidKinds := [.data, .data, .data], laidTests := true, laidLooks := .later }
def ForestHoldsUptoCardSaid : Prop := Claim7.holds Tryd.pinned (.plain (OpenSpec.upto forestHoldsSpec)) forestHoldsUptoCard

/-- THE SECOND FORM's CARD OF 'canopykeep.ForestApart'. -/
def forestApartUptoCard : Claim7 := { stood := { row := forestApartUptoRow, standIns := [], harness := (true, "f293559bce3ae5a8b6cb68d4aadaad1043fb083a0568287f6e9e9c119e565911"), looks := false }, kinds := [], alts := [], laidByText := true, laidKinds := [.data, .data, .data], laidTests := true, laidLooks := .later }
def ForestApartUptoCardSaid : Prop := Claim7.holds Tryd.pinned (.plain (OpenSpec.upto forestApartSpec)) forestApartUptoCard

/-- THE SECOND FORM's CARD OF 'canopykeep.FoldCut'. -/
def foldCutUptoCard : Claim7 := { stood := { row := foldCutUptoRow, standIns := [], harness := (true, "f293559bce3ae5a8b6cb68d4aadaad1043fb083a0568287f6e9e9c119e565911"), looks := false }, kinds := [], alts := [], laidByText := true, laidKinds := [.data, .data, .data], laidTests := true, laidLooks := .later }
def FoldCutUptoCardSaid : Prop := Claim7.holds Tryd.pinned (.plain (OpenSpec.upto foldCutSpec)) foldCutUptoCard

/-- THE SECOND FORM's CARD OF 'canopykeep.TapeMany'. -/
def tapeManyUptoCard : Claim7 := { stood := { row := tapeManyUptoRow, standIns := [], harness := (true, "f293559bce3ae5a8b6cb68d4aadaad1043fb083a0568287f6e9e9c119e565911"), looks := false }, kinds := [], alts := [], laidByText := true, laidKinds := [.data, .data, .data], laidTests := true, laidLooks := .later }
def TapeManyUptoCardSaid : Prop := Claim7.holds Tryd.pinned (.plain (OpenSpec.upto tapeManySpec)) tapeManyUptoCard

/-- THE SECOND FORM's CARD OF 'canopykeep.TapeBack'. -/
def tapeBackUptoCard : Claim7 := { stood := { row := tapeBackUptoRow, standIns := [], harness := (true, "f293559bce3ae5a8b6cb68d4aadaad1043fb083a0568287f6e9e9c119e565911"), looks := false }, kinds := [], alts := [], laidByText := true, laidKinds := [.data, .data, .data], laidTests := true, laidLooks := .later }
def TapeBackUptoCardSaid : Prop := Claim7.holds Tryd.pinned (.plain (OpenSpec.upto tapeBackSpec)) tapeBackUptoCard

/-- THE SECOND FORM's CARD OF 'canopykeep.TapeTorn'. -/
def tapeTornUptoCard : Claim7 := { stood := { row := tapeTornUptoRow, standIns := [], harness := (true, "f293559bce3ae5a8b6cb68d4aadaad1043fb083a0568287f6e9e9c119e565911"), looks := false }, kinds := [], alts := [], laidByText := true, laidKinds := [.data, .data, .data], laidTests := true, laidLooks := .later }
def TapeTornUptoCardSaid : Prop := Claim7.holds Tryd.pinned (.plain (OpenSpec.upto tapeTornSpec)) tapeTornUptoCard

/-- THE SECOND FORM's CARD OF 'canopykeep.TapeTurns'. -/
def tapeTurnsUptoCard : Claim7 := { stood := { row := tapeTurnsUptoRow, standIns := [], harness := (true, "f293559bce3ae5a8b6cb68d4aadaad1043fb083a0568287f6e9e9c119e565911"), looks := false }, kinds := [], alts := [], laidByText := true, laidKinds := [.data, .data, .data], laidTests := true, laidLooks := .later }
def TapeTurnsUptoCardSaid : Prop := Claim7.holds Tryd.pinned (.plain (OpenSpec.upto tapeTurnsSpec)) tapeTurnsUptoCard

/-- THE SECOND FORM's CARD OF 'canopykeep.TapeOn'. -/
def tapeOnUptoCard : Claim7 := { stood := { row := tapeOnUptoRow, standIns := [], harness := (true, "f293559bce3ae5a8b6cb68d4aadaad1043fb083a0568287f6e9e9c119e565911"), looks := false }, kinds := [], alts := [], laidByText := true, laidKinds := [.data, .data, .data], laidTests := true, laidLooks := .later }
def TapeOnUptoCardSaid : Prop := Claim7.holds Tryd.pinned (.plain (OpenSpec.upto tapeOnSpec)) tapeOnUptoCard

/-- THE SECOND FORM's CARD OF 'canopykeep.TapeKeeps'. -/
def tapeKeepsUptoCard : Claim7 := { stood := { row := tapeKeepsUptoRow, standIns := [], harness := (true, "f293559bce3ae5a8b6cb68d4aadaad1043fb083a0568287f6e9e9c119e565911"), looks := false }, kinds := [], alts := [], laidByText := true, laidKinds := [.data, .data, .data], laidTests := true, laidLooks := .later }
def TapeKeepsUptoCardSaid : Prop := Claim7.holds Tryd.pinned (.plain (OpenSpec.upto tapeKeepsSpec)) tapeKeepsUptoCard
end Rows
end Go.Proofs.YtikklmjengkliaaDoor
