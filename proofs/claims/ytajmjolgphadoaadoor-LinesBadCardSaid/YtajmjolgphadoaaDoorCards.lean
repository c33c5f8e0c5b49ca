/-
  DERIVED. GIVEN WITH THE SEED: THE CARDS: each row of YtajmjolgphadoaaDoorRows.lean that lists a variable, with what it lists TIED to the program's text (the seventh form; the later family's looks); each row that meets fmt, with fmt's text TOLD by the authors' own Lean function (tested against real Go, not proved from fmt's source: count such statements apart). THE CARD IS WHAT COUNTS. Prove the row's statement (the work); the ties are given (YtajmjolgphadoaaDoorTie.lean); close each card by the builder's one call (the guide's Derived/Test/ToyasCard.lean, 'card_holds'). Laid BY PROGRAM, IN A SANDBOX (cutbox-door.mjs). By AI agents, Wed Nov 11 2026. No macro, syntax, notation, axiom, sorry.
-/
import Derived.Test.YtajmjolgphadoaaDoorRows
import GoSem.ClaimSeven
namespace Go.Proofs.YtajmjolgphadoaaDoor
namespace Rows

/-- THE TIED CARD OF 'canopykeep.HistoryOrder'. -/
def historyOrderCard : Claim7 := { stood := { row := historyOrderRow, standIns := [], harness := (true, "f19ace83b31bdc4dcedcbd2a7f5b4d9e5680f4309aa4f3cd5575e432baee58f4"), looks := true }, kinds := [], alts := [], laidByText := true, laidKinds := [.data, .data, .data], laidTests := true, laidLooks := .later }
def HistoryOrderCardSaid : Prop := Claim7.holds Tryd.pinned (.plain (OpenSpec.ofChange historyOrderSpec)) historyOrderCard

/-- THE TIED CARD OF 'canopykeep.LinesBack'. -/
def linesBackCard : Claim7 := { stood := { row := linesBackRow, standIns := [], harness := (true, "f19ace83b31bdc4dcedcbd2a7f5b4d9e5680f4309aa4f3cd5575e432baee58f4"), looks := true }, kinds := [], alts := [], laidByText := true, laidKinds := [.data, .data, .data, .data, .sentinel, .sentinel, .data, .pinned], laidTests := true, laidLooks := .later }
def LinesBackCardSaid : Prop := Claim7.holds Tryd.pinned (.plain (OpenSpec.ofChange linesBackSpec)) linesBackCard

/-- THE TIED CARD OF 'canopykeep.LinesFixed'. -/
def linesFixedCard : Claim7 := { stood := { row := linesFixedRow, standIns := [], harness := (true, "f19ace83b31bdc4dcedcbd2a7f5b4d9e5680f4309aa4f3cd5575e432baee58f4"), looks := true }, kinds := [], alts := [], laidByText := true, laidKinds := [.data, .data, .data, .data, .sentinel, .sentinel, .data, .pinned], laidTests := true, laidLooks := .later }
def LinesFixedCardSaid : Prop := Claim7.holds Tryd.pinned (.plain (OpenSpec.ofChange linesFixedSpec)) linesFixedCard

/-- THE TIED CARD OF 'canopykeep.LinesBad'. -/
def linesBadCard : Claim7 := { stood := { row := linesBadRow, standIns := [], harness := (true, "f19ace83b31bdc4dcedcbd2a7f5b4d9e5680f4309aa4f3cd5575e432baee58f4"), looks := true }, kinds := [], alts := [], laidByText := true, laidKinds := [.data, .data, .data, .data, .sentinel, .sentinel, .data, .pinned], laidTests := true, laidLooks := .later }
def LinesBadCardSaid : Prop := Claim7.holds Tryd.pinned (.plain (OpenSpec.ofChange linesBadSpec)) linesBadCard

/-- THE SECOND FORM's CARD OF 'canopykeep.HistoryOrder'. -/
def historyOrderUptoCard : Claim7 := { stood := { row := historyOrderUptoRow, standIns := [], harness := (true, "f19ace83b31bdc4dcedcbd2a7f5b4d9e5680f4309aa4f3cd5575e432baee58f4"), looks := true }, kinds := [], alts := [], laidByText := true, laidKinds := [.data, .data, .data], laidTests := true, laidLooks := .later }
def HistoryOrderUptoCardSaid : Prop := Claim7.holds Tryd.pinned (.plain (OpenSpec.upto historyOrderSpec)) historyOrderUptoCard

/-- THE SECOND FORM's CARD OF 'canopykeep.LinesBack'. -/
def linesBackUptoCard : Claim7 := { stood := { row := linesBackUptoRow, standIns := [], harness := (true, "f19ace83b31bdc4dcedcbd2a7f5b4d9e5680f4309aa4f3cd5575e432baee58f4"), looks := true }, kinds := [], alts := [], laidByText := true, laidKinds := [.data, .data, .data, .data, .sentinel, .sentinel, .data, .pinned], laidTests := true, laidLooks := .later }
def LinesBackUptoCardSaid : Prop := Claim7.holds Tryd.pinned (.plain (OpenSpec.upto linesBackSpec)) linesBackUptoCard

/-- THE SECOND FORM's CARD OF 'canopykeep.LinesFixed'. -/
def linesFixedUptoCard : Claim7 := { stood := { row := linesFixedUptoRow, standIns := [], harness := (true, "f19ace83b31bdc4dcedcbd2a7f5b4d9e5680f4309aa4f3cd5575e432baee58f4"), looks := true }, kinds := [], alts := [], laidByText := true, laidKinds := [.data, .data, .data, .data, .sentinel, .sentinel, .data, .pinned], laidTests := true, laidLooks := .later }
def LinesFixedUptoCardSaid : Prop := Claim7.holds Tryd.pinned (.plain (OpenSpec.upto linesFixedSpec)) linesFixedUptoCard

/-- THE SECOND FORM's CARD OF 'canopykeep.LinesBad'. -/
def linesBadUptoCard : Claim7 := { stood := { row := linesBadUptoRow, standIns := [], harness := (true, "f19ace83b31bdc4dcedcbd2a7f5b4d9e5680f4309aa4f3cd5575e432baee58f4"), looks := true }, kinds := [], alts := [], laidByText := true, laidKinds := [.data, .data, .data, .data, .sentinel, .sentinel, .data, .pinned], laidTests := true, laidLooks := .later }
def LinesBadUptoCardSaid : Prop := Claim7.holds Tryd.pinned (.plain (OpenSpec.upto linesBadSpec)) linesBadUptoCard
end Rows
end Go.Proofs.YtajmjolgphadoaaDoor
