/-
  DERIVED. GIVEN WITH THE SEED: THE CARDS: each row of YtilgpdpooildcaaGreatDoorRows.lean that lists a variable, with what it lists TIED to the program's text (the seventh form; the later family's looks); each row that meets fmt, with fmt's text TOLD by the authors' own Lean function (tested against real Go, not proved from fmt's source: count such statements apart). THE CARD IS WHAT COUNTS. Prove the row's statement (the work); the ties are given (YtilgpdpooildcaaGreatDoorTie.lean); close each card by the builder's one call (the guide's Derived/Test/ToyasCard.lean, 'card_holds'). Laid BY PROGRAM, IN A SANDBOX (cutbox-door.mjs). By AI agents, Wed Nov 11 2026. No macro, syntax, notation, axiom, sorry.
-/
import Derived.Test.YtilgpdpooildcaaGreatDoorRows
import GoSem.ClaimSeven
namespace Go.Proofs.YtilgpdpooildcaaGreatDoor
namespace Rows

/-- THE TIED CARD OF 'canopytop.TopRounds'. -/
def topRoundsCard : Claim7 := { stood := { row := topRoundsRow, standIns := [], harness := (true, "c733f15c55d4f92f898cbc9b48debaf976a4f2ff42782dc4a154e27bf6dc478c"), looks := false }, kinds := [], alts := [], laidByText := true, laidKinds := [.data, .data, .data, .data], laidTests := true, laidLooks := .later }
def TopRoundsCardSaid : Prop := Claim7.holds Tryz.pinned (.plain (OpenSpec.ofChange topRoundsSpec)) topRoundsCard

/-- THE TIED CARD OF 'canopytop.TopIdle'. -/
def topIdleCard : Claim7 := { stood := { row := topIdleRow, standIns := [], harness := (true, "c733f15c55d4f92f898cbc9b48debaf976a4f2ff42782dc4a154e27bf6dc478c"), looks := false }, kinds := [], alts := [], laidByText := true, laidKinds := [.data, .data, .data, .data], laidTests := true, laidLooks := .later }
def TopIdleCardSaid : Prop := Claim7.holds Tryz.pinned (.plain (OpenSpec.ofChange topIdleSpec)) topIdleCard

/-- THE TIED CARD OF 'canopytop.TopTwice'. -/
def topTwiceCard : Claim7 := { stood := { row := topTwiceRow, standIns := [], harness := (true, "c733f15c55d4f92f898cbc9b48debaf976a4f2ff42782dc4a154e27bf6dc478c"), looks := false }, kinds := [], alts := [], laidByText := true, laidKinds := [.data, .data, .data, .data], laidTests := true, laidLooks := .later }
def TopTwiceCardSaid : Prop := Claim7.holds Tryz.pinned (.plain (OpenSpec.ofChange topTwiceSpec)) topTwiceCard

/-- THE TIED CARD OF 'canopytop.TopAnew'. -/
def topAnewCard : Claim7 := { stood := { row := topAnewRow, standIns := [], harness := (true, "c733f15c55d4f92f898cbc9b48debaf976a4f2ff42782dc4a154e27bf6dc478c"), looks := false }, kinds := [], alts := [], laidByText := true, laidKinds := [.data, .data, .data, .data], laidTests := true, laidLooks := .later }
def TopAnewCardSaid : Prop := Claim7.holds Tryz.pinned (.plain (OpenSpec.ofChange topAnewSpec)) topAnewCard

/-- THE TIED CARD OF 'canopytop.TopRoots'. -/
def topRootsCard : Claim7 := { stood := { row := topRootsRow, standIns := [], harness := (true, "c733f15c55d4f92f898cbc9b48debaf976a4f2ff42782dc4a154e27bf6dc478c"), looks := false }, kinds := [], alts := [], laidByText := true, laidKinds := [.data, .data, .data, .data], laidTests := true, laidLooks := .later }
def TopRootsCardSaid : Prop := Claim7.holds Tryz.pinned (.plain (OpenSpec.ofChange topRootsSpec)) topRootsCard

/-- THE TIED CARD OF 'canopytop.TopBank'. -/
def topBankCard : Claim7 := { stood := { row := topBankRow, standIns := [], harness := (true, "c733f15c55d4f92f898cbc9b48debaf976a4f2ff42782dc4a154e27bf6dc478c"), looks := false }, kinds := [], alts := [], laidByText := true, laidKinds := [.data, .data, .data, .data], laidTests := true, laidLooks := .later }
def TopBankCardSaid : Prop := Claim7.holds Tryz.pinned (.plain (OpenSpec.ofChange topBankSpec)) topBankCard

/-- THE TIED CARD OF 'canopytop.TopClash'. -/
def topClashCard : Claim7 := { stood := { row := topClashRow, standIns := [], harness := (true, "c733f15c55d4f92f898cbc9b48debaf976a4f2ff42782dc4a154e27bf6dc478c"), looks := false }, kinds := [], alts := [], laidByText := true, laidKinds := [.data, .data, .data, .data], laidTests := true, laidLooks := .later }
def TopClashCardSaid : Prop := Claim7.holds Tryz.pinned (.plain (OpenSpec.ofChange topClashSpec)) topClashCard

/-- THE TIED CARD OF 'canopytop.TopBlind'. -/
def topBlindCard : Claim7 := { stood := { row := topBlindRow, standIns := [], harness := (true, "c733f15c55d4f92f898cbc9b48debaf976a4f2ff42782dc4a154e27bf6dc478c"), looks := false }, kinds := [], alts := [], laidByText := true, laidKinds := [.data, .data, .data, .data], laidTests := true, laidLooks := .later }
def TopBlindCardSaid : Prop := Claim7.holds Tryz.pinned (.plain (OpenSpec.ofChange topBlindSpec)) topBlindCard

/-- THE TIED CARD OF 'canopytop.TopApart'. -/
def topApartCard : Claim7 := { stood := { row := topApartRow, standIns := [], harness := (true, "c733f15c55d4f92f898cbc9b48debaf976a4f2ff42782dc4a154e27bf6dc478c"), looks := false }, kinds := [], alts := [], laidByText := true, laidKinds := [.data, .data, .data, .data], laidTests := true, laidLooks := .later }
def TopApartCardSaid : Prop := Claim7.holds Tryz.pinned (.plain (OpenSpec.ofChange topApartSpec)) topApartCard

/-- THE TIED CARD OF 'canopytop.TopCounter'. -/
def topCounterCard : Claim7 := { stood := { row := topCounterRow, standIns := [], harness := (true, "c733f15c55d4f92f898cbc9b48debaf976a4f2ff42782dc4a154e27bf6dc478c"), looks := false }, kinds := [], alts := [], laidByText := true, laidKinds := [.data, .data, .data, .data], laidTests := true, laidLooks := .later }
def TopCounterCardSaid : Prop := Claim7.holds Tryz.pinned (.plain (OpenSpec.ofChange topCounterSpec)) topCounterCard

/-- THE TIED CARD OF 'canopytop.TopGone'. -/
def topGoneCard : Claim7 := { stood := { row := topGoneRow, standIns := [], harness := (true, "c733f15c55d4f92f898cbc9b48debaf976a4f2ff42782dc4a154e27bf6dc478c"), looks := false }, kinds := [], alts := [], laidByText := true, laidKinds := [.data, .data, .data, .data], laidTests := true, laidLooks := .later }
def TopGoneCardSaid : Prop := Claim7.holds Tryz.pinned (.plain (OpenSpec.ofChange topGoneSpec)) topGoneCard

/-- THE TIED CARD OF 'canopytop.TopQueue'. -/
def topQueueCard : Claim7 := { stood := { row := topQueueRow, standIns := [], harness := (true, "c733f15c55d4f92f898cbc9b48debaf976a4f2ff42782dc4a154e27bf6dc478c"), looks := false }, kinds := [], alts := [], laidByText := true, laidKinds := [.data, .data, .data, .data], laidTests := true, laidLooks := .later }
def TopQueueCardSaid : Prop := Claim7.holds Tryz.pinned (.plain (OpenSpec.ofChange topQueueSpec)) topQueueCard

/-- THE TIED CARD OF 'canopytop.TopWaits'. -/
def topWaitsCard : Claim7 := { stood := { row := topWaitsRow, standIns := [], harness := (true, "c733f15c55d4f92f898cbc9b48debaf976a4f2ff42782dc4a154e27bf6dc478c"), looks := false }, kinds := [], alts := [], laidByText := true, laidKinds := [.data, .data, .data, .data], laidTests := true, laidLooks := .later }
def TopWaitsCardSaid : Prop := Claim7.holds Tryz.pinned (.plain (OpenSpec.ofChange topWaitsSpec)) topWaitsCard

/-- THE TIED CARD OF 'canopytop.TopPhantom'. -/
def topPhantomCard : Claim7 := { stood := { row := topPhantomRow, standIns := [], harness := (true, "c733f15c55d4f92f898cbc9b48debaf976a4f2ff42782dc4a154e27bf6dc478c"), looks := false }, kinds := [], alts := [], laidByText := true, laidKinds := [.data, .data, .data, .data], laidTests := true, laidLooks := .later }
def TopPhantomCardSaid : Prop := Claim7.holds Tryz.pinned (.plain (OpenSpec.ofChange topPhantomSpec)) topPhantomCard

/-- THE TIED CARD OF 'canopytop.TopOwn'. -/
def topOwnCard : Claim7 := { stood := { row := topOwnRow, standIns := [], harness := (true, "c733f15c55d4f92f898cbc9b48debaf976a4f2ff42782dc4a154e27bf6dc478c"), looks := false }, kinds := [], alts := [], laidByText := true, laidKinds := [.data, .data, .data, .data], laidTests := true, laidLooks := .later }
def TopOwnCardSaid : Prop := Claim7.holds Tryz.pinned (.plain (OpenSpec.ofChange topOwnSpec)) topOwnCard

/-- THE TIED CARD OF 'canopytop.TopLost'. -/
def topLostCard : Claim7 := { stood := { row := topLostRow, standIns := [], harness := (true, "c733f15c55d4f92f898cbc9b48debaf976a4f2ff42782dc4a154e27bf6dc478c"), looks := false }, kinds := [], alts := [], laidByText := true, laidKinds := [.data, .data, .data, .data], laidTests := true, laidLooks := .later }
def TopLostCardSaid : Prop := Claim7.holds Tryz.pinned (.plain (OpenSpec.ofChange topLostSpec)) topLostCard

/-- THE SECOND FORM's CARD OF 'canopytop.TopRounds'. -/
def topRoundsUptoCard : Claim7 := { stood := { row := topRoundsUptoRow, standIns := [], harness := (true, "c733f15c55d4f92f898cbc9b48debaf976a4f2ff42782dc4a154e27bf6dc478c"), looks := false }, kinds := [], alts := [], laidByText := true, laidKinds := [.data, .data, .data, .data], laidTests := true, laidLooks := .later }
def TopRoundsUptoCardSaid : Prop := Claim7.holds Tryz.pinned (.plain (OpenSpec.upto topRoundsSpec)) topRoundsUptoCard

/-- THE SECOND FORM's CARD OF 'canopytop.TopIdle'. -/
def topIdleUptoCard : Claim7 := { stood := { row := topIdleUptoRow, standIns := [], harness := (true, "c733f15c55d4f92f898cbc9b48debaf976a4f2ff42782dc4a154e27bf6dc478c"), looks := false }, kinds := [], alts := [], laidByText := true, laidKinds := [.data, .data, .data, .data], laidTests := true, laidLooks := .later }
def TopIdleUptoCardSaid : Prop := Claim7.holds Tryz.pinned (.plain (OpenSpec.upto topIdleSpec)) topIdleUptoCard

/-- THE SECOND FORM's CARD OF 'canopytop.TopTwice'. -/
def topTwiceUptoCard : Claim7 := { stood := { row := topTwiceUptoRow, standIns := [], harness := (true, "c733f15c55d4f92f898cbc9b48debaf976a4f2ff42782dc4a154e27bf6dc478c"), looks := false }, kinds := [], alts := [], laidByText := true, laidKinds := [.data, .data, .data, .data], laidTests := true, laidLooks := .later }
def TopTwiceUptoCardSaid : Prop := Claim7.holds Tryz.pinned (.plain (OpenSpec.upto topTwiceSpec)) topTwiceUptoCard

/-- THE SECOND FORM's CARD OF 'canopytop.TopAnew'. -/
def topAnewUptoCard : Claim7 := { stood := { row := topAnewUptoRow, standIns := [], harness := (true, "c733f15c55d4f92f898cbc9b48debaf976a4f2ff42782dc4a154e27bf6dc478c"), looks := false }, kinds := [], alts := [], laidByText := true, laidKinds := [.data, .data, .data, .data], laidTests := true, laidLooks := .later }
def TopAnewUptoCardSaid : Prop := Claim7.holds Tryz.pinned (.plain (OpenSpec.upto topAnewSpec)) topAnewUptoCard

/-- THE SECOND FORM's CARD OF 'canopytop.TopRoots'. -/
def topRootsUptoCard : Claim7 := { stood := { row := topRootsUptoRow, standIns := [], harness := (true, "c733f15c55d4f92f898cbc9b48debaf976a4f2ff42782dc4a154e27bf6dc478c"), looks := false }, kinds := [], alts := [], laidByText := true, laidKinds := [.data, .data, .data, .data], laidTests := true, laidLooks := .later }
def TopRootsUptoCardSaid : Prop := Claim7.holds Tryz.pinned (.plain (OpenSpec.upto topRootsSpec)) topRootsUptoCard

/-- THE SECOND FORM's CARD OF 'canopytop.TopBank'. -/
def topBankUptoCard : Claim7 := { stood := { row := topBankUptoRow, standIns := [], harness := (true, "c733f15c55d4f92f898cbc9b48debaf976a4f2ff42782dc4a154e27bf6dc478c"), looks := false }, kinds := [], alts := [], laidByText := true, laidKinds := [.data, .data, .data, .data], laidTests := true, laidLooks := .later }
def TopBankUptoCardSaid : Prop := Claim7.holds Tryz.pinned (.plain (OpenSpec.upto topBankSpec)) topBankUptoCard

/-- THE SECOND FORM's CARD OF 'canopytop.TopClash'. -/
def topClashUptoCard : Claim7 := { stood := { row := topClashUptoRow, standIns := [], harness := (true, "c733f15c55d4f92f898cbc9b48debaf976a4f2ff42782dc4a154e27bf6dc478c"), looks := false }, kinds := [], alts := [], laidByText := true, laidKinds := [.data, .data, .data, .data], laidTests := true, laidLooks := .later }
def TopClashUptoCardSaid : Prop := Claim7.holds Tryz.pinned (.plain (OpenSpec.upto topClashSpec)) topClashUptoCard

/-- THE SECOND FORM's CARD OF 'canopytop.TopBlind'. -/
def topBlindUptoCard : Claim7 := { stood := { row := topBlindUptoRow, standIns := [], harness := (true, "c733f15c55d4f92f898cbc9b48debaf976a4f2ff42782dc4a154e27bf6dc478c"), looks := false }, kinds := [], alts := [], laidByText := true, laidKinds := [.data, .data, .data, .data], laidTests := true, laidLooks := .later }
def TopBlindUptoCardSaid : Prop := Claim7.holds Tryz.pinned (.plain (OpenSpec.upto topBlindSpec)) topBlindUptoCard

/-- THE SECOND FORM's CARD OF 'canopytop.TopApart'. -/
def topApartUptoCard : Claim7 := { stood := { row := topApartUptoRow, standIns := [], harness := (true, "c733f15c55d4f92f898cbc9b48debaf976a4f2ff42782dc4a154e27bf6dc478c"), looks := false }, kinds := [], alts := [], laidByText := true, laidKinds := [.data, .data, .data, .data], laidTests := true, laidLooks := .later }
def TopApartUptoCardSaid : Prop := Claim7.holds Tryz.pinned (.plain (OpenSpec.upto topApartSpec)) topApartUptoCard

/-- THE SECOND FORM's CARD OF 'canopytop.TopCounter'. -/
def topCounterUptoCard : Claim7 := { stood := { row := topCounterUptoRow, standIns := [], harness := (true, "c733f15c55d4f92f898cbc9b48debaf976a4f2ff42782dc4a154e27bf6dc478c"), looks := false }, kinds := [], alts := [], laidByText := true, laidKinds := [.data, .data, .data, .data], laidTests := true, laidLooks := .later }
def TopCounterUptoCardSaid : Prop := Claim7.holds Tryz.pinned (.plain (OpenSpec.upto topCounterSpec)) topCounterUptoCard

/-- THE SECOND FORM's CARD OF 'canopytop.TopGone'. -/
def topGoneUptoCard : Claim7 := { stood := { row := topGoneUptoRow, standIns := [], harness := (true, "c733f15c55d4f92f898cbc9b48debaf976a4f2ff42782dc4a154e27bf6dc478c"), looks := false }, kinds := [], alts := [], laidByText := true, laidKinds := [.data, .data, .data, .data], laidTests := true, laidLooks := .later }
def TopGoneUptoCardSaid : Prop := Claim7.holds Tryz.pinned (.plain (OpenSpec.upto topGoneSpec)) topGoneUptoCard

/-- THE SECOND FORM's CARD OF 'canopytop.TopQueue'. -/
def topQueueUptoCard : Claim7 := { stood := { row := topQueueUptoRow, standIns := [], harness := (true, "c733f15c55d4f92f898cbc9b48debaf976a4f2ff42782dc4a154e27bf6dc478c"), looks := false }, kinds := [], alts := [], laidByText := true, laidKinds := [.data, .data, .data, .data], laidTests := true, laidLooks := .later }
def TopQueueUptoCardSaid : Prop := Claim7.holds Tryz.pinned (.plain (OpenSpec.upto topQueueSpec)) topQueueUptoCard

/-- THE SECOND FORM's CARD OF 'canopytop.TopWaits'. -/
def topWaitsUptoCard : Claim7 := { stood := { row := topWaitsUptoRow, standIns := [], harness := (true, "c733f15c55d4f92f898cbc9b48debaf976a4f2ff42782dc4a154e27bf6dc478c"), looks := false }, kinds := [], alts := [], laidByText := true, laidKinds := [.data, .data, .data, .data], laidTests := true, laidLooks := .later }
def TopWaitsUptoCardSaid : Prop := Claim7.holds Tryz.pinned (.plain (OpenSpec.upto topWaitsSpec)) topWaitsUptoCard

/-- THE SECOND FORM's CARD OF 'canopytop.TopPhantom'. -/
def topPhantomUptoCard : Claim7 := { stood := { row := topPhantomUptoRow, standIns := [], harness := (true, "c733f15c55d4f92f898cbc9b48debaf976a4f2ff42782dc4a154e27bf6dc478c"), looks := false }, kinds := [], alts := [], laidByText := true, laidKinds := [.data, .data, .data, .data], laidTests := true, laidLooks := .later }
def TopPhantomUptoCardSaid : Prop := Claim7.holds Tryz.pinned (.plain (OpenSpec.upto topPhantomSpec)) topPhantomUptoCard

/-- THE SECOND FORM's CARD OF 'canopytop.TopOwn'. -/
def topOwnUptoCard : Claim7 := { stood := { row := topOwnUptoRow, standIns := [], harness := (true, "c733f15c55d4f92f898cbc9b48debaf976a4f2ff42782dc4a154e27bf6dc478c"), looks := false }, kinds := [], alts := [], laidByText := true, laidKinds := [.data, .data, .data, .data], laidTests := true, laidLooks := .later }
def TopOwnUptoCardSaid : Prop := Claim7.holds Tryz.pinned (.plain (OpenSpec.upto topOwnSpec)) topOwnUptoCard

/-- THE SECOND FORM's CARD OF 'canopytop.TopLost'. -/
def topLostUptoCard : Claim7 := { stood := { row := topLostUptoRow, standIns := [], harness := (true, "c733f15c55d4f92f898cbc9b48debaf976a4f2ff42782dc4a154e27bf6dc478c"), looks := false }, kinds := [], alts := [], laidByText := true, laidKinds := [.data, .data, .data, .data], laidTests := true, laidLooks := .later }
def TopLostUptoCardSaid : Prop := Claim7.holds Tryz.pinned (.plain (OpenSpec.upto topLostSpec)) topLostUptoCard
end Rows
end Go.Proofs.YtilgpdpooildcaaGreatDoor
