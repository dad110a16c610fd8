/-
  DERIVED. GIVEN WITH THE SEED: THE CARDS: each row of YtinibgklgehdpaaGreatDoorRows.lean that lists a variable, with what it lists TIED to the program's text (the seventh form; the later family's looks); each row that meets fmt, with fmt's text TOLD by the authors' own Lean function (tested against real Go, not proved from fmt's source: count such statements apart). THE CARD IS WHAT COUNTS. Prove the row's statement (the work); the ties are given (YtinibgklgehdpaaGreatDoorTie.lean); close each card by the builder's one call (the guide's Derived/Test/ToyasCard.lean, 'card_holds'). Laid BY PROGRAM, IN A SANDBOX (cutbox-door.mjs). By AI agents, Wed Nov 11 2026. No macro, syntax, notation, axiom, sorry.
-/
import Derived.Test.YtinibgklgehdpaaGreatDoorRows
import GoSem.ClaimSeven
namespace Go.Proofs.YtinibgklgehdpaaGreatDoor
namespace Rows

/-- THE TIED CARD OF 'sheavestop.TopSingle'. -/
def topSingleCard : Claim7 := { stood := { row := topSingleRow, standIns := [], harness := (true, "5266aba519c5ccc94061b891b9538a71bcab3dd4a5dccf935e0502e56c7060b2"), looks := false }, kinds := [], alts := [], laidByText := true, laidKinds := [.widerDeep, .data, .data], laidTests := true, laidLooks := .later }
def TopSingleCardSaid : Prop := Claim7.holds Tryz.pinned (.plain (OpenSpec.ofChange topSingleSpec)) topSingleCard

/-- THE TIED CARD OF 'sheavestop.TopFaces'. -/
def topFacesCard : Claim7 := { stood := { row := topFacesRow, standIns := [], harness := (true, "5266aba519c5ccc94061b891b9538a71bcab3dd4a5dccf935e0502e56c7060b2"), looks := false }, kinds := [], alts := [], laidByText := true, laidKinds := [.widerDeep, .data, .data], laidTests := true, laidLooks := .later }
def TopFacesCardSaid : Prop := Claim7.holds Tryz.pinned (.plain (OpenSpec.ofChange topFacesSpec)) topFacesCard

/-- THE TIED CARD OF 'sheavestop.TopSound'. -/
def topSoundCard : Claim7 := { stood := { row := topSoundRow, standIns := [], harness := (true, "5266aba519c5ccc94061b891b9538a71bcab3dd4a5dccf935e0502e56c7060b2"), looks := false }, kinds := [], alts := [], laidByText := true, laidKinds := [.widerDeep, .data, .data], laidTests := true, laidLooks := .later }
def TopSoundCardSaid : Prop := Claim7.holds Tryz.pinned (.plain (OpenSpec.ofChange topSoundSpec)) topSoundCard

/-- THE TIED CARD OF 'sheavestop.TopKept'. -/
def topKeptCard : Claim7 := { stood := { row := topKeptRow, standIns := [], harness := (true, "5266aba519c5ccc94061b891b9538a71bcab3dd4a5dccf935e0502e56c7060b2"), looks := false }, kinds := [], alts := [], laidByText := true, laidKinds := [.widerDeep, .data, .data], laidTests := true, laidLooks := .later }
def TopKeptCardSaid : Prop := Claim7.holds Tryz.pinned (.plain (OpenSpec.ofChange topKeptSpec)) topKeptCard

/-- THE TIED CARD OF 'sheavestop.TopTwice'. -/
def topTwiceCard : Claim7 := { stood := { row := topTwiceRow, standIns := [], harness := (true, "5266aba519c5ccc94061b891b9538a71bcab3dd4a5dccf935e0502e56c7060b2"), looks := false }, kinds := [], alts := [], laidByText := true, laidKinds := [.widerDeep, .data, .data], laidTests := true, laidLooks := .later }
def TopTwiceCardSaid : Prop := Claim7.holds Tryz.pinned (.plain (OpenSpec.ofChange topTwiceSpec)) topTwiceCard

/-- THE TIED CARD OF 'sheavestop.TopVotes'. -/
def topVotesCard : Claim7 := { stood := { row := topVotesRow, standIns := [], harness := (true, "5266aba519c5ccc94061b891b9538a71bcab3dd4a5dccf935e0502e56c7060b2"), looks := false }, kinds := [], alts := [], laidByText := true, laidKinds := [.widerDeep, .data, .data], laidTests := true, laidLooks := .later }
def TopVotesCardSaid : Prop := Claim7.holds Tryz.pinned (.plain (OpenSpec.ofChange topVotesSpec)) topVotesCard

/-- THE TIED CARD OF 'sheavestop.TopGrows'. -/
def topGrowsCard : Claim7 := { stood := { row := topGrowsRow, standIns := [], harness := (true, "5266aba519c5ccc94061b891b9538a71bcab3dd4a5dccf935e0502e56c7060b2"), looks := false }, kinds := [], alts := [], laidByText := true, laidKinds := [.widerDeep, .data, .data], laidTests := true, laidLooks := .later }
def TopGrowsCardSaid : Prop := Claim7.holds Tryz.pinned (.plain (OpenSpec.ofChange topGrowsSpec)) topGrowsCard

/-- THE TIED CARD OF 'sheavestop.TopCopies'. -/
def topCopiesCard : Claim7 := { stood := { row := topCopiesRow, standIns := [], harness := (true, "5266aba519c5ccc94061b891b9538a71bcab3dd4a5dccf935e0502e56c7060b2"), looks := false }, kinds := [], alts := [], laidByText := true, laidKinds := [.widerDeep, .data, .data], laidTests := true, laidLooks := .later }
def TopCopiesCardSaid : Prop := Claim7.holds Tryz.pinned (.plain (OpenSpec.ofChange topCopiesSpec)) topCopiesCard

/-- THE TIED CARD OF 'sheavestop.TopDown'. -/
def topDownCard : Claim7 := { stood := { row := topDownRow, standIns := [], harness := (true, "5266aba519c5ccc94061b891b9538a71bcab3dd4a5dccf935e0502e56c7060b2"), looks := false }, kinds := [], alts := [], laidByText := true, laidKinds := [.widerDeep, .data, .data], laidTests := true, laidLooks := .later }
def TopDownCardSaid : Prop := Claim7.holds Tryz.pinned (.plain (OpenSpec.ofChange topDownSpec)) topDownCard

/-- THE TIED CARD OF 'sheavestop.TopForge'. -/
def topForgeCard : Claim7 := { stood := { row := topForgeRow, standIns := [], harness := (true, "5266aba519c5ccc94061b891b9538a71bcab3dd4a5dccf935e0502e56c7060b2"), looks := false }, kinds := [], alts := [], laidByText := true, laidKinds := [.widerDeep, .data, .data], laidTests := true, laidLooks := .later }
def TopForgeCardSaid : Prop := Claim7.holds Tryz.pinned (.plain (OpenSpec.ofChange topForgeSpec)) topForgeCard

/-- THE SECOND FORM's CARD OF 'sheavestop.TopSingle'. -/
def topSingleUptoCard : Claim7 := { stood := { row := topSingleUptoRow, standIns := [], harness := (true, "5266aba519c5ccc94061b891b9538a71bcab3dd4a5dccf935e0502e56c7060b2"), looks := false }, kinds := [], alts := [], laidByText := true, laidKinds := [.widerDeep, .data, .data], laidTests := true, laidLooks := .later }
def TopSingleUptoCardSaid : Prop := Claim7.holds Tryz.pinned (.plain (OpenSpec.upto topSingleSpec)) topSingleUptoCard

/-- THE SECOND FORM's CARD OF 'sheavestop.TopFaces'. -/
def topFacesUptoCard : Claim7 := { stood := { row := topFacesUptoRow, standIns := [], harness := (true, "5266aba519c5ccc94061b891b9538a71bcab3dd4a5dccf935e0502e56c7060b2"), looks := false }, kinds := [], alts := [], laidByText := true, laidKinds := [.widerDeep, .data, .data], laidTests := true, laidLooks := .later }
def TopFacesUptoCardSaid : Prop := Claim7.holds Tryz.pinned (.plain (OpenSpec.upto topFacesSpec)) topFacesUptoCard

/-- THE SECOND FORM's CARD OF 'sheavestop.TopSound'. -/
def topSoundUptoCard : Claim7 := { stood := { row := topSoundUptoRow, standIns := [], harness := (true, "5266aba519c5ccc94061b891b9538a71bcab3dd4a5dccf935e0502e56c7060b2"), looks := false }, kinds := [], alts := [], laidByText := true, laidKinds := [.widerDeep, .data, .data], laidTests := true, laidLooks := .later }
def TopSoundUptoCardSaid : Prop := Claim7.holds Tryz.pinned (.plain (OpenSpec.upto topSoundSpec)) topSoundUptoCard

/-- THE SECOND FORM's CARD OF 'sheavestop.TopKept'. -/
def topKeptUptoCard : Claim7 := { stood := { row := topKeptUptoRow, standIns := [], harness := (true, "5266aba519c5ccc94061b891b9538a71bcab3dd4a5dccf935e0502e56c7060b2"), looks := false }, kinds := [], alts := [], laidByText := true, laidKinds := [.widerDeep, .data, .data], laidTests := true, laidLooks := .later }
def TopKeptUptoCardSaid : Prop := Claim7.holds Tryz.pinned (.plain (OpenSpec.upto topKeptSpec)) topKeptUptoCard

/-- THE SECOND FORM's CARD OF 'sheavestop.TopTwice'. -/
def topTwiceUptoCard : Claim7 := { stood := { row := topTwiceUptoRow, standIns := [], harness := (true, "5266aba519c5ccc94061b891b9538a71bcab3dd4a5dccf935e0502e56c7060b2"), looks := false }, kinds := [], alts := [], laidByText := true, laidKinds := [.widerDeep, .data, .data], laidTests := true, laidLooks := .later }
def TopTwiceUptoCardSaid : Prop := Claim7.holds Tryz.pinned (.plain (OpenSpec.upto topTwiceSpec)) topTwiceUptoCard

/-- THE SECOND FORM's CARD OF 'sheavestop.TopVotes'. -/
def topVotesUptoCard : Claim7 := { stood := { row := topVotesUptoRow, standIns := [], harness := (true, "5266aba519c5ccc94061b891b9538a71bcab3dd4a5dccf935e0502e56c7060b2"), looks := false }, kinds := [], alts := [], laidByText := true, laidKinds := [.widerDeep, .data, .data], laidTests := true, laidLooks := .later }
def TopVotesUptoCardSaid : Prop := Claim7.holds Tryz.pinned (.plain (OpenSpec.upto topVotesSpec)) topVotesUptoCard

/-- THE SECOND FORM's CARD OF 'sheavestop.TopGrows'. -/
def topGrowsUptoCard : Claim7 := { stood := { row := topGrowsUptoRow, standIns := [], harness := (true, "5266aba519c5ccc94061b891b9538a71bcab3dd4a5dccf935e0502e56c7060b2"), looks := false }, kinds := [], alts := [], laidByText := true, laidKinds := [.widerDeep, .data, .data], laidTests := true, laidLooks := .later }
def TopGrowsUptoCardSaid : Prop := Claim7.holds Tryz.pinned (.plain (OpenSpec.upto topGrowsSpec)) topGrowsUptoCard

/-- THE SECOND FORM's CARD OF 'sheavestop.TopCopies'. -/
def topCopiesUptoCard : Claim7 := { stood := { row := topCopiesUptoRow, standIns := [], harness := (true, "5266aba519c5ccc94061b891b9538a71bcab3dd4a5dccf935e0502e56c7060b2"), looks := false }, kinds := [], alts := [], laidByText := true, laidKinds := [.widerDeep, .data, .data], laidTests := true, laidLooks := .later }
def TopCopiesUptoCardSaid : Prop := Claim7.holds Tryz.pinned (.plain (OpenSpec.upto topCopiesSpec)) topCopiesUptoCard

/-- THE SECOND FORM's CARD OF 'sheavestop.TopDown'. -/
def topDownUptoCard : Claim7 := { stood := { row := topDownUptoRow, standIns := [], harness := (true, "5266aba519c5ccc94061b891b9538a71bcab3dd4a5dccf935e0502e56c7060b2"), looks := false }, kinds := [], alts := [], laidByText := true, laidKinds := [.widerDeep, .data, .data], laidTests := true, laidLooks := .later }
def TopDownUptoCardSaid : Prop := Claim7.holds Tryz.pinned (.plain (OpenSpec.upto topDownSpec)) topDownUptoCard

/-- THE SECOND FORM's CARD OF 'sheavestop.TopForge'. -/
def topForgeUptoCard : Claim7 := { stood := { row := topForgeUptoRow, standIns := [], harness := (true, "5266aba519c5ccc94061b891b9538a71bcab3dd4a5dccf935e0502e56c7060b2"), looks := false }, kinds := [], alts := [], laidByText := true, laidKinds := [.widerDeep, .data, .data], laidTests := true, laidLooks := .later }
def TopForgeUptoCardSaid : Prop := Claim7.holds Tryz.pinned (.plain (OpenSpec.upto topForgeSpec)) topForgeUptoCard
end Rows
end Go.Proofs.YtinibgklgehdpaaGreatDoor
