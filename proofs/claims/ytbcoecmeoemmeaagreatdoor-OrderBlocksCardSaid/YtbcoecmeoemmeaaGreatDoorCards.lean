/-
  DERIVED. GIVEN WITH THE SEED: THE CARDS: each row of YtbcoecmeoemmeaaGreatDoorRows.lean that lists a variable, with what it lists TIED to the program's text (the seventh form; the later family's looks); each row that meets fmt, with fmt's text TOLD by the authors' own Lean function (tested against real Go, not proved from fmt's source: count such statements apart). THE CARD IS WHAT COUNTS. Prove the row's statement (the work); the ties are given (YtbcoecmeoemmeaaGreatDoorTie.lean); close each card by the builder's one call (the guide's Derived/Test/ToyasCard.lean, 'card_holds'). Laid BY PROGRAM, IN A SANDBOX (cutbox-door.mjs). By AI agents, Wed Nov 11 2026. No macro, syntax, notation, axiom, sorry.
-/
import Derived.Test.YtbcoecmeoemmeaaGreatDoorRows
import GoSem.ClaimSeven
namespace Go.Proofs.YtbcoecmeoemmeaaGreatDoor
namespace Rows

/-- THE TIED CARD OF 'sheavestop.TopSingle'. -/
def topSingleCard : Claim7 := { stood := { row := topSingleRow, standIns := [], harness := (true, "6f6772a0e76da4de4b6e189db713cb8df2080577d651deb3d65487b5f55eab51"), looks := false }, kinds := [], alts := [], laidByText := true, laidKinds := [.widerDeep, .data, .data], laidTests := true, laidLooks := .later }
def TopSingleCardSaid : Prop := Claim7.holds Tryz.pinned (.plain (OpenSpec.ofChange topSingleSpec)) topSingleCard

/-- THE TIED CARD OF 'sheaveslaw.OrderBlocks'. -/
def orderBlocksCard : Claim7 := { stood := { row := orderBlocksRow, standIns := [], harness := (true, "6f6772a0e76da4de4b6e189db713cb8df2080577d651deb3d65487b5f55eab51"), looks := false }, kinds := [], alts := [], laidByText := true, laidKinds := [.widerDeep, .data, .data], laidTests := true, laidLooks := .later }
def OrderBlocksCardSaid : Prop := Claim7.holds Tryz.pinned (.plain (OpenSpec.ofChange orderBlocksSpec)) orderBlocksCard

/-- THE SECOND FORM's CARD OF 'sheavestop.TopSingle'. -/
def topSingleUptoCard : Claim7 := { stood := { row := topSingleUptoRow, standIns := [], harness := (true, "6f6772a0e76da4de4b6e189db713cb8df2080577d651deb3d65487b5f55eab51"), looks := false }, kinds := [], alts := [], laidByText := true, laidKinds := [.widerDeep, .data, .data], laidTests := true, laidLooks := .later }
def TopSingleUptoCardSaid : Prop := Claim7.holds Tryz.pinned (.plain (OpenSpec.upto topSingleSpec)) topSingleUptoCard

/-- THE SECOND FORM's CARD OF 'sheaveslaw.OrderBlocks'. -/
def orderBlocksUptoCard : Claim7 := { stood := { row := orderBlocksUptoRow, standIns := [], harness := (true, "6f6772a0e76da4de4b6e189db713cb8df2080577d651deb3d65487b5f55eab51"), looks := false }, kinds := [], alts := [], laidByText := true, laidKinds := [.widerDeep, .data, .data], laidTests := true, laidLooks := .later }
def OrderBlocksUptoCardSaid : Prop := Claim7.holds Tryz.pinned (.plain (OpenSpec.upto orderBlocksSpec)) orderBlocksUptoCard
end Rows
end Go.Proofs.YtbcoecmeoemmeaaGreatDoor
