/-
  DERIVED. GIVEN WITH THE SEED: THE CARDS: each row of YtbcpbnfojfiekaaGreatDoorRows.lean that lists a variable, with what it lists TIED to the program's text (the seventh form; the later family's looks); each row that meets fmt, with fmt's text TOLD by the authors' own Lean function (tested against real Go, not proved from fmt's source: count such statements apart). THE CARD IS WHAT COUNTS. Prove the row's statement (the work); the ties are given (YtbcpbnfojfiekaaGreatDoorTie.lean); close each card by the builder's one call (the guide's Derived/Test/ToyasCard.lean, 'card_holds'). Laid BY PROGRAM, IN A SANDBOX (cutbox-door.mjs). By AI agents, Wed Nov 11 2026. No macro, syntax, notation, axiom, sorry.
-/
import Derived.Test.YtbcpbnfojfiekaaGreatDoorRows
import GoSem.ClaimSeven
namespace Go.Proofs.YtbcpbnfojfiekaaGreatDoor
namespace Rows

/-- THE TIED CARD OF 'sheavestop.TopLine'. -/
def topLineCard : Claim7 := { stood := { row := topLineRow, standIns := [], harness := (true, "d322d36c78f13de67f97421544c76ff27a7d56d3155dda2a8dae04680043d9cc"), looks := true }, kinds := [], alts := [], laidByText := true, laidKinds := [.data, .data, .data, .data, .sentinel, .sentinel, .widerDeep, .data, .data, .data, .pinned], laidTests := true, laidLooks := .later }
def TopLineCardSaid : Prop := Claim7.holds Tryz.pinned (.plain (OpenSpec.ofChange topLineSpec)) topLineCard

/-- THE SECOND FORM's CARD OF 'sheavestop.TopLine'. -/
def topLineUptoCard : Claim7 := { stood := { row := topLineUptoRow, standIns := [], harness := (true, "d322d36c78f13de67f97421544c76ff27a7d56d3155dda2a8dae04680043d9cc"), looks := true }, kinds := [], alts := [], laidByText := true, laidKinds := [.data, .data, .data, .data, .sentinel, .sentinel, .widerDeep, .data, .data, .data, .pinned], laidTests := true, laidLooks := .later }
def TopLineUptoCardSaid : Prop := Claim7.holds Tryz.pinned (.plain (OpenSpec.upto topLineSpec)) topLineUptoCard
end Rows
end Go.Proofs.YtbcpbnfojfiekaaGreatDoor
