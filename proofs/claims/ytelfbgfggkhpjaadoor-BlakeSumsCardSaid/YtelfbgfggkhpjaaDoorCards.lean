/-
  DERIVED. GIVEN WITH THE SEED: THE CARDS: each row of YtelfbgfggkhpjaaDoorRows.lean that lists a variable, with what it lists TIED to the program's text (the seventh form; the later family's looks); each row that meets fmt, with fmt's text TOLD by the authors' own Lean function (tested against real Go, not proved from fmt's source: count such statements apart). THE CARD IS WHAT COUNTS. Prove the row's statement (the work); the ties are given (YtelfbgfggkhpjaaDoorTie.lean); close each card by the builder's one call (the guide's Derived/Test/ToyasCard.lean, 'card_holds'). Laid BY PROGRAM, IN A SANDBOX (cutbox-door.mjs). By AI agents, Wed Nov 11 2026. No macro, syntax, notation, axiom, sorry.
-/
import Derived.Test.YtelfbgfggkhpjaaDoorRows
import GoSem.ClaimSeven
namespace Go.Proofs.YtelfbgfggkhpjaaDoor
namespace Rows

/-- THE TIED CARD OF 'sheaveslaw.BlakeSums'. -/
def blakeSumsCard : Claim7 := { stood := { row := blakeSumsRow, standIns := [], harness := (true, "b1b5e63f4af3b405c4824309399e3e8cbcb8995c8f5bc2a7f108cf6ee497a3ef"), looks := false }, kinds := [], alts := [], laidByText := true, laidKinds := [.widerDeep, .data, .data], laidTests := true, laidLooks := .later }
def BlakeSumsCardSaid : Prop := Claim7.holds Tryd.pinned (.plain (OpenSpec.ofChange blakeSumsSpec)) blakeSumsCard

/-- THE TIED CARD OF 'sheaveslaw.BlakeTags'. -/
def blakeTagsCard : Claim7 := { stood := { row := blakeTagsRow, standIns := [], harness := (true, "b1b5e63f4af3b405c4824309399e3e8cbcb8995c8f5bc2a7f108cf6ee497a3ef"), looks := false }, kinds := [], alts := [], laidByText := true, laidKinds := [.widerDeep, .data, .data], laidTests := true, laidLooks := .later }
def BlakeTagsCardSaid : Prop := Claim7.holds Tryd.pinned (.plain (OpenSpec.ofChange blakeTagsSpec)) blakeTagsCard

/-- THE TIED CARD OF 'sheaveslaw.WireBatchDigests'. -/
def wireBatchDigestsCard : Claim7 := { stood := { row := wireBatchDigestsRow, standIns := [], harness := (true, "b1b5e63f4af3b405c4824309399e3e8cbcb8995c8f5bc2a7f108cf6ee497a3ef"), looks := false }, kinds := [], alts := [], laidByText := true, laidKinds := [.widerDeep, .data, .data], laidTests := true, laidLooks := .later }
def WireBatchDigestsCardSaid : Prop := Claim7.holds Tryd.pinned (.plain (OpenSpec.ofChange wireBatchDigestsSpec)) wireBatchDigestsCard

/-- THE TIED CARD OF 'sheaveslaw.OrderBatches'. -/
def orderBatchesCard : Claim7 := { stood := { row := orderBatchesRow, standIns := [], harness := (true, "b1b5e63f4af3b405c4824309399e3e8cbcb8995c8f5bc2a7f108cf6ee497a3ef"), looks := false }, kinds := [], alts := [], laidByText := true, laidKinds := [.widerDeep, .data, .data], laidTests := true, laidLooks := .later }
def OrderBatchesCardSaid : Prop := Claim7.holds Tryd.pinned (.plain (OpenSpec.ofChange orderBatchesSpec)) orderBatchesCard

/-- THE TIED CARD OF 'sheaveslaw.WireHeaderDigests'. -/
def wireHeaderDigestsCard : Claim7 := { stood := { row := wireHeaderDigestsRow, standIns := [], harness := (true, "b1b5e63f4af3b405c4824309399e3e8cbcb8995c8f5bc2a7f108cf6ee497a3ef"), looks := false }, kinds := [], alts := [], laidByText := true, laidKinds := [.widerDeep, .data, .data], laidTests := true, laidLooks := .later }
def WireHeaderDigestsCardSaid : Prop := Claim7.holds Tryd.pinned (.plain (OpenSpec.ofChange wireHeaderDigestsSpec)) wireHeaderDigestsCard

/-- THE SECOND FORM's CARD OF 'sheaveslaw.BlakeSums'. -/
def blakeSumsUptoCard : Claim7 := { stood := { row := blakeSumsUptoRow, standIns := [], harness := (true, "b1b5e63f4af3b405c4824309399e3e8cbcb8995c8f5bc2a7f108cf6ee497a3ef"), looks := false }, kinds := [], alts := [], laidByText := true, laidKinds := [.widerDeep, .data, .data], laidTests := true, laidLooks := .later }
def BlakeSumsUptoCardSaid : Prop := Claim7.holds Tryd.pinned (.plain (OpenSpec.upto blakeSumsSpec)) blakeSumsUptoCard

/-- THE SECOND FORM's CARD OF 'sheaveslaw.BlakeTags'. -/
def blakeTagsUptoCard : Claim7 := { stood := { row := blakeTagsUptoRow, standIns := [], harness := (true, "b1b5e63f4af3b405c4824309399e3e8cbcb8995c8f5bc2a7f108cf6ee497a3ef"), looks := false }, kinds := [], alts := [], laidByText := true, laidKinds := [.widerDeep, .data, .data], laidTests := true, laidLooks := .later }
def BlakeTagsUptoCardSaid : Prop := Claim7.holds Tryd.pinned (.plain (OpenSpec.upto blakeTagsSpec)) blakeTagsUptoCard

/-- THE SECOND FORM's CARD OF 'sheaveslaw.WireBatchDigests'. -/
def wireBatchDigestsUptoCard : Claim7 := { stood := { row := wireBatchDigestsUptoRow, standIns := [], harness := (true, "b1b5e63f4af3b405c4824309399e3e8cbcb8995c8f5bc2a7f108cf6ee497a3ef"), looks := false }, kinds := [], alts := [], laidByText := true, laidKinds := [.widerDeep, .data, .data], laidTests := true, laidLooks := .later }
def WireBatchDigestsUptoCardSaid : Prop := Claim7.holds Tryd.pinned (.plain (OpenSpec.upto wireBatchDigestsSpec)) wireBatchDigestsUptoCard

/-- THE SECOND FORM's CARD OF 'sheaveslaw.OrderBatches'. -/
def orderBatchesUptoCard : Claim7 := { stood := { row := orderBatchesUptoRow, standIns := [], harness := (true, "b1b5e63f4af3b405c4824309399e3e8cbcb8995c8f5bc2a7f108cf6ee497a3ef"), looks := false }, kinds := [], alts := [], laidByText := true, laidKinds := [.widerDeep, .data, .data], laidTests := true, laidLooks := .later }
def OrderBatchesUptoCardSaid : Prop := Claim7.holds Tryd.pinned (.plain (OpenSpec.upto orderBatchesSpec)) orderBatchesUptoCard

/-- THE SECOND FORM's CARD OF 'sheaveslaw.WireHeaderDigests'. -/
def wireHeaderDigestsUptoCard : Claim7 := { stood := { row := wireHeaderDigestsUptoRow, standIns := [], harness := (true, "b1b5e63f4af3b405c4824309399e3e8cbcb8995c8f5bc2a7f108cf6ee497a3ef"), looks := false }, kinds := [], alts := [], laidByText := true, laidKinds := [.widerDeep, .data, .data], laidTests := true, laidLooks := .later }
def WireHeaderDigestsUptoCardSaid : Prop := Claim7.holds Tryd.pinned (.plain (OpenSpec.upto wireHeaderDigestsSpec)) wireHeaderDigestsUptoCard
end Rows
end Go.Proofs.YtelfbgfggkhpjaaDoor
