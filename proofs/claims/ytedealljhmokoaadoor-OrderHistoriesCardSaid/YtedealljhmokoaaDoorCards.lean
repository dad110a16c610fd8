/-
  DERIVED. GIVEN WITH THE SEED: THE CARDS: each row of YtedealljhmokoaaDoorRows.lean that lists a variable, with what it lists TIED to the program's text (the seventh form; the later family's looks); each row that meets fmt, with fmt's text TOLD by the authors' own Lean function (tested against real Go, not proved from fmt's source: count such statements apart). THE CARD IS WHAT COUNTS. Prove the row's statement (the work); the ties are given (YtedealljhmokoaaDoorTie.lean); close each card by the builder's one call (the guide's Derived/Test/ToyasCard.lean, 'card_holds'). Laid BY PROGRAM, IN A SANDBOX (cutbox-door.mjs). By AI agents, Wed Nov 11 2026. No macro, syntax, notation, axiom, sorry.
-/
import Derived.Test.YtedealljhmokoaaDoorRows
import GoSem.ClaimSeven
namespace Go.Proofs.YtedealljhmokoaaDoor
namespace Rows

/-- THE TIED CARD OF 'sheaveslaw.WireBatchDigests'. -/
def wireBatchDigestsCard : Claim7 := { stood := { row := wireBatchDigestsRow, standIns := [], harness := (true, "062f2e7bcd23658a2df93372f0f279ed3831c0b1f54c10c26da5cf9c29cad619"), looks := false }, kinds := [], alts := [], laidByText := true, laidKinds := [.widerDeep, .data, .data], laidTests := true, laidLooks := .later }
def WireBatchDigestsCardSaid : Prop := Claim7.holds Tryd.pinned (.plain (OpenSpec.ofChange wireBatchDigestsSpec)) wireBatchDigestsCard

/-- THE TIED CARD OF 'sheaveslaw.OrderBatches'. -/
def orderBatchesCard : Claim7 := { stood := { row := orderBatchesRow, standIns := [], harness := (true, "062f2e7bcd23658a2df93372f0f279ed3831c0b1f54c10c26da5cf9c29cad619"), looks := false }, kinds := [], alts := [], laidByText := true, laidKinds := [.widerDeep, .data, .data], laidTests := true, laidLooks := .later }
def OrderBatchesCardSaid : Prop := Claim7.holds Tryd.pinned (.plain (OpenSpec.ofChange orderBatchesSpec)) orderBatchesCard

/-- THE TIED CARD OF 'sheaveslaw.WireHeaderDigests'. -/
def wireHeaderDigestsCard : Claim7 := { stood := { row := wireHeaderDigestsRow, standIns := [], harness := (true, "062f2e7bcd23658a2df93372f0f279ed3831c0b1f54c10c26da5cf9c29cad619"), looks := false }, kinds := [], alts := [], laidByText := true, laidKinds := [.widerDeep, .data, .data], laidTests := true, laidLooks := .later }
def WireHeaderDigestsCardSaid : Prop := Claim7.holds Tryd.pinned (.plain (OpenSpec.ofChange wireHeaderDigestsSpec)) wireHeaderDigestsCard

/-- THE TIED CARD OF 'sheaveslaw.BallotCasts'. -/
def ballotCastsCard : Claim7 := { stood := { row := ballotCastsRow, standIns := [], harness := (true, "062f2e7bcd23658a2df93372f0f279ed3831c0b1f54c10c26da5cf9c29cad619"), looks := false }, kinds := [], alts := [], laidByText := true, laidKinds := [.widerDeep, .data, .data], laidTests := true, laidLooks := .later }
def BallotCastsCardSaid : Prop := Claim7.holds Tryd.pinned (.plain (OpenSpec.ofChange ballotCastsSpec)) ballotCastsCard

/-- THE TIED CARD OF 'sheaveslaw.DagChecks'. -/
def dagChecksCard : Claim7 := { stood := { row := dagChecksRow, standIns := [], harness := (true, "062f2e7bcd23658a2df93372f0f279ed3831c0b1f54c10c26da5cf9c29cad619"), looks := false }, kinds := [], alts := [], laidByText := true, laidKinds := [.widerDeep, .data, .data], laidTests := true, laidLooks := .later }
def DagChecksCardSaid : Prop := Claim7.holds Tryd.pinned (.plain (OpenSpec.ofChange dagChecksSpec)) dagChecksCard

/-- THE TIED CARD OF 'sheaveslaw.SealProven'. -/
def sealProvenCard : Claim7 := { stood := { row := sealProvenRow, standIns := [], harness := (true, "062f2e7bcd23658a2df93372f0f279ed3831c0b1f54c10c26da5cf9c29cad619"), looks := false }, kinds := [], alts := [], laidByText := true, laidKinds := [.widerDeep, .data, .data], laidTests := true, laidLooks := .later }
def SealProvenCardSaid : Prop := Claim7.holds Tryd.pinned (.plain (OpenSpec.ofChange sealProvenSpec)) sealProvenCard

/-- THE TIED CARD OF 'sheaveslaw.DagMissing'. -/
def dagMissingCard : Claim7 := { stood := { row := dagMissingRow, standIns := [], harness := (true, "062f2e7bcd23658a2df93372f0f279ed3831c0b1f54c10c26da5cf9c29cad619"), looks := false }, kinds := [], alts := [], laidByText := true, laidKinds := [.widerDeep, .data, .data], laidTests := true, laidLooks := .later }
def DagMissingCardSaid : Prop := Claim7.holds Tryd.pinned (.plain (OpenSpec.ofChange dagMissingSpec)) dagMissingCard

/-- THE TIED CARD OF 'sheaveslaw.DagFinds'. -/
def dagFindsCard : Claim7 := { stood := { row := dagFindsRow, standIns := [], harness := (true, "062f2e7bcd23658a2df93372f0f279ed3831c0b1f54c10c26da5cf9c29cad619"), looks := false }, kinds := [], alts := [], laidByText := true, laidKinds := [.widerDeep, .data, .data], laidTests := true, laidLooks := .later }
def DagFindsCardSaid : Prop := Claim7.holds Tryd.pinned (.plain (OpenSpec.ofChange dagFindsSpec)) dagFindsCard

/-- THE TIED CARD OF 'sheaveslaw.DagInserts'. -/
def dagInsertsCard : Claim7 := { stood := { row := dagInsertsRow, standIns := [], harness := (true, "062f2e7bcd23658a2df93372f0f279ed3831c0b1f54c10c26da5cf9c29cad619"), looks := false }, kinds := [], alts := [], laidByText := true, laidKinds := [.widerDeep, .data, .data], laidTests := true, laidLooks := .later }
def DagInsertsCardSaid : Prop := Claim7.holds Tryd.pinned (.plain (OpenSpec.ofChange dagInsertsSpec)) dagInsertsCard

/-- THE TIED CARD OF 'sheaveslaw.DagRounds'. -/
def dagRoundsCard : Claim7 := { stood := { row := dagRoundsRow, standIns := [], harness := (true, "062f2e7bcd23658a2df93372f0f279ed3831c0b1f54c10c26da5cf9c29cad619"), looks := false }, kinds := [], alts := [], laidByText := true, laidKinds := [.widerDeep, .data, .data], laidTests := true, laidLooks := .later }
def DagRoundsCardSaid : Prop := Claim7.holds Tryd.pinned (.plain (OpenSpec.ofChange dagRoundsSpec)) dagRoundsCard

/-- THE TIED CARD OF 'sheaveslaw.DagDigests'. -/
def dagDigestsCard : Claim7 := { stood := { row := dagDigestsRow, standIns := [], harness := (true, "062f2e7bcd23658a2df93372f0f279ed3831c0b1f54c10c26da5cf9c29cad619"), looks := false }, kinds := [], alts := [], laidByText := true, laidKinds := [.widerDeep, .data, .data], laidTests := true, laidLooks := .later }
def DagDigestsCardSaid : Prop := Claim7.holds Tryd.pinned (.plain (OpenSpec.ofChange dagDigestsSpec)) dagDigestsCard

/-- THE TIED CARD OF 'sheaveslaw.OrderHistories'. -/
def orderHistoriesCard : Claim7 := { stood := { row := orderHistoriesRow, standIns := [], harness := (true, "062f2e7bcd23658a2df93372f0f279ed3831c0b1f54c10c26da5cf9c29cad619"), looks := false }, kinds := [], alts := [], laidByText := true, laidKinds := [.widerDeep, .data, .data], laidTests := true, laidLooks := .later }
def OrderHistoriesCardSaid : Prop := Claim7.holds Tryd.pinned (.plain (OpenSpec.ofChange orderHistoriesSpec)) orderHistoriesCard

/-- THE SECOND FORM's CARD OF 'sheaveslaw.WireBatchDigests'. -/
def wireBatchDigestsUptoCard : Claim7 := { stood := { row := wireBatchDigestsUptoRow, standIns := [], harness := (true, "062f2e7bcd23658a2df93372f0f279ed3831c0b1f54c10c26da5cf9c29cad619"), looks := false }, kinds := [], alts := [], laidByText := true, laidKinds := [.widerDeep, .data, .data], laidTests := true, laidLooks := .later }
def WireBatchDigestsUptoCardSaid : Prop := Claim7.holds Tryd.pinned (.plain (OpenSpec.upto wireBatchDigestsSpec)) wireBatchDigestsUptoCard

/-- THE SECOND FORM's CARD OF 'sheaveslaw.OrderBatches'. -/
def orderBatchesUptoCard : Claim7 := { stood := { row := orderBatchesUptoRow, standIns := [], harness := (true, "062f2e7bcd23658a2df93372f0f279ed3831c0b1f54c10c26da5cf9c29cad619"), looks := false }, kinds := [], alts := [], laidByText := true, laidKinds := [.widerDeep, .data, .data], laidTests := true, laidLooks := .later }
def OrderBatchesUptoCardSaid : Prop := Claim7.holds Tryd.pinned (.plain (OpenSpec.upto orderBatchesSpec)) orderBatchesUptoCard

/-- THE SECOND FORM's CARD OF 'sheaveslaw.WireHeaderDigests'. -/
def wireHeaderDigestsUptoCard : Claim7 := { stood := { row := wireHeaderDigestsUptoRow, standIns := [], harness := (true, "062f2e7bcd23658a2df93372f0f279ed3831c0b1f54c10c26da5cf9c29cad619"), looks := false }, kinds := [], alts := [], laidByText := true, laidKinds := [.widerDeep, .data, .data], laidTests := true, laidLooks := .later }
def WireHeaderDigestsUptoCardSaid : Prop := Claim7.holds Tryd.pinned (.plain (OpenSpec.upto wireHeaderDigestsSpec)) wireHeaderDigestsUptoCard

/-- THE SECOND FORM's CARD OF 'sheaveslaw.BallotCasts'. -/
def ballotCastsUptoCard : Claim7 := { stood := { row := ballotCastsUptoRow, standIns := [], harness := (true, "062f2e7bcd23658a2df93372f0f279ed3831c0b1f54c10c26da5cf9c29cad619"), looks := false }, kinds := [], alts := [], laidByText := true, laidKinds := [.widerDeep, .data, .data], laidTests := true, laidLooks := .later }
def BallotCastsUptoCardSaid : Prop := Claim7.holds Tryd.pinned (.plain (OpenSpec.upto ballotCastsSpec)) ballotCastsUptoCard

/-- THE SECOND FORM's CARD OF 'sheaveslaw.DagChecks'. -/
def dagChecksUptoCard : Claim7 := { stood := { row := dagChecksUptoRow, standIns := [], harness := (true, "062f2e7bcd23658a2df93372f0f279ed3831c0b1f54c10c26da5cf9c29cad619"), looks := false }, kinds := [], alts := [], laidByText := true, laidKinds := [.widerDeep, .data, .data], laidTests := true, laidLooks := .later }
def DagChecksUptoCardSaid : Prop := Claim7.holds Tryd.pinned (.plain (OpenSpec.upto dagChecksSpec)) dagChecksUptoCard

/-- THE SECOND FORM's CARD OF 'sheaveslaw.SealProven'. -/
def sealProvenUptoCard : Claim7 := { stood := { row := sealProvenUptoRow, standIns := [], harness := (true, "062f2e7bcd23658a2df93372f0f279ed3831c0b1f54c10c26da5cf9c29cad619"), looks := false }, kinds := [], alts := [], laidByText := true, laidKinds := [.widerDeep, .data, .data], laidTests := true, laidLooks := .later }
def SealProvenUptoCardSaid : Prop := Claim7.holds Tryd.pinned (.plain (OpenSpec.upto sealProvenSpec)) sealProvenUptoCard

/-- THE SECOND FORM's CARD OF 'sheaveslaw.DagMissing'. -/
def dagMissingUptoCard : Claim7 := { stood := { row := dagMissingUptoRow, standIns := [], harness := (true, "062f2e7bcd23658a2df93372f0f279ed3831c0b1f54c10c26da5cf9c29cad619"), looks := false }, kinds := [], alts := [], laidByText := true, laidKinds := [.widerDeep, .data, .data], laidTests := true, laidLooks := .later }
def DagMissingUptoCardSaid : Prop := Claim7.holds Tryd.pinned (.plain (OpenSpec.upto dagMissingSpec)) dagMissingUptoCard

/-- THE SECOND FORM's CARD OF 'sheaveslaw.DagFinds'. -/
def dagFindsUptoCard : Claim7 := { stood := { row := dagFindsUptoRow, standIns := [], harness := (true, "062f2e7bcd23658a2df93372f0f279ed3831c0b1f54c10c26da5cf9c29cad619"), looks := false }, kinds := [], alts := [], laidByText := true, laidKinds := [.widerDeep, .data, .data], laidTests := true, laidLooks := .later }
def DagFindsUptoCardSaid : Prop := Claim7.holds Tryd.pinned (.plain (OpenSpec.upto dagFindsSpec)) dagFindsUptoCard

/-- THE SECOND FORM's CARD OF 'sheaveslaw.DagInserts'. -/
def dagInsertsUptoCard : Claim7 := { stood := { row := dagInsertsUptoRow, standIns := [], harness := (true, "062f2e7bcd23658a2df93372f0f279ed3831c0b1f54c10c26da5cf9c29cad619"), looks := false }, kinds := [], alts := [], laidByText := true, laidKinds := [.widerDeep, .data, .data], laidTests := true, laidLooks := .later }
def DagInsertsUptoCardSaid : Prop := Claim7.holds Tryd.pinned (.plain (OpenSpec.upto dagInsertsSpec)) dagInsertsUptoCard

/-- THE SECOND FORM's CARD OF 'sheaveslaw.DagRounds'. -/
def dagRoundsUptoCard : Claim7 := { stood := { row := dagRoundsUptoRow, standIns := [], harness := (true, "062f2e7bcd23658a2df93372f0f279ed3831c0b1f54c10c26da5cf9c29cad619"), looks := false }, kinds := [], alts := [], laidByText := true, laidKinds := [.widerDeep, .data, .data], laidTests := true, laidLooks := .later }
def DagRoundsUptoCardSaid : Prop := Claim7.holds Tryd.pinned (.plain (OpenSpec.upto dagRoundsSpec)) dagRoundsUptoCard

/-- THE SECOND FORM's CARD OF 'sheaveslaw.DagDigests'. -/
def dagDigestsUptoCard : Claim7 := { stood := { row := dagDigestsUptoRow, standIns := [], harness := (true, "062f2e7bcd23658a2df93372f0f279ed3831c0b1f54c10c26da5cf9c29cad619"), looks := false }, kinds := [], alts := [], laidByText := true, laidKinds := [.widerDeep, .data, .data], laidTests := true, laidLooks := .later }
def DagDigestsUptoCardSaid : Prop := Claim7.holds Tryd.pinned (.plain (OpenSpec.upto dagDigestsSpec)) dagDigestsUptoCard

/-- THE SECOND FORM's CARD OF 'sheaveslaw.OrderHistories'. -/
def orderHistoriesUptoCard : Claim7 := { stood := { row := orderHistoriesUptoRow, standIns := [], harness := (true, "062f2e7bcd23658a2df93372f0f279ed3831c0b1f54c10c26da5cf9c29cad619"), looks := false }, kinds := [], alts := [], laidByText := true, laidKinds := [.widerDeep, .data, .data], laidTests := true, laidLooks := .later }
def OrderHistoriesUptoCardSaid : Prop := Claim7.holds Tryd.pinned (.plain (OpenSpec.upto orderHistoriesSpec)) orderHistoriesUptoCard
end Rows
end Go.Proofs.YtedealljhmokoaaDoor
