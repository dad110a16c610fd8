/-
  NARROWER THAN 'FOR EVERY INPUT', by the rows' own cells (each row's printed sentence says how): WireBatchDigests: laid · OrderBatches: laid · WireHeaderDigests: laid · BallotCasts: laid · DagChecks: laid · SealProven: laid · DagMissing: laid · DagFinds: laid · DagInserts: laid · DagRounds: laid · DagDigests: laid · OrderHistories: laid.
  DERIVED. THE GIVEN ROWS OF THIS SEAT. 12 by the template 'for every input the law returns true; each argument reads behind the call as it read before'; 0 by the template 'total and deterministic' (their statements: YtedealljhmokoaaDoorTotals.lean).
  GIVEN WITH THE SEED: the statements are not yours to turn. If you find one false, say at which input.
  Laid BY PROGRAM, IN A SANDBOX (cutbox-rows.mjs): the forced cells as the released guide's own fill.sh prints them over the translation 745736815c4ffa53… (all of the seat's roots in one cut). By AI agents, Wed Nov 11 2026. No macro, syntax, notation, axiom, sorry.
-/
import Derived.Test.YtedealljhmokoaaDoorChecked
import GoSem.Claim
import GoSem.ClaimJoined
import GoSem.ClaimMapViews
import Derived.JoinedTies
import Derived.KernelRfl
namespace Go.Proofs.YtedealljhmokoaaDoor
/- THE CELL 'sum', in the pinned program and in every row, IS THE sha256 OF THE DUMP (.gsa) THAT YtedealljhmokoaaDoorProg.lean LOADS. Nothing in Lean hashes anything: it is a label: what it is worth is what the hold of that sum in a sandbox is worth. -/
noncomputable def Tryd.pinned : Pinned := { name := "ytedealljhmokoaadoor", sum := "745736815c4ffa530157a7cb47751d7058a83940a385d69d94ca0fc7799b9f14", checked := Tryd.checked }
namespace Rows
def none {H : Type} : Left H := { results := [], args := [] }

/- WHAT THE LISTED PACKAGE-LEVEL VARIABLES READ AS WHEN THE CALL BEGINS. Each datum BY PROGRAM (the guide's laid-datum.mjs) off the statement by which the dump's own 'gosem.cut.vars' lays the variable. In a bare row this is a premise. The card (YtedealljhmokoaaDoorCards.lean) ties it to the program's text. -/
def laid_sheaves_blake_first {H : Type} : DataW H := .agg [.lit (.int .u32 1779033703), .lit (.int .u32 3144134277), .lit (.int .u32 1013904242), .lit (.int .u32 2773480762), .lit (.int .u32 1359893119), .lit (.int .u32 2600822924), .lit (.int .u32 528734635), .lit (.int .u32 1541459225)]
def laid_sheaves_blake_order {H : Type} : DataW H := .agg [.agg [.lit (.int .i64 0), .lit (.int .i64 1), .lit (.int .i64 2), .lit (.int .i64 3), .lit (.int .i64 4), .lit (.int .i64 5), .lit (.int .i64 6), .lit (.int .i64 7), .lit (.int .i64 8), .lit (.int .i64 9), .lit (.int .i64 10), .lit (.int .i64 11), .lit (.int .i64 12), .lit (.int .i64 13), .lit (.int .i64 14), .lit (.int .i64 15)], .agg [.lit (.int .i64 14), .lit (.int .i64 10), .lit (.int .i64 4), .lit (.int .i64 8), .lit (.int .i64 9), .lit (.int .i64 15), .lit (.int .i64 13), .lit (.int .i64 6), .lit (.int .i64 1), .lit (.int .i64 12), .lit (.int .i64 0), .lit (.int .i64 2), .lit (.int .i64 11), .lit (.int .i64 7), .lit (.int .i64 5), .lit (.int .i64 3)], .agg [.lit (.int .i64 11), .lit (.int .i64 8), .lit (.int .i64 12), .lit (.int .i64 0), .lit (.int .i64 5), .lit (.int .i64 2), .lit (.int .i64 15), .lit (.int .i64 13), .lit (.int .i64 10), .lit (.int .i64 14), .lit (.int .i64 3), .lit (.int .i64 6), .lit (.int .i64 7), .lit (.int .i64 1), .lit (.int .i64 9), .lit (.int .i64 4)], .agg [.lit (.int .i64 7), .lit (.int .i64 9), .lit (.int .i64 3), .lit (.int .i64 1), .lit (.int .i64 13), .lit (.int .i64 12), .lit (.int .i64 11), .lit (.int .i64 14), .lit (.int .i64 2), .lit (.int .i64 6), .lit (.int .i64 5), .lit (.int .i64 10), .lit (.int .i64 4), .lit (.int .i64 0), .lit (.int .i64 15), .lit (.int .i64 8)], .agg [.lit (.int .i64 9), .lit (.int .i64 0), .lit (.int .i64 5), .lit (.int .i64 7), .lit (.int .i64 2), .lit (.int .i64 4), .lit (.int .i64 10), .lit (.int .i64 15), .lit (.int .i64 14), .lit (.int .i64 1), .lit (.int .i64 11), .lit (.int .i64 12), .lit (.int .i64 6), .lit (.int .i64 8), .lit (.int .i64 3), .lit (.int .i64 13)], .agg [.lit (.int .i64 2), .lit (.int .i64 12), .lit (.int .i64 6), .lit (.int .i64 10), .lit (.int .i64 0), .lit (.int .i64 11), .lit (.int .i64 8), .lit (.int .i64 3), .lit (.int .i64 4), .lit (.int .i64 13), .lit (.int .i64 7), .lit (.int .i64 5), .lit (.int .i64 15), .lit (.int .i64 14), .lit (.int .i64 1), .lit (.int .i64 9)], .agg [.lit (.int .i64 12), .lit (.int .i64 5), .lit (.int .i64 1), .lit (.int .i64 15), .lit (.int .i64 14), .lit (.int .i64 13), .lit (.int .i64 4), .lit (.int .i64 10), .lit (.int .i64 0), .lit (.int .i64 7), .lit (.int .i64 6), .lit (.int .i64 3), .lit (.int .i64 9), .lit (.int .i64 2), .lit (.int .i64 8), .lit (.int .i64 11)], .agg [.lit (.int .i64 13), .lit (.int .i64 11), .lit (.int .i64 7), .lit (.int .i64 14), .lit (.int .i64 12), .lit (.int .i64 1), .lit (.int .i64 3), .lit (.int .i64 9), .lit (.int .i64 5), .lit (.int .i64 0), .lit (.int .i64 15), .lit (.int .i64 4), .lit (.int .i64 8), .lit (.int .i64 6), .lit (.int .i64 2), .lit (.int .i64 10)], .agg [.lit (.int .i64 6), .lit (.int .i64 15), .lit (.int .i64 14), .lit (.int .i64 9), .lit (.int .i64 11), .lit (.int .i64 3), .lit (.int .i64 0), .lit (.int .i64 8), .lit (.int .i64 12), .lit (.int .i64 2), .lit (.int .i64 13), .lit (.int .i64 7), .lit (.int .i64 1), .lit (.int .i64 4), .lit (.int .i64 10), .lit (.int .i64 5)], .agg [.lit (.int .i64 10), .lit (.int .i64 2), .lit (.int .i64 8), .lit (.int .i64 4), .lit (.int .i64 7), .lit (.int .i64 6), .lit (.int .i64 1), .lit (.int .i64 5), .lit (.int .i64 15), .lit (.int .i64 11), .lit (.int .i64 9), .lit (.int .i64 14), .lit (.int .i64 3), .lit (.int .i64 12), .lit (.int .i64 13), .lit (.int .i64 0)]]
def laid_sheaves_blake_lanes {H : Type} : DataW H := .agg [.agg [.lit (.int .i64 0), .lit (.int .i64 4), .lit (.int .i64 8), .lit (.int .i64 12)], .agg [.lit (.int .i64 1), .lit (.int .i64 5), .lit (.int .i64 9), .lit (.int .i64 13)], .agg [.lit (.int .i64 2), .lit (.int .i64 6), .lit (.int .i64 10), .lit (.int .i64 14)], .agg [.lit (.int .i64 3), .lit (.int .i64 7), .lit (.int .i64 11), .lit (.int .i64 15)], .agg [.lit (.int .i64 0), .lit (.int .i64 5), .lit (.int .i64 10), .lit (.int .i64 15)], .agg [.lit (.int .i64 1), .lit (.int .i64 6), .lit (.int .i64 11), .lit (.int .i64 12)], .agg [.lit (.int .i64 2), .lit (.int .i64 7), .lit (.int .i64 8), .lit (.int .i64 13)], .agg [.lit (.int .i64 3), .lit (.int .i64 4), .lit (.int .i64 9), .lit (.int .i64 14)]]

/-- 'sheaveslaw.WireBatchDigests': WHATEVER THE INPUT: true; the input reads as it did. -/
def wireBatchDigestsSpec : ChangeSpec := { name := "wireBatchDigests", fn := fun _ => fun
  | [d] => { results := [.lit (.bool true)], args := [d] }
  | _ => none }
def wireBatchDigestsRow : OpenClaim := { program := "ytedealljhmokoaadoor", sum := "745736815c4ffa530157a7cb47751d7058a83940a385d69d94ca0fc7799b9f14", func := "sheaves/sheaveslaw.WireBatchDigests", spec := "wireBatchDigests", named := ["sheaves/blake.first", "sheaves/blake.order", "sheaves/blake.lanes"], apart := false, laid := [("sheaves/blake.first", laid_sheaves_blake_first), ("sheaves/blake.order", laid_sheaves_blake_order), ("sheaves/blake.lanes", laid_sheaves_blake_lanes)] }
def WireBatchDigestsSaid : Prop := wireBatchDigestsRow.holds Tryd.pinned (OpenSpec.ofChange wireBatchDigestsSpec)

/-- ITS FALSE NEIGHBOUR: 'it returns false'. Refute it at one input. -/
def wireBatchDigestsWrong : ChangeSpec := { name := "wireBatchDigests", fn := fun _ => fun
  | [d] => { results := [.lit (.bool false)], args := [d] }
  | _ => none }
def WireBatchDigestsWrongFalsely : Prop := wireBatchDigestsRow.holds Tryd.pinned (OpenSpec.ofChange wireBatchDigestsWrong)

/-- 'sheaveslaw.OrderBatches': WHATEVER THE INPUT: true; the input reads as it did. -/
def orderBatchesSpec : ChangeSpec := { name := "orderBatches", fn := fun _ => fun
  | [d] => { results := [.lit (.bool true)], args := [d] }
  | _ => none }
def orderBatchesRow : OpenClaim := { program := "ytedealljhmokoaadoor", sum := "745736815c4ffa530157a7cb47751d7058a83940a385d69d94ca0fc7799b9f14", func := "sheaves/sheaveslaw.OrderBatches", spec := "orderBatches", named := ["sheaves/blake.first", "sheaves/blake.order", "sheaves/blake.lanes"], apart := false, laid := [("sheaves/blake.first", laid_sheaves_blake_first), ("sheaves/blake.order", laid_sheaves_blake_order), ("sheaves/blake.lanes", laid_sheaves_blake_lanes)] }
def OrderBatchesSaid : Prop := orderBatchesRow.holds Tryd.pinned (OpenSpec.ofChange orderBatchesSpec)

/-- ITS FALSE NEIGHBOUR: 'it returns false'. Refute it at one input. -/
def orderBatchesWrong : ChangeSpec := { name := "orderBatches", fn := fun _ => fun
  | [d] => { results := [.lit (.bool false)], args := [d] }
  | _ => none }
def OrderBatchesWrongFalsely : Prop := orderBatchesRow.holds Tryd.pinned (OpenSpec.ofChange orderBatchesWrong)

/-- 'sheaveslaw.WireHeaderDigests': WHATEVER THE INPUT: true; the input reads as it did. -/
def wireHeaderDigestsSpec : ChangeSpec := { name := "wireHeaderDigests", fn := fun _ => fun
  | [d] => { results := [.lit (.bool true)], args := [d] }
  | _ => none }
def wireHeaderDigestsRow : OpenClaim := { program := "ytedealljhmokoaadoor", sum := "745736815c4ffa530157a7cb47751d7058a83940a385d69d94ca0fc7799b9f14", func := "sheaves/sheaveslaw.WireHeaderDigests", spec := "wireHeaderDigests", unfollowed := true, recurses := true, named := ["sheaves/blake.first", "sheaves/blake.order", "sheaves/blake.lanes"], apart := false, laid := [("sheaves/blake.first", laid_sheaves_blake_first), ("sheaves/blake.order", laid_sheaves_blake_order), ("sheaves/blake.lanes", laid_sheaves_blake_lanes)] }
def WireHeaderDigestsSaid : Prop := wireHeaderDigestsRow.holds Tryd.pinned (OpenSpec.ofChange wireHeaderDigestsSpec)

/-- ITS FALSE NEIGHBOUR: 'it returns false'. Refute it at one input. -/
def wireHeaderDigestsWrong : ChangeSpec := { name := "wireHeaderDigests", fn := fun _ => fun
  | [d] => { results := [.lit (.bool false)], args := [d] }
  | _ => none }
def WireHeaderDigestsWrongFalsely : Prop := wireHeaderDigestsRow.holds Tryd.pinned (OpenSpec.ofChange wireHeaderDigestsWrong)

/-- 'sheaveslaw.BallotCasts': WHATEVER THE INPUT: true; the input reads as it did. -/
def ballotCastsSpec : ChangeSpec := { name := "ballotCasts", fn := fun _ => fun
  | [d1, d2] => { results := [.lit (.bool true)], args := [d1, d2] }
  | _ => none }
def ballotCastsRow : OpenClaim := { program := "ytedealljhmokoaadoor", sum := "745736815c4ffa530157a7cb47751d7058a83940a385d69d94ca0fc7799b9f14", func := "sheaves/sheaveslaw.BallotCasts", spec := "ballotCasts", unfollowed := true, recurses := true, named := ["sheaves/blake.first", "sheaves/blake.order", "sheaves/blake.lanes"], apart := false, laid := [("sheaves/blake.first", laid_sheaves_blake_first), ("sheaves/blake.order", laid_sheaves_blake_order), ("sheaves/blake.lanes", laid_sheaves_blake_lanes)] }
def BallotCastsSaid : Prop := ballotCastsRow.holds Tryd.pinned (OpenSpec.ofChange ballotCastsSpec)

/-- ITS FALSE NEIGHBOUR: 'it returns false'. Refute it at one input. -/
def ballotCastsWrong : ChangeSpec := { name := "ballotCasts", fn := fun _ => fun
  | [d1, d2] => { results := [.lit (.bool false)], args := [d1, d2] }
  | _ => none }
def BallotCastsWrongFalsely : Prop := ballotCastsRow.holds Tryd.pinned (OpenSpec.ofChange ballotCastsWrong)

/-- 'sheaveslaw.DagChecks': WHATEVER THE INPUT: true; the input reads as it did. -/
def dagChecksSpec : ChangeSpec := { name := "dagChecks", fn := fun _ => fun
  | [d] => { results := [.lit (.bool true)], args := [d] }
  | _ => none }
def dagChecksRow : OpenClaim := { program := "ytedealljhmokoaadoor", sum := "745736815c4ffa530157a7cb47751d7058a83940a385d69d94ca0fc7799b9f14", func := "sheaves/sheaveslaw.DagChecks", spec := "dagChecks", unfollowed := true, recurses := true, named := ["sheaves/blake.first", "sheaves/blake.order", "sheaves/blake.lanes"], apart := false, laid := [("sheaves/blake.first", laid_sheaves_blake_first), ("sheaves/blake.order", laid_sheaves_blake_order), ("sheaves/blake.lanes", laid_sheaves_blake_lanes)] }
def DagChecksSaid : Prop := dagChecksRow.holds Tryd.pinned (OpenSpec.ofChange dagChecksSpec)

/-- ITS FALSE NEIGHBOUR: 'it returns false'. Refute it at one input. -/
def dagChecksWrong : ChangeSpec := { name := "dagChecks", fn := fun _ => fun
  | [d] => { results := [.lit (.bool false)], args := [d] }
  | _ => none }
def DagChecksWrongFalsely : Prop := dagChecksRow.holds Tryd.pinned (OpenSpec.ofChange dagChecksWrong)

/-- 'sheaveslaw.SealProven': WHATEVER THE INPUT: true; the input reads as it did. -/
def sealProvenSpec : ChangeSpec := { name := "sealProven", fn := fun _ => fun
  | [d1, d2, d3] => { results := [.lit (.bool true)], args := [d1, d2, d3] }
  | _ => none }
def sealProvenRow : OpenClaim := { program := "ytedealljhmokoaadoor", sum := "745736815c4ffa530157a7cb47751d7058a83940a385d69d94ca0fc7799b9f14", func := "sheaves/sheaveslaw.SealProven", spec := "sealProven", unfollowed := true, recurses := true, named := ["sheaves/blake.first", "sheaves/blake.order", "sheaves/blake.lanes"], apart := false, laid := [("sheaves/blake.first", laid_sheaves_blake_first), ("sheaves/blake.order", laid_sheaves_blake_order), ("sheaves/blake.lanes", laid_sheaves_blake_lanes)] }
def SealProvenSaid : Prop := sealProvenRow.holds Tryd.pinned (OpenSpec.ofChange sealProvenSpec)

/-- ITS FALSE NEIGHBOUR: 'it returns false'. Refute it at one input. -/
def sealProvenWrong : ChangeSpec := { name := "sealProven", fn := fun _ => fun
  | [d1, d2, d3] => { results := [.lit (.bool false)], args := [d1, d2, d3] }
  | _ => none }
def SealProvenWrongFalsely : Prop := sealProvenRow.holds Tryd.pinned (OpenSpec.ofChange sealProvenWrong)

/-- 'sheaveslaw.DagMissing': WHATEVER THE INPUT: true; the input reads as it did. -/
def dagMissingSpec : ChangeSpec := { name := "dagMissing", fn := fun _ => fun
  | [d1, d2] => { results := [.lit (.bool true)], args := [d1, d2] }
  | _ => none }
def dagMissingRow : OpenClaim := { program := "ytedealljhmokoaadoor", sum := "745736815c4ffa530157a7cb47751d7058a83940a385d69d94ca0fc7799b9f14", func := "sheaves/sheaveslaw.DagMissing", spec := "dagMissing", unfollowed := true, recurses := true, named := ["sheaves/blake.first", "sheaves/blake.order", "sheaves/blake.lanes"], apart := false, laid := [("sheaves/blake.first", laid_sheaves_blake_first), ("sheaves/blake.order", laid_sheaves_blake_order), ("sheaves/blake.lanes", laid_sheaves_blake_lanes)] }
def DagMissingSaid : Prop := dagMissingRow.holds Tryd.pinned (OpenSpec.ofChange dagMissingSpec)

/-- ITS FALSE NEIGHBOUR: 'it returns false'. Refute it at one input. -/
def dagMissingWrong : ChangeSpec := { name := "dagMissing", fn := fun _ => fun
  | [d1, d2] => { results := [.lit (.bool false)], args := [d1, d2] }
  | _ => none }
def DagMissingWrongFalsely : Prop := dagMissingRow.holds Tryd.pinned (OpenSpec.ofChange dagMissingWrong)

/-- 'sheaveslaw.DagFinds': WHATEVER THE INPUT: true; the input reads as it did. -/
def dagFindsSpec : ChangeSpec := { name := "dagFinds", fn := fun _ => fun
  | [d1, d2] => { results := [.lit (.bool true)], args := [d1, d2] }
  | _ => none }
def dagFindsRow : OpenClaim := { program := "ytedealljhmokoaadoor", sum := "745736815c4ffa530157a7cb47751d7058a83940a385d69d94ca0fc7799b9f14", func := "sheaves/sheaveslaw.DagFinds", spec := "dagFinds", unfollowed := true, recurses := true, named := ["sheaves/blake.first", "sheaves/blake.order", "sheaves/blake.lanes"], apart := false, laid := [("sheaves/blake.first", laid_sheaves_blake_first), ("sheaves/blake.order", laid_sheaves_blake_order), ("sheaves/blake.lanes", laid_sheaves_blake_lanes)] }
def DagFindsSaid : Prop := dagFindsRow.holds Tryd.pinned (OpenSpec.ofChange dagFindsSpec)

/-- ITS FALSE NEIGHBOUR: 'it returns false'. Refute it at one input. -/
def dagFindsWrong : ChangeSpec := { name := "dagFinds", fn := fun _ => fun
  | [d1, d2] => { results := [.lit (.bool false)], args := [d1, d2] }
  | _ => none }
def DagFindsWrongFalsely : Prop := dagFindsRow.holds Tryd.pinned (OpenSpec.ofChange dagFindsWrong)

/-- 'sheaveslaw.DagInserts': WHATEVER THE INPUT: true; the input reads as it did. -/
def dagInsertsSpec : ChangeSpec := { name := "dagInserts", fn := fun _ => fun
  | [d1, d2] => { results := [.lit (.bool true)], args := [d1, d2] }
  | _ => none }
def dagInsertsRow : OpenClaim := { program := "ytedealljhmokoaadoor", sum := "745736815c4ffa530157a7cb47751d7058a83940a385d69d94ca0fc7799b9f14", func := "sheaves/sheaveslaw.DagInserts", spec := "dagInserts", unfollowed := true, recurses := true, named := ["sheaves/blake.first", "sheaves/blake.order", "sheaves/blake.lanes"], apart := false, laid := [("sheaves/blake.first", laid_sheaves_blake_first), ("sheaves/blake.order", laid_sheaves_blake_order), ("sheaves/blake.lanes", laid_sheaves_blake_lanes)] }
def DagInsertsSaid : Prop := dagInsertsRow.holds Tryd.pinned (OpenSpec.ofChange dagInsertsSpec)

/-- ITS FALSE NEIGHBOUR: 'it returns false'. Refute it at one input. -/
def dagInsertsWrong : ChangeSpec := { name := "dagInserts", fn := fun _ => fun
  | [d1, d2] => { results := [.lit (.bool false)], args := [d1, d2] }
  | _ => none }
def DagInsertsWrongFalsely : Prop := dagInsertsRow.holds Tryd.pinned (OpenSpec.ofChange dagInsertsWrong)

/-- 'sheaveslaw.DagRounds': WHATEVER THE INPUT: true; the input reads as it did. -/
def dagRoundsSpec : ChangeSpec := { name := "dagRounds", fn := fun _ => fun
  | [d] => { results := [.lit (.bool true)], args := [d] }
  | _ => none }
def dagRoundsRow : OpenClaim := { program := "ytedealljhmokoaadoor", sum := "745736815c4ffa530157a7cb47751d7058a83940a385d69d94ca0fc7799b9f14", func := "sheaves/sheaveslaw.DagRounds", spec := "dagRounds", unfollowed := true, recurses := true, named := ["sheaves/blake.first", "sheaves/blake.order", "sheaves/blake.lanes"], apart := false, laid := [("sheaves/blake.first", laid_sheaves_blake_first), ("sheaves/blake.order", laid_sheaves_blake_order), ("sheaves/blake.lanes", laid_sheaves_blake_lanes)] }
def DagRoundsSaid : Prop := dagRoundsRow.holds Tryd.pinned (OpenSpec.ofChange dagRoundsSpec)

/-- ITS FALSE NEIGHBOUR: 'it returns false'. Refute it at one input. -/
def dagRoundsWrong : ChangeSpec := { name := "dagRounds", fn := fun _ => fun
  | [d] => { results := [.lit (.bool false)], args := [d] }
  | _ => none }
def DagRoundsWrongFalsely : Prop := dagRoundsRow.holds Tryd.pinned (OpenSpec.ofChange dagRoundsWrong)

/-- 'sheaveslaw.DagDigests': WHATEVER THE INPUT: true; the input reads as it did. -/
def dagDigestsSpec : ChangeSpec := { name := "dagDigests", fn := fun _ => fun
  | [d1, d2] => { results := [.lit (.bool true)], args := [d1, d2] }
  | _ => none }
def dagDigestsRow : OpenClaim := { program := "ytedealljhmokoaadoor", sum := "745736815c4ffa530157a7cb47751d7058a83940a385d69d94ca0fc7799b9f14", func := "sheaves/sheaveslaw.DagDigests", spec := "dagDigests", unfollowed := true, recurses := true, named := ["sheaves/blake.first", "sheaves/blake.order", "sheaves/blake.lanes"], apart := false, laid := [("sheaves/blake.first", laid_sheaves_blake_first), ("sheaves/blake.order", laid_sheaves_blake_order), ("sheaves/blake.lanes", laid_sheaves_blake_lanes)] }
def DagDigestsSaid : Prop := dagDigestsRow.holds Tryd.pinned (OpenSpec.ofChange dagDigestsSpec)

/-- ITS FALSE NEIGHBOUR: 'it returns false'. Refute it at one input. -/
def dagDigestsWrong : ChangeSpec := { name := "dagDigests", fn := fun _ => fun
  | [d1, d2] => { results := [.lit (.bool false)], args := [d1, d2] }
  | _ => none }
def DagDigestsWrongFalsely : Prop := dagDigestsRow.holds Tryd.pinned (OpenSpec.ofChange dagDigestsWrong)

/-- 'sheaveslaw.OrderHistories': WHATEVER THE INPUT: true; the input reads as it did. -/
def orderHistoriesSpec : ChangeSpec := { name := "orderHistories", fn := fun _ => fun
  | [d1, d2] => { results := [.lit (.bool true)], args := [d1, d2] }
  | _ => none }
def orderHistoriesRow : OpenClaim := { program := "ytedealljhmokoaadoor", sum := "745736815c4ffa530157a7cb47751d7058a83940a385d69d94ca0fc7799b9f14", func := "sheaves/sheaveslaw.OrderHistories", spec := "orderHistories", unfollowed := true, recurses := true, named := ["sheaves/blake.first", "sheaves/blake.order", "sheaves/blake.lanes"], apart := false, laid := [("sheaves/blake.first", laid_sheaves_blake_first), ("sheaves/blake.order", laid_sheaves_blake_order), ("sheaves/blake.lanes", laid_sheaves_blake_lanes)] }
def OrderHistoriesSaid : Prop := orderHistoriesRow.holds Tryd.pinned (OpenSpec.ofChange orderHistoriesSpec)

/-- ITS FALSE NEIGHBOUR: 'it returns false'. Refute it at one input. -/
def orderHistoriesWrong : ChangeSpec := { name := "orderHistories", fn := fun _ => fun
  | [d1, d2] => { results := [.lit (.bool false)], args := [d1, d2] }
  | _ => none }
def OrderHistoriesWrongFalsely : Prop := orderHistoriesRow.holds Tryd.pinned (OpenSpec.ofChange orderHistoriesWrong)

/- THE SECOND FORM. 'bulk': how many values and letters a reading holds, each counted each time it is reached (what is shared counts as often as it is met; a slice's spare places count too). A statement '..UptoSaid' is the law's where the arguments, and the package variables that the reading takes, are together of bulk at most 1048576: NARROWER than '..Said'. Prove '..Said' where nothing that the law and all that it calls make is longer than what came in: it says more and counts as full. Else prove '..UptoSaid'. A law counts once. -/
mutual
def uptoBulk {H : Type} : DataW H → Nat
  | .lit (.string bytes) => bytes.length + 1
  | .lit _ => 1
  | .nil => 1
  | .ptr d => uptoBulk d + 1
  | .slice elems spare => uptoBulkAll elems + uptoBulkAll spare + 1
  | .agg parts => uptoBulkAll parts + 1
  | .iface _ d => uptoBulk d + 1
  | .map entries => uptoBulkEntries entries + 1
  | .held _ => 1
def uptoBulkAll {H : Type} : List (DataW H) → Nat
  | [] => 0
  | d :: r => uptoBulk d + uptoBulkAll r
def uptoBulkEntries {H : Type} : List (Lit × DataW H) → Nat
  | [] => 0
  | x :: r => uptoBulkEntry x + uptoBulkEntries r
def uptoBulkEntry {H : Type} : Lit × DataW H → Nat
  | (.string bytes, d) => bytes.length + uptoBulk d + 1
  | (_, d) => uptoBulk d + 1
 end
def uptoSmall : (H : Type) → List (DataW H) → Bool := fun _ ds => decide (uptoBulkAll ds ≤ 1048576)
def OpenSpec.upto (s : _root_.Go.ChangeSpec) : _root_.Go.OpenSpec := { _root_.Go.OpenSpec.ofChange s with cond := some uptoSmall }

/-- 'sheaveslaw.WireBatchDigests', WHERE WHAT IT READS IS OF BULK AT MOST 1048576: true; the input reads as it did. -/
def wireBatchDigestsUptoRow : OpenClaim := { program := "ytedealljhmokoaadoor", sum := "745736815c4ffa530157a7cb47751d7058a83940a385d69d94ca0fc7799b9f14", func := "sheaves/sheaveslaw.WireBatchDigests", spec := "wireBatchDigests", named := ["sheaves/blake.first", "sheaves/blake.order", "sheaves/blake.lanes"], apart := false, laid := [("sheaves/blake.first", laid_sheaves_blake_first), ("sheaves/blake.order", laid_sheaves_blake_order), ("sheaves/blake.lanes", laid_sheaves_blake_lanes)], narrowed := true }
def WireBatchDigestsUptoSaid : Prop := wireBatchDigestsUptoRow.holds Tryd.pinned (OpenSpec.upto wireBatchDigestsSpec)

/-- 'sheaveslaw.OrderBatches', WHERE WHAT IT READS IS OF BULK AT MOST 1048576: true; the input reads as it did. -/
def orderBatchesUptoRow : OpenClaim := { program := "ytedealljhmokoaadoor", sum := "745736815c4ffa530157a7cb47751d7058a83940a385d69d94ca0fc7799b9f14", func := "sheaves/sheaveslaw.OrderBatches", spec := "orderBatches", named := ["sheaves/blake.first", "sheaves/blake.order", "sheaves/blake.lanes"], apart := false, laid := [("sheaves/blake.first", laid_sheaves_blake_first), ("sheaves/blake.order", laid_sheaves_blake_order), ("sheaves/blake.lanes", laid_sheaves_blake_lanes)], narrowed := true }
def OrderBatchesUptoSaid : Prop := orderBatchesUptoRow.holds Tryd.pinned (OpenSpec.upto orderBatchesSpec)

/-- 'sheaveslaw.WireHeaderDigests', WHERE WHAT IT READS IS OF BULK AT MOST 1048576: true; the input reads as it did. -/
def wireHeaderDigestsUptoRow : OpenClaim := { program := "ytedealljhmokoaadoor", sum := "745736815c4ffa530157a7cb47751d7058a83940a385d69d94ca0fc7799b9f14", func := "sheaves/sheaveslaw.WireHeaderDigests", spec := "wireHeaderDigests", unfollowed := true, recurses := true, named := ["sheaves/blake.first", "sheaves/blake.order", "sheaves/blake.lanes"], apart := false, laid := [("sheaves/blake.first", laid_sheaves_blake_first), ("sheaves/blake.order", laid_sheaves_blake_order), ("sheaves/blake.lanes", laid_sheaves_blake_lanes)], narrowed := true }
def WireHeaderDigestsUptoSaid : Prop := wireHeaderDigestsUptoRow.holds Tryd.pinned (OpenSpec.upto wireHeaderDigestsSpec)

/-- 'sheaveslaw.BallotCasts', WHERE WHAT IT READS IS OF BULK AT MOST 1048576: true; the input reads as it did. -/
def ballotCastsUptoRow : OpenClaim := { program := "ytedealljhmokoaadoor", sum := "745736815c4ffa530157a7cb47751d7058a83940a385d69d94ca0fc7799b9f14", func := "sheaves/sheaveslaw.BallotCasts", spec := "ballotCasts", unfollowed := true, recurses := true, named := ["sheaves/blake.first", "sheaves/blake.order", "sheaves/blake.lanes"], apart := false, laid := [("sheaves/blake.first", laid_sheaves_blake_first), ("sheaves/blake.order", laid_sheaves_blake_order), ("sheaves/blake.lanes", laid_sheaves_blake_lanes)], narrowed := true }
def BallotCastsUptoSaid : Prop := ballotCastsUptoRow.holds Tryd.pinned (OpenSpec.upto ballotCastsSpec)

/-- 'sheaveslaw.DagChecks', WHERE WHAT IT READS IS OF BULK AT MOST 1048576: true; the input reads as it did. -/
def dagChecksUptoRow : OpenClaim := { program := "ytedealljhmokoaadoor", sum := "745736815c4ffa530157a7cb47751d7058a83940a385d69d94ca0fc7799b9f14", func := "sheaves/sheaveslaw.DagChecks", spec := "dagChecks", unfollowed := true, recurses := true, named := ["sheaves/blake.first", "sheaves/blake.order", "sheaves/blake.lanes"], apart := false, laid := [("sheaves/blake.first", laid_sheaves_blake_first), ("sheaves/blake.order", laid_sheaves_blake_order), ("sheaves/blake.lanes", laid_sheaves_blake_lanes)], narrowed := true }
def DagChecksUptoSaid : Prop := dagChecksUptoRow.holds Tryd.pinned (OpenSpec.upto dagChecksSpec)

/-- 'sheaveslaw.SealProven', WHERE WHAT IT READS IS OF BULK AT MOST 1048576: true; the input reads as it did. -/
def sealProvenUptoRow : OpenClaim := { program := "ytedealljhmokoaadoor", sum := "745736815c4ffa530157a7cb47751d7058a83940a385d69d94ca0fc7799b9f14", func := "sheaves/sheaveslaw.SealProven", spec := "sealProven", unfollowed := true, recurses := true, named := ["sheaves/blake.first", "sheaves/blake.order", "sheaves/blake.lanes"], apart := false, laid := [("sheaves/blake.first", laid_sheaves_blake_first), ("sheaves/blake.order", laid_sheaves_blake_order), ("sheaves/blake.lanes", laid_sheaves_blake_lanes)], narrowed := true }
def SealProvenUptoSaid : Prop := sealProvenUptoRow.holds Tryd.pinned (OpenSpec.upto sealProvenSpec)

/-- 'sheaveslaw.DagMissing', WHERE WHAT IT READS IS OF BULK AT MOST 1048576: true; the input reads as it did. -/
def dagMissingUptoRow : OpenClaim := { program := "ytedealljhmokoaadoor", sum := "745736815c4ffa530157a7cb47751d7058a83940a385d69d94ca0fc7799b9f14", func := "sheaves/sheaveslaw.DagMissing", spec := "dagMissing", unfollowed := true, recurses := true, named := ["sheaves/blake.first", "sheaves/blake.order", "sheaves/blake.lanes"], apart := false, laid := [("sheaves/blake.first", laid_sheaves_blake_first), ("sheaves/blake.order", laid_sheaves_blake_order), ("sheaves/blake.lanes", laid_sheaves_blake_lanes)], narrowed := true }
def DagMissingUptoSaid : Prop := dagMissingUptoRow.holds Tryd.pinned (OpenSpec.upto dagMissingSpec)

/-- 'sheaveslaw.DagFinds', WHERE WHAT IT READS IS OF BULK AT MOST 1048576: true; the input reads as it did. -/
def dagFindsUptoRow : OpenClaim := { program := "ytedealljhmokoaadoor", sum := "745736815c4ffa530157a7cb47751d7058a83940a385d69d94ca0fc7799b9f14", func := "sheaves/sheaveslaw.DagFinds", spec := "dagFinds", unfollowed := true, recurses := true, named := ["sheaves/blake.first", "sheaves/blake.order", "sheaves/blake.lanes"], apart := false, laid := [("sheaves/blake.first", laid_sheaves_blake_first), ("sheaves/blake.order", laid_sheaves_blake_order), ("sheaves/blake.lanes", laid_sheaves_blake_lanes)], narrowed := true }
def DagFindsUptoSaid : Prop := dagFindsUptoRow.holds Tryd.pinned (OpenSpec.upto dagFindsSpec)

/-- 'sheaveslaw.DagInserts', WHERE WHAT IT READS IS OF BULK AT MOST 1048576: true; the input reads as it did. -/
def dagInsertsUptoRow : OpenClaim := { program := "ytedealljhmokoaadoor", sum := "745736815c4ffa530157a7cb47751d7058a83940a385d69d94ca0fc7799b9f14", func := "sheaves/sheaveslaw.DagInserts", spec := "dagInserts", unfollowed := true, recurses := true, named := ["sheaves/blake.first", "sheaves/blake.order", "sheaves/blake.lanes"], apart := false, laid := [("sheaves/blake.first", laid_sheaves_blake_first), ("sheaves/blake.order", laid_sheaves_blake_order), ("sheaves/blake.lanes", laid_sheaves_blake_lanes)], narrowed := true }
def DagInsertsUptoSaid : Prop := dagInsertsUptoRow.holds Tryd.pinned (OpenSpec.upto dagInsertsSpec)

/-- 'sheaveslaw.DagRounds', WHERE WHAT IT READS IS OF BULK AT MOST 1048576: true; the input reads as it did. -/
def dagRoundsUptoRow : OpenClaim := { program := "ytedealljhmokoaadoor", sum := "745736815c4ffa530157a7cb47751d7058a83940a385d69d94ca0fc7799b9f14", func := "sheaves/sheaveslaw.DagRounds", spec := "dagRounds", unfollowed := true, recurses := true, named := ["sheaves/blake.first", "sheaves/blake.order", "sheaves/blake.lanes"], apart := false, laid := [("sheaves/blake.first", laid_sheaves_blake_first), ("sheaves/blake.order", laid_sheaves_blake_order), ("sheaves/blake.lanes", laid_sheaves_blake_lanes)], narrowed := true }
def DagRoundsUptoSaid : Prop := dagRoundsUptoRow.holds Tryd.pinned (OpenSpec.upto dagRoundsSpec)

/-- 'sheaveslaw.DagDigests', WHERE WHAT IT READS IS OF BULK AT MOST 1048576: true; the input reads as it did. -/
def dagDigestsUptoRow : OpenClaim := { program := "ytedealljhmokoaadoor", sum := "745736815c4ffa530157a7cb47751d7058a83940a385d69d94ca0fc7799b9f14", func := "sheaves/sheaveslaw.DagDigests", spec := "dagDigests", unfollowed := true, recurses := true, named := ["sheaves/blake.first", "sheaves/blake.order", "sheaves/blake.lanes"], apart := false, laid := [("sheaves/blake.first", laid_sheaves_blake_first), ("sheaves/blake.order", laid_sheaves_blake_order), ("sheaves/blake.lanes", laid_sheaves_blake_lanes)], narrowed := true }
def DagDigestsUptoSaid : Prop := dagDigestsUptoRow.holds Tryd.pinned (OpenSpec.upto dagDigestsSpec)

/-- 'sheaveslaw.OrderHistories', WHERE WHAT IT READS IS OF BULK AT MOST 1048576: true; the input reads as it did. -/
def orderHistoriesUptoRow : OpenClaim := { program := "ytedealljhmokoaadoor", sum := "745736815c4ffa530157a7cb47751d7058a83940a385d69d94ca0fc7799b9f14", func := "sheaves/sheaveslaw.OrderHistories", spec := "orderHistories", unfollowed := true, recurses := true, named := ["sheaves/blake.first", "sheaves/blake.order", "sheaves/blake.lanes"], apart := false, laid := [("sheaves/blake.first", laid_sheaves_blake_first), ("sheaves/blake.order", laid_sheaves_blake_order), ("sheaves/blake.lanes", laid_sheaves_blake_lanes)], narrowed := true }
def OrderHistoriesUptoSaid : Prop := orderHistoriesUptoRow.holds Tryd.pinned (OpenSpec.upto orderHistoriesSpec)

end Rows
end Go.Proofs.YtedealljhmokoaaDoor
