/-
  NARROWER THAN 'FOR EVERY INPUT', by the rows' own cells (each row's printed sentence says how): BlakeSums: laid · BlakeTags: laid · WireBatchDigests: laid · OrderBatches: laid · WireHeaderDigests: laid.
  DERIVED. THE GIVEN ROWS OF THIS SEAT. 5 by the template 'for every input the law returns true; each argument reads behind the call as it read before'; 0 by the template 'total and deterministic' (their statements: YtelfbgfggkhpjaaDoorTotals.lean).
  GIVEN WITH THE SEED: the statements are not yours to turn. If you find one false, say at which input.
  Laid BY PROGRAM, IN A SANDBOX (cutbox-rows.mjs): the forced cells as the released guide's own fill.sh prints them over the translation b8164dac55bd66ce… (all of the seat's roots in one cut). By AI agents, Wed Nov 11 2026. No macro, syntax, notation, axiom, sorry.
-/
import Derived.Test.YtelfbgfggkhpjaaDoorChecked
import GoSem.Claim
import GoSem.ClaimJoined
import GoSem.ClaimMapViews
import Derived.JoinedTies
import Derived.KernelRfl
namespace Go.Proofs.YtelfbgfggkhpjaaDoor
/- THE CELL 'sum', in the pinned program and in every row, IS THE sha256 OF THE DUMP (.gsa) THAT YtelfbgfggkhpjaaDoorProg.lean LOADS. Nothing in Lean hashes anything: it is a label: what it is worth is what the hold of that sum in a sandbox is worth. -/
noncomputable def Tryd.pinned : Pinned := { name := "ytelfbgfggkhpjaadoor", sum := "b8164dac55bd66ce448a47840ffb0b7443ddc711217eb9428e70d0d202e0b674", checked := Tryd.checked }
namespace Rows
def none {H : Type} : Left H := { results := [], args := [] }

/- WHAT THE LISTED PACKAGE-LEVEL VARIABLES READ AS WHEN THE CALL BEGINS. Each datum BY PROGRAM (the guide's laid-datum.mjs) off the statement by which the dump's own 'gosem.cut.vars' lays the variable. In a bare row this is a premise. The card (YtelfbgfggkhpjaaDoorCards.lean) ties it to the program's text. -/
def laid_sheaves_blake_first {H : Type} : DataW H := .agg [.lit (.int .u32 1779033703), .lit (.int .u32 3144134277), .lit (.int .u32 1013904242), .lit (.int .u32 2773480762), .lit (.int .u32 1359893119), .lit (.int .u32 2600822924), .lit (.int .u32 528734635), .lit (.int .u32 1541459225)]
def laid_sheaves_blake_order {H : Type} : DataW H := .agg [.agg [.lit (.int .i64 0), .lit (.int .i64 1), .lit (.int .i64 2), .lit (.int .i64 3), .lit (.int .i64 4), .lit (.int .i64 5), .lit (.int .i64 6), .lit (.int .i64 7), .lit (.int .i64 8), .lit (.int .i64 9), .lit (.int .i64 10), .lit (.int .i64 11), .lit (.int .i64 12), .lit (.int .i64 13), .lit (.int .i64 14), .lit (.int .i64 15)], .agg [.lit (.int .i64 14), .lit (.int .i64 10), .lit (.int .i64 4), .lit (.int .i64 8), .lit (.int .i64 9), .lit (.int .i64 15), .lit (.int .i64 13), .lit (.int .i64 6), .lit (.int .i64 1), .lit (.int .i64 12), .lit (.int .i64 0), .lit (.int .i64 2), .lit (.int .i64 11), .lit (.int .i64 7), .lit (.int .i64 5), .lit (.int .i64 3)], .agg [.lit (.int .i64 11), .lit (.int .i64 8), .lit (.int .i64 12), .lit (.int .i64 0), .lit (.int .i64 5), .lit (.int .i64 2), .lit (.int .i64 15), .lit (.int .i64 13), .lit (.int .i64 10), .lit (.int .i64 14), .lit (.int .i64 3), .lit (.int .i64 6), .lit (.int .i64 7), .lit (.int .i64 1), .lit (.int .i64 9), .lit (.int .i64 4)], .agg [.lit (.int .i64 7), .lit (.int .i64 9), .lit (.int .i64 3), .lit (.int .i64 1), .lit (.int .i64 13), .lit (.int .i64 12), .lit (.int .i64 11), .lit (.int .i64 14), .lit (.int .i64 2), .lit (.int .i64 6), .lit (.int .i64 5), .lit (.int .i64 10), .lit (.int .i64 4), .lit (.int .i64 0), .lit (.int .i64 15), .lit (.int .i64 8)], .agg [.lit (.int .i64 9), .lit (.int .i64 0), .lit (.int .i64 5), .lit (.int .i64 7), .lit (.int .i64 2), .lit (.int .i64 4), .lit (.int .i64 10), .lit (.int .i64 15), .lit (.int .i64 14), .lit (.int .i64 1), .lit (.int .i64 11), .lit (.int .i64 12), .lit (.int .i64 6), .lit (.int .i64 8), .lit (.int .i64 3), .lit (.int .i64 13)], .agg [.lit (.int .i64 2), .lit (.int .i64 12), .lit (.int .i64 6), .lit (.int .i64 10), .lit (.int .i64 0), .lit (.int .i64 11), .lit (.int .i64 8), .lit (.int .i64 3), .lit (.int .i64 4), .lit (.int .i64 13), .lit (.int .i64 7), .lit (.int .i64 5), .lit (.int .i64 15), .lit (.int .i64 14), .lit (.int .i64 1), .lit (.int .i64 9)], .agg [.lit (.int .i64 12), .lit (.int .i64 5), .lit (.int .i64 1), .lit (.int .i64 15), .lit (.int .i64 14), .lit (.int .i64 13), .lit (.int .i64 4), .lit (.int .i64 10), .lit (.int .i64 0), .lit (.int .i64 7), .lit (.int .i64 6), .lit (.int .i64 3), .lit (.int .i64 9), .lit (.int .i64 2), .lit (.int .i64 8), .lit (.int .i64 11)], .agg [.lit (.int .i64 13), .lit (.int .i64 11), .lit (.int .i64 7), .lit (.int .i64 14), .lit (.int .i64 12), .lit (.int .i64 1), .lit (.int .i64 3), .lit (.int .i64 9), .lit (.int .i64 5), .lit (.int .i64 0), .lit (.int .i64 15), .lit (.int .i64 4), .lit (.int .i64 8), .lit (.int .i64 6), .lit (.int .i64 2), .lit (.int .i64 10)], .agg [.lit (.int .i64 6), .lit (.int .i64 15), .lit (.int .i64 14), .lit (.int .i64 9), .lit (.int .i64 11), .lit (.int .i64 3), .lit (.int .i64 0), .lit (.int .i64 8), .lit (.int .i64 12), .lit (.int .i64 2), .lit (.int .i64 13), .lit (.int .i64 7), .lit (.int .i64 1), .lit (.int .i64 4), .lit (.int .i64 10), .lit (.int .i64 5)], .agg [.lit (.int .i64 10), .lit (.int .i64 2), .lit (.int .i64 8), .lit (.int .i64 4), .lit (.int .i64 7), .lit (.int .i64 6), .lit (.int .i64 1), .lit (.int .i64 5), .lit (.int .i64 15), .lit (.int .i64 11), .lit (.int .i64 9), .lit (.int .i64 14), .lit (.int .i64 3), .lit (.int .i64 12), .lit (.int .i64 13), .lit (.int .i64 0)]]
def laid_sheaves_blake_lanes {H : Type} : DataW H := .agg [.agg [.lit (.int .i64 0), .lit (.int .i64 4), .lit (.int .i64 8), .lit (.int .i64 12)], .agg [.lit (.int .i64 1), .lit (.int .i64 5), .lit (.int .i64 9), .lit (.int .i64 13)], .agg [.lit (.int .i64 2), .lit (.int .i64 6), .lit (.int .i64 10), .lit (.int .i64 14)], .agg [.lit (.int .i64 3), .lit (.int .i64 7), .lit (.int .i64 11), .lit (.int .i64 15)], .agg [.lit (.int .i64 0), .lit (.int .i64 5), .lit (.int .i64 10), .lit (.int .i64 15)], .agg [.lit (.int .i64 1), .lit (.int .i64 6), .lit (.int .i64 11), .lit (.int .i64 12)], .agg [.lit (.int .i64 2), .lit (.int .i64 7), .lit (.int .i64 8), .lit (.int .i64 13)], .agg [.lit (.int .i64 3), .lit (.int .i64 4), .lit (.int .i64 9), .lit (.int .i64 14)]]

/-- 'sheaveslaw.BlakeSums': WHATEVER THE INPUT: true; the input reads as it did. -/
def blakeSumsSpec : ChangeSpec := { name := "blakeSums", fn := fun _ => fun
  | [d] => { results := [.lit (.bool true)], args := [d] }
  | _ => none }
def blakeSumsRow : OpenClaim := { program := "ytelfbgfggkhpjaadoor", sum := "b8164dac55bd66ce448a47840ffb0b7443ddc711217eb9428e70d0d202e0b674", func := "sheaves/sheaveslaw.BlakeSums", spec := "blakeSums", named := ["sheaves/blake.first", "sheaves/blake.order", "sheaves/blake.lanes"], apart := false, laid := [("sheaves/blake.first", laid_sheaves_blake_first), ("sheaves/blake.order", laid_sheaves_blake_order), ("sheaves/blake.lanes", laid_sheaves_blake_lanes)] }
def BlakeSumsSaid : Prop := blakeSumsRow.holds Tryd.pinned (OpenSpec.ofChange blakeSumsSpec)

/-- ITS FALSE NEIGHBOUR: 'it returns false'. Refute it at one input. -/
def blakeSumsWrong : ChangeSpec := { name := "blakeSums", fn := fun _ => fun
  | [d] => { results := [.lit (.bool false)], args := [d] }
  | _ => none }
def BlakeSumsWrongFalsely : Prop := blakeSumsRow.holds Tryd.pinned (OpenSpec.ofChange blakeSumsWrong)

/-- 'sheaveslaw.BlakeTags': WHATEVER THE INPUT: true; the input reads as it did. -/
def blakeTagsSpec : ChangeSpec := { name := "blakeTags", fn := fun _ => fun
  | [d1, d2] => { results := [.lit (.bool true)], args := [d1, d2] }
  | _ => none }
def blakeTagsRow : OpenClaim := { program := "ytelfbgfggkhpjaadoor", sum := "b8164dac55bd66ce448a47840ffb0b7443ddc711217eb9428e70d0d202e0b674", func := "sheaves/sheaveslaw.BlakeTags", spec := "blakeTags", named := ["sheaves/blake.first", "sheaves/blake.order", "sheaves/blake.lanes"], apart := false, laid := [("sheaves/blake.first", laid_sheaves_blake_first), ("sheaves/blake.order", laid_sheaves_blake_order), ("sheaves/blake.lanes", laid_sheaves_blake_lanes)] }
def BlakeTagsSaid : Prop := blakeTagsRow.holds Tryd.pinned (OpenSpec.ofChange blakeTagsSpec)

/-- ITS FALSE NEIGHBOUR: 'it returns false'. Refute it at one input. -/
def blakeTagsWrong : ChangeSpec := { name := "blakeTags", fn := fun _ => fun
  | [d1, d2] => { results := [.lit (.bool false)], args := [d1, d2] }
  | _ => none }
def BlakeTagsWrongFalsely : Prop := blakeTagsRow.holds Tryd.pinned (OpenSpec.ofChange blakeTagsWrong)

/-- 'sheaveslaw.WireBatchDigests': WHATEVER THE INPUT: true; the input reads as it did. -/
def wireBatchDigestsSpec : ChangeSpec := { name := "wireBatchDigests", fn := fun _ => fun
  | [d] => { results := [.lit (.bool true)], args := [d] }
  | _ => none }
def wireBatchDigestsRow : OpenClaim := { program := "ytelfbgfggkhpjaadoor", sum := "b8164dac55bd66ce448a47840ffb0b7443ddc711217eb9428e70d0d202e0b674", func := "sheaves/sheaveslaw.WireBatchDigests", spec := "wireBatchDigests", named := ["sheaves/blake.first", "sheaves/blake.order", "sheaves/blake.lanes"], apart := false, laid := [("sheaves/blake.first", laid_sheaves_blake_first), ("sheaves/blake.order", laid_sheaves_blake_order), ("sheaves/blake.lanes", laid_sheaves_blake_lanes)] }
def WireBatchDigestsSaid : Prop := wireBatchDigestsRow.holds Tryd.pinned (OpenSpec.ofChange wireBatchDigestsSpec)

/-- ITS FALSE NEIGHBOUR: 'it returns false'. Refute it at one input. -/
def wireBatchDigestsWrong : ChangeSpec := { name := "wireBatchDigests", fn := fun _ => fun
  | [d] => { results := [.lit (.bool false)], args := [d] }
  | _ => none }
def WireBatchDigestsWrongFalsely : Prop := wireBatchDigestsRow.holds Tryd.pinned (OpenSpec.ofChange wireBatchDigestsWrong)

/-- 'sheaveslaw.OrderBatches': WHATEVER THE INPUT: true; the input reads as it did. -/
def orderBatchesSpec : ChangeSpec := { name := "orderBatches", fn := fun _ => fun
  | [d] => { results := [.lit (.bool true)], args := [d] }
  | _ => none }
def orderBatchesRow : OpenClaim := { program := "ytelfbgfggkhpjaadoor", sum := "b8164dac55bd66ce448a47840ffb0b7443ddc711217eb9428e70d0d202e0b674", func := "sheaves/sheaveslaw.OrderBatches", spec := "orderBatches", named := ["sheaves/blake.first", "sheaves/blake.order", "sheaves/blake.lanes"], apart := false, laid := [("sheaves/blake.first", laid_sheaves_blake_first), ("sheaves/blake.order", laid_sheaves_blake_order), ("sheaves/blake.lanes", laid_sheaves_blake_lanes)] }
def OrderBatchesSaid : Prop := orderBatchesRow.holds Tryd.pinned (OpenSpec.ofChange orderBatchesSpec)

/-- ITS FALSE NEIGHBOUR: 'it returns false'. Refute it at one input. -/
def orderBatchesWrong : ChangeSpec := { name := "orderBatches", fn := fun _ => fun
  | [d] => { results := [.lit (.bool false)], args := [d] }
  | _ => none }
def OrderBatchesWrongFalsely : Prop := orderBatchesRow.holds Tryd.pinned (OpenSpec.ofChange orderBatchesWrong)

/-- 'sheaveslaw.WireHeaderDigests': WHATEVER THE INPUT: true; the input reads as it did. -/
def wireHeaderDigestsSpec : ChangeSpec := { name := "wireHeaderDigests", fn := fun _ => fun
  | [d] => { results := [.lit (.bool true)], args := [d] }
  | _ => none }
def wireHeaderDigestsRow : OpenClaim := { program := "ytelfbgfggkhpjaadoor", sum := "b8164dac55bd66ce448a47840ffb0b7443ddc711217eb9428e70d0d202e0b674", func := "sheaves/sheaveslaw.WireHeaderDigests", spec := "wireHeaderDigests", unfollowed := true, recurses := true, named := ["sheaves/blake.first", "sheaves/blake.order", "sheaves/blake.lanes"], apart := false, laid := [("sheaves/blake.first", laid_sheaves_blake_first), ("sheaves/blake.order", laid_sheaves_blake_order), ("sheaves/blake.lanes", laid_sheaves_blake_lanes)] }
def WireHeaderDigestsSaid : Prop := wireHeaderDigestsRow.holds Tryd.pinned (OpenSpec.ofChange wireHeaderDigestsSpec)

/-- ITS FALSE NEIGHBOUR: 'it returns false'. Refute it at one input. -/
def wireHeaderDigestsWrong : ChangeSpec := { name := "wireHeaderDigests", fn := fun _ => fun
  | [d] => { results := [.lit (.bool false)], args := [d] }
  | _ => none }
def WireHeaderDigestsWrongFalsely : Prop := wireHeaderDigestsRow.holds Tryd.pinned (OpenSpec.ofChange wireHeaderDigestsWrong)

/- THE SECOND FORM. 'bulk': how many values and letters a reading holds, each counted each time it is reached (what is shared counts as often as it is met; a slice's spare places count too). A statement '..UptoSaid' is the law's where the arguments, and the package variables that the reading takes, are together of bulk at most 1048576: NARROWER than '..Said'. Prove '..Said' where nothing that the law and all that it calls make is longer than what came in: it says more and counts as full. Else prove '..UptoSaid'. A law counts once. -/
mutual
def uptoBulk {H : Type} : DataW H → Nat
  | .lit (.string bytes) => bytes.length + 1
  | .lit _ => 1
  | .nil => 1
  | .ptr d => uptoBulk d + 1
  | .slice elems spare => uptoBulkAll elems + uptoBulkAll spare + 1
  | .agg parts => uptoBulkAll parts + 1
  | .iface _ d => uptoBulk d + 1
  | .map entries => uptoBulkEntries entries + 1
  | .held _ => 1
def uptoBulkAll {H : Type} : List (DataW H) → Nat
  | [] => 0
  | d :: r => uptoBulk d + uptoBulkAll r
def uptoBulkEntries {H : Type} : List (Lit × DataW H) → Nat
  | [] => 0
  | x :: r => uptoBulkEntry x + uptoBulkEntries r
def uptoBulkEntry {H : Type} : Lit × DataW H → Nat
  | (.string bytes, d) => bytes.length + uptoBulk d + 1
  | (_, d) => uptoBulk d + 1
 end
def uptoSmall : (H : Type) → List (DataW H) → Bool := fun _ ds => decide (uptoBulkAll ds ≤ 1048576)
def OpenSpec.upto (s : _root_.Go.ChangeSpec) : _root_.Go.OpenSpec := { _root_.Go.OpenSpec.ofChange s with cond := some uptoSmall }

/-- 'sheaveslaw.BlakeSums', WHERE WHAT IT READS IS OF BULK AT MOST 1048576: true; the input reads as it did. -/
def blakeSumsUptoRow : OpenClaim := { program := "ytelfbgfggkhpjaadoor", sum := "b8164dac55bd66ce448a47840ffb0b7443ddc711217eb9428e70d0d202e0b674", func := "sheaves/sheaveslaw.BlakeSums", spec := "blakeSums", named := ["sheaves/blake.first", "sheaves/blake.order", "sheaves/blake.lanes"], apart := false, laid := [("sheaves/blake.first", laid_sheaves_blake_first), ("sheaves/blake.order", laid_sheaves_blake_order), ("sheaves/blake.lanes", laid_sheaves_blake_lanes)], narrowed := true }
def BlakeSumsUptoSaid : Prop := blakeSumsUptoRow.holds Tryd.pinned (OpenSpec.upto blakeSumsSpec)

/-- 'sheaveslaw.BlakeTags', WHERE WHAT IT READS IS OF BULK AT MOST 1048576: true; the input reads as it did. -/
def blakeTagsUptoRow : OpenClaim := { program := "ytelfbgfggkhpjaadoor", sum := "b8164dac55bd66ce448a47840ffb0b7443ddc711217eb9428e70d0d202e0b674", func := "sheaves/sheaveslaw.BlakeTags", spec := "blakeTags", named := ["sheaves/blake.first", "sheaves/blake.order", "sheaves/blake.lanes"], apart := false, laid := [("sheaves/blake.first", laid_sheaves_blake_first), ("sheaves/blake.order", laid_sheaves_blake_order), ("sheaves/blake.lanes", laid_sheaves_blake_lanes)], narrowed := true }
def BlakeTagsUptoSaid : Prop := blakeTagsUptoRow.holds Tryd.pinned (OpenSpec.upto blakeTagsSpec)

/-- 'sheaveslaw.WireBatchDigests', WHERE WHAT IT READS IS OF BULK AT MOST 1048576: true; the input reads as it did. -/
def wireBatchDigestsUptoRow : OpenClaim := { program := "ytelfbgfggkhpjaadoor", sum := "b8164dac55bd66ce448a47840ffb0b7443ddc711217eb9428e70d0d202e0b674", func := "sheaves/sheaveslaw.WireBatchDigests", spec := "wireBatchDigests", named := ["sheaves/blake.first", "sheaves/blake.order", "sheaves/blake.lanes"], apart := false, laid := [("sheaves/blake.first", laid_sheaves_blake_first), ("sheaves/blake.order", laid_sheaves_blake_order), ("sheaves/blake.lanes", laid_sheaves_blake_lanes)], narrowed := true }
def WireBatchDigestsUptoSaid : Prop := wireBatchDigestsUptoRow.holds Tryd.pinned (OpenSpec.upto wireBatchDigestsSpec)

/-- 'sheaveslaw.OrderBatches', WHERE WHAT IT READS IS OF BULK AT MOST 1048576: true; the input reads as it did. -/
def orderBatchesUptoRow : OpenClaim := { program := "ytelfbgfggkhpjaadoor", sum := "b8164dac55bd66ce448a47840ffb0b7443ddc711217eb9428e70d0d202e0b674", func := "sheaves/sheaveslaw.OrderBatches", spec := "orderBatches", named := ["sheaves/blake.first", "sheaves/blake.order", "sheaves/blake.lanes"], apart := false, laid := [("sheaves/blake.first", laid_sheaves_blake_first), ("sheaves/blake.order", laid_sheaves_blake_order), ("sheaves/blake.lanes", laid_sheaves_blake_lanes)], narrowed := true }
def OrderBatchesUptoSaid : Prop := orderBatchesUptoRow.holds Tryd.pinned (OpenSpec.upto orderBatchesSpec)

/-- 'sheaveslaw.WireHeaderDigests', WHERE WHAT IT READS IS OF BULK AT MOST 1048576: true; the input reads as it did. -/
def wireHeaderDigestsUptoRow : OpenClaim := { program := "ytelfbgfggkhpjaadoor", sum := "b8164dac55bd66ce448a47840ffb0b7443ddc711217eb9428e70d0d202e0b674", func := "sheaves/sheaveslaw.WireHeaderDigests", spec := "wireHeaderDigests", unfollowed := true, recurses := true, named := ["sheaves/blake.first", "sheaves/blake.order", "sheaves/blake.lanes"], apart := false, laid := [("sheaves/blake.first", laid_sheaves_blake_first), ("sheaves/blake.order", laid_sheaves_blake_order), ("sheaves/blake.lanes", laid_sheaves_blake_lanes)], narrowed := true }
def WireHeaderDigestsUptoSaid : Prop := wireHeaderDigestsUptoRow.holds Tryd.pinned (OpenSpec.upto wireHeaderDigestsSpec)

end Rows
end Go.Proofs.YtelfbgfggkhpjaaDoor
