/-
  No cell of these rows narrows 'for every input' (looked for: loops, veiled, ifaces, maps, wideKeys, modest, calm, conditions, laid).
  DERIVED. THE GIVEN ROWS OF THIS SEAT. 12 by the template 'for every input the law returns true; each argument reads behind the call as it read before'; 0 by the template 'total and deterministic' (their statements: YtegcimjmgagpnaaTotals.lean).
  GIVEN WITH THE SEED: the statements are not yours to turn. If you find one false, say at which input.
  Laid BY PROGRAM, IN A SANDBOX (cutbox-rows.mjs): the forced cells as the released guide's own fill.sh prints them over the translation 58f40d068edf3f3b… (all of the seat's roots in one cut). By AI agents, Wed Nov 11 2026. No macro, syntax, notation, axiom, sorry.
-/
import Derived.Test.YtegcimjmgagpnaaChecked
import GoSem.Claim
import GoSem.ClaimJoined
import GoSem.ClaimMapViews
import Derived.JoinedTies
import Derived.KernelRfl
namespace Go.Proofs.Ytegcimjmgagpnaa
/- THE CELL 'sum', in the pinned program and in every row, IS THE sha256 OF THE DUMP (.gsa) THAT YtegcimjmgagpnaaProg.lean LOADS. Nothing in Lean hashes anything: it is a label: what it is worth is what the hold of that sum in a sandbox is worth. -/
noncomputable def Try.pinned : Pinned := { name := "ytegcimjmgagpnaa", sum := "58f40d068edf3f3b978551e67d79289125cba25e98c42005af5079b3a5a8b8bb", checked := Try.checked }
namespace Rows
def none {H : Type} : Left H := { results := [], args := [] }

/-- 'sheaveslaw.Names': WHATEVER THE INPUT: true; the input reads as it did. -/
def namesSpec : ChangeSpec := { name := "names", fn := fun _ => fun
  | [] => { results := [.lit (.bool true)], args := [] }
  | _ => none }
def namesRow : OpenClaim := { program := "ytegcimjmgagpnaa", sum := "58f40d068edf3f3b978551e67d79289125cba25e98c42005af5079b3a5a8b8bb", func := "sheaves/sheaveslaw.Names", spec := "names", apart := false }
def NamesSaid : Prop := namesRow.holds Try.pinned (OpenSpec.ofChange namesSpec)

/-- ITS FALSE NEIGHBOUR: 'it returns false'. Refute it at one input. -/
def namesWrong : ChangeSpec := { name := "names", fn := fun _ => fun
  | [] => { results := [.lit (.bool false)], args := [] }
  | _ => none }
def NamesWrongFalsely : Prop := namesRow.holds Try.pinned (OpenSpec.ofChange namesWrong)

/-- 'sheaveslaw.WireSlots': WHATEVER THE INPUT: true; the input reads as it did. -/
def wireSlotsSpec : ChangeSpec := { name := "wireSlots", fn := fun _ => fun
  | [d] => { results := [.lit (.bool true)], args := [d] }
  | _ => none }
def wireSlotsRow : OpenClaim := { program := "ytegcimjmgagpnaa", sum := "58f40d068edf3f3b978551e67d79289125cba25e98c42005af5079b3a5a8b8bb", func := "sheaves/sheaveslaw.WireSlots", spec := "wireSlots", apart := false }
def WireSlotsSaid : Prop := wireSlotsRow.holds Try.pinned (OpenSpec.ofChange wireSlotsSpec)

/-- ITS FALSE NEIGHBOUR: 'it returns false'. Refute it at one input. -/
def wireSlotsWrong : ChangeSpec := { name := "wireSlots", fn := fun _ => fun
  | [d] => { results := [.lit (.bool false)], args := [d] }
  | _ => none }
def WireSlotsWrongFalsely : Prop := wireSlotsRow.holds Try.pinned (OpenSpec.ofChange wireSlotsWrong)

/-- 'sheaveslaw.WireBatches': WHATEVER THE INPUT: true; the input reads as it did. -/
def wireBatchesSpec : ChangeSpec := { name := "wireBatches", fn := fun _ => fun
  | [d] => { results := [.lit (.bool true)], args := [d] }
  | _ => none }
def wireBatchesRow : OpenClaim := { program := "ytegcimjmgagpnaa", sum := "58f40d068edf3f3b978551e67d79289125cba25e98c42005af5079b3a5a8b8bb", func := "sheaves/sheaveslaw.WireBatches", spec := "wireBatches", apart := false }
def WireBatchesSaid : Prop := wireBatchesRow.holds Try.pinned (OpenSpec.ofChange wireBatchesSpec)

/-- ITS FALSE NEIGHBOUR: 'it returns false'. Refute it at one input. -/
def wireBatchesWrong : ChangeSpec := { name := "wireBatches", fn := fun _ => fun
  | [d] => { results := [.lit (.bool false)], args := [d] }
  | _ => none }
def WireBatchesWrongFalsely : Prop := wireBatchesRow.holds Try.pinned (OpenSpec.ofChange wireBatchesWrong)

/-- 'sheaveslaw.PoolChecks': WHATEVER THE INPUT: true; the input reads as it did. -/
def poolChecksSpec : ChangeSpec := { name := "poolChecks", fn := fun _ => fun
  | [d] => { results := [.lit (.bool true)], args := [d] }
  | _ => none }
def poolChecksRow : OpenClaim := { program := "ytegcimjmgagpnaa", sum := "58f40d068edf3f3b978551e67d79289125cba25e98c42005af5079b3a5a8b8bb", func := "sheaves/sheaveslaw.PoolChecks", spec := "poolChecks", apart := false }
def PoolChecksSaid : Prop := poolChecksRow.holds Try.pinned (OpenSpec.ofChange poolChecksSpec)

/-- ITS FALSE NEIGHBOUR: 'it returns false'. Refute it at one input. -/
def poolChecksWrong : ChangeSpec := { name := "poolChecks", fn := fun _ => fun
  | [d] => { results := [.lit (.bool false)], args := [d] }
  | _ => none }
def PoolChecksWrongFalsely : Prop := poolChecksRow.holds Try.pinned (OpenSpec.ofChange poolChecksWrong)

/-- 'sheaveslaw.TapeSyncs': WHATEVER THE INPUT: true; the input reads as it did. -/
def tapeSyncsSpec : ChangeSpec := { name := "tapeSyncs", fn := fun _ => fun
  | [d] => { results := [.lit (.bool true)], args := [d] }
  | _ => none }
def tapeSyncsRow : OpenClaim := { program := "ytegcimjmgagpnaa", sum := "58f40d068edf3f3b978551e67d79289125cba25e98c42005af5079b3a5a8b8bb", func := "sheaves/sheaveslaw.TapeSyncs", spec := "tapeSyncs", apart := false }
def TapeSyncsSaid : Prop := tapeSyncsRow.holds Try.pinned (OpenSpec.ofChange tapeSyncsSpec)

/-- ITS FALSE NEIGHBOUR: 'it returns false'. Refute it at one input. -/
def tapeSyncsWrong : ChangeSpec := { name := "tapeSyncs", fn := fun _ => fun
  | [d] => { results := [.lit (.bool false)], args := [d] }
  | _ => none }
def TapeSyncsWrongFalsely : Prop := tapeSyncsRow.holds Try.pinned (OpenSpec.ofChange tapeSyncsWrong)

/-- 'sheaveslaw.TapeCrashes': WHATEVER THE INPUT: true; the input reads as it did. -/
def tapeCrashesSpec : ChangeSpec := { name := "tapeCrashes", fn := fun _ => fun
  | [d1, d2] => { results := [.lit (.bool true)], args := [d1, d2] }
  | _ => none }
def tapeCrashesRow : OpenClaim := { program := "ytegcimjmgagpnaa", sum := "58f40d068edf3f3b978551e67d79289125cba25e98c42005af5079b3a5a8b8bb", func := "sheaves/sheaveslaw.TapeCrashes", spec := "tapeCrashes", apart := false }
def TapeCrashesSaid : Prop := tapeCrashesRow.holds Try.pinned (OpenSpec.ofChange tapeCrashesSpec)

/-- ITS FALSE NEIGHBOUR: 'it returns false'. Refute it at one input. -/
def tapeCrashesWrong : ChangeSpec := { name := "tapeCrashes", fn := fun _ => fun
  | [d1, d2] => { results := [.lit (.bool false)], args := [d1, d2] }
  | _ => none }
def TapeCrashesWrongFalsely : Prop := tapeCrashesRow.holds Try.pinned (OpenSpec.ofChange tapeCrashesWrong)

/-- 'sheaveslaw.LinesChecks': WHATEVER THE INPUT: true; the input reads as it did. -/
def linesChecksSpec : ChangeSpec := { name := "linesChecks", fn := fun _ => fun
  | [d] => { results := [.lit (.bool true)], args := [d] }
  | _ => none }
def linesChecksRow : OpenClaim := { program := "ytegcimjmgagpnaa", sum := "58f40d068edf3f3b978551e67d79289125cba25e98c42005af5079b3a5a8b8bb", func := "sheaves/sheaveslaw.LinesChecks", spec := "linesChecks", apart := false }
def LinesChecksSaid : Prop := linesChecksRow.holds Try.pinned (OpenSpec.ofChange linesChecksSpec)

/-- ITS FALSE NEIGHBOUR: 'it returns false'. Refute it at one input. -/
def linesChecksWrong : ChangeSpec := { name := "linesChecks", fn := fun _ => fun
  | [d] => { results := [.lit (.bool false)], args := [d] }
  | _ => none }
def LinesChecksWrongFalsely : Prop := linesChecksRow.holds Try.pinned (OpenSpec.ofChange linesChecksWrong)

/-- 'sheaveslaw.BallotChecks': WHATEVER THE INPUT: true; the input reads as it did. -/
def ballotChecksSpec : ChangeSpec := { name := "ballotChecks", fn := fun _ => fun
  | [d] => { results := [.lit (.bool true)], args := [d] }
  | _ => none }
def ballotChecksRow : OpenClaim := { program := "ytegcimjmgagpnaa", sum := "58f40d068edf3f3b978551e67d79289125cba25e98c42005af5079b3a5a8b8bb", func := "sheaves/sheaveslaw.BallotChecks", spec := "ballotChecks", unfollowed := true, recurses := true, apart := false }
def BallotChecksSaid : Prop := ballotChecksRow.holds Try.pinned (OpenSpec.ofChange ballotChecksSpec)

/-- ITS FALSE NEIGHBOUR: 'it returns false'. Refute it at one input. -/
def ballotChecksWrong : ChangeSpec := { name := "ballotChecks", fn := fun _ => fun
  | [d] => { results := [.lit (.bool false)], args := [d] }
  | _ => none }
def BallotChecksWrongFalsely : Prop := ballotChecksRow.holds Try.pinned (OpenSpec.ofChange ballotChecksWrong)

/-- 'sheaveslaw.SealChecks': WHATEVER THE INPUT: true; the input reads as it did. -/
def sealChecksSpec : ChangeSpec := { name := "sealChecks", fn := fun _ => fun
  | [d] => { results := [.lit (.bool true)], args := [d] }
  | _ => none }
def sealChecksRow : OpenClaim := { program := "ytegcimjmgagpnaa", sum := "58f40d068edf3f3b978551e67d79289125cba25e98c42005af5079b3a5a8b8bb", func := "sheaves/sheaveslaw.SealChecks", spec := "sealChecks", unfollowed := true, recurses := true, apart := false }
def SealChecksSaid : Prop := sealChecksRow.holds Try.pinned (OpenSpec.ofChange sealChecksSpec)

/-- ITS FALSE NEIGHBOUR: 'it returns false'. Refute it at one input. -/
def sealChecksWrong : ChangeSpec := { name := "sealChecks", fn := fun _ => fun
  | [d] => { results := [.lit (.bool false)], args := [d] }
  | _ => none }
def SealChecksWrongFalsely : Prop := sealChecksRow.holds Try.pinned (OpenSpec.ofChange sealChecksWrong)

/-- 'sheaveslaw.WireHeaders': WHATEVER THE INPUT: true; the input reads as it did. -/
def wireHeadersSpec : ChangeSpec := { name := "wireHeaders", fn := fun _ => fun
  | [d] => { results := [.lit (.bool true)], args := [d] }
  | _ => none }
def wireHeadersRow : OpenClaim := { program := "ytegcimjmgagpnaa", sum := "58f40d068edf3f3b978551e67d79289125cba25e98c42005af5079b3a5a8b8bb", func := "sheaves/sheaveslaw.WireHeaders", spec := "wireHeaders", unfollowed := true, recurses := true, apart := false }
def WireHeadersSaid : Prop := wireHeadersRow.holds Try.pinned (OpenSpec.ofChange wireHeadersSpec)

/-- ITS FALSE NEIGHBOUR: 'it returns false'. Refute it at one input. -/
def wireHeadersWrong : ChangeSpec := { name := "wireHeaders", fn := fun _ => fun
  | [d] => { results := [.lit (.bool false)], args := [d] }
  | _ => none }
def WireHeadersWrongFalsely : Prop := wireHeadersRow.holds Try.pinned (OpenSpec.ofChange wireHeadersWrong)

/-- 'sheaveslaw.PoolAdds': WHATEVER THE INPUT: true; the input reads as it did. -/
def poolAddsSpec : ChangeSpec := { name := "poolAdds", fn := fun _ => fun
  | [d1, d2] => { results := [.lit (.bool true)], args := [d1, d2] }
  | _ => none }
def poolAddsRow : OpenClaim := { program := "ytegcimjmgagpnaa", sum := "58f40d068edf3f3b978551e67d79289125cba25e98c42005af5079b3a5a8b8bb", func := "sheaves/sheaveslaw.PoolAdds", spec := "poolAdds", apart := false }
def PoolAddsSaid : Prop := poolAddsRow.holds Try.pinned (OpenSpec.ofChange poolAddsSpec)

/-- ITS FALSE NEIGHBOUR: 'it returns false'. Refute it at one input. -/
def poolAddsWrong : ChangeSpec := { name := "poolAdds", fn := fun _ => fun
  | [d1, d2] => { results := [.lit (.bool false)], args := [d1, d2] }
  | _ => none }
def PoolAddsWrongFalsely : Prop := poolAddsRow.holds Try.pinned (OpenSpec.ofChange poolAddsWrong)

/-- 'sheaveslaw.PoolSeals': WHATEVER THE INPUT: true; the input reads as it did. -/
def poolSealsSpec : ChangeSpec := { name := "poolSeals", fn := fun _ => fun
  | [d1, d2] => { results := [.lit (.bool true)], args := [d1, d2] }
  | _ => none }
def poolSealsRow : OpenClaim := { program := "ytegcimjmgagpnaa", sum := "58f40d068edf3f3b978551e67d79289125cba25e98c42005af5079b3a5a8b8bb", func := "sheaves/sheaveslaw.PoolSeals", spec := "poolSeals", apart := false }
def PoolSealsSaid : Prop := poolSealsRow.holds Try.pinned (OpenSpec.ofChange poolSealsSpec)

/-- ITS FALSE NEIGHBOUR: 'it returns false'. Refute it at one input. -/
def poolSealsWrong : ChangeSpec := { name := "poolSeals", fn := fun _ => fun
  | [d1, d2] => { results := [.lit (.bool false)], args := [d1, d2] }
  | _ => none }
def PoolSealsWrongFalsely : Prop := poolSealsRow.holds Try.pinned (OpenSpec.ofChange poolSealsWrong)

/- THE SECOND FORM. 'bulk': how many values and letters a reading holds, each counted each time it is reached (what is shared counts as often as it is met; a slice's spare places count too). A statement '..UptoSaid' is the law's where the arguments, and the package variables that the reading takes, are together of bulk at most 1048576: NARROWER than '..Said'. Prove '..Said' where nothing that the law and all that it calls make is longer than what came in: it says more and counts as full. Else prove '..UptoSaid'. A law counts once. -/
mutual
def uptoBulk {H : Type} : DataW H → Nat
  | .lit (.string bytes) => bytes.length + 1
  | .lit _ => 1
  | .nil => 1
  | .ptr d => uptoBulk d + 1
  | .slice elems spare => uptoBulkAll elems + uptoBulkAll spare + 1
  | .agg parts => uptoBulkAll parts + 1
  | .iface _ d => uptoBulk d + 1
  | .map entries => uptoBulkEntries entries + 1
  | .held _ => 1
def uptoBulkAll {H : Type} : List (DataW H) → Nat
  | [] => 0
  | d :: r => uptoBulk d + uptoBulkAll r
def uptoBulkEntries {H : Type} : List (Lit × DataW H) → Nat
  | [] => 0
  | x :: r => uptoBulkEntry x + uptoBulkEntries r
def uptoBulkEntry {H : Type} : Lit × DataW H → Nat
  | (.string bytes, d) => bytes.length + uptoBulk d + 1
  | (_, d) => uptoBulk d + 1
 end
def uptoSmall : (H : Type) → List (DataW H) → Bool := fun _ ds => decide (uptoBulkAll ds ≤ 1048576)
def OpenSpec.upto (s : _root_.Go.ChangeSpec) : _root_.Go.OpenSpec := { _root_.Go.OpenSpec.ofChange s with cond := some uptoSmall }

/-- 'sheaveslaw.Names', WHERE WHAT IT READS IS OF BULK AT MOST 1048576: true; the input reads as it did. -/
def namesUptoRow : OpenClaim := { program := "ytegcimjmgagpnaa", sum := "58f40d068edf3f3b978551e67d79289125cba25e98c42005af5079b3a5a8b8bb", func := "sheaves/sheaveslaw.Names", spec := "names", apart := false, narrowed := true }
def NamesUptoSaid : Prop := namesUptoRow.holds Try.pinned (OpenSpec.upto namesSpec)

/-- 'sheaveslaw.WireSlots', WHERE WHAT IT READS IS OF BULK AT MOST 1048576: true; the input reads as it did. -/
def wireSlotsUptoRow : OpenClaim := { program := "ytegcimjmgagpnaa", sum := "58f40d068edf3f3b978551e67d79289125cba25e98c42005af5079b3a5a8b8bb", func := "sheaves/sheaveslaw.WireSlots", spec := "wireSlots", apart := false, narrowed := true }
def WireSlotsUptoSaid : Prop := wireSlotsUptoRow.holds Try.pinned (OpenSpec.upto wireSlotsSpec)

/-- 'sheaveslaw.WireBatches', WHERE WHAT IT READS IS OF BULK AT MOST 1048576: true; the input reads as it did. -/
def wireBatchesUptoRow : OpenClaim := { program := "ytegcimjmgagpnaa", sum := "58f40d068edf3f3b978551e67d79289125cba25e98c42005af5079b3a5a8b8bb", func := "sheaves/sheaveslaw.WireBatches", spec := "wireBatches", apart := false, narrowed := true }
def WireBatchesUptoSaid : Prop := wireBatchesUptoRow.holds Try.pinned (OpenSpec.upto wireBatchesSpec)

/-- 'sheaveslaw.PoolChecks', WHERE WHAT IT READS IS OF BULK AT MOST 1048576: true; the input reads as it did. -/
def poolChecksUptoRow : OpenClaim := { program := "ytegcimjmgagpnaa", sum := "58f40d068edf3f3b978551e67d79289125cba25e98c42005af5079b3a5a8b8bb", func := "sheaves/sheaveslaw.PoolChecks", spec := "poolChecks", apart := false, narrowed := true }
def PoolChecksUptoSaid : Prop := poolChecksUptoRow.holds Try.pinned (OpenSpec.upto poolChecksSpec)

/-- 'sheaveslaw.TapeSyncs', WHERE WHAT IT READS IS OF BULK AT MOST 1048576: true; the input reads as it did. -/
def tapeSyncsUptoRow : OpenClaim := { program := "ytegcimjmgagpnaa", sum := "58f40d068edf3f3b978551e67d79289125cba25e98c42005af5079b3a5a8b8bb", func := "sheaves/sheaveslaw.TapeSyncs", spec := "tapeSyncs", apart := false, narrowed := true }
def TapeSyncsUptoSaid : Prop := tapeSyncsUptoRow.holds Try.pinned (OpenSpec.upto tapeSyncsSpec)

/-- 'sheaveslaw.TapeCrashes', WHERE WHAT IT READS IS OF BULK AT MOST 1048576: true; the input reads as it did. -/
def tapeCrashesUptoRow : OpenClaim := { program := "ytegcimjmgagpnaa", sum := "58f40d068edf3f3b978551e67d79289125cba25e98c42005af5079b3a5a8b8bb", func := "sheaves/sheaveslaw.TapeCrashes", spec := "tapeCrashes", apart := false, narrowed := true }
def TapeCrashesUptoSaid : Prop := tapeCrashesUptoRow.holds Try.pinned (OpenSpec.upto tapeCrashesSpec)

/-- 'sheaveslaw.LinesChecks', WHERE WHAT IT READS IS OF BULK AT MOST 1048576: true; the input reads as it did. -/
def linesChecksUptoRow : OpenClaim := { program := "ytegcimjmgagpnaa", sum := "58f40d068edf3f3b978551e67d79289125cba25e98c42005af5079b3a5a8b8bb", func := "sheaves/sheaveslaw.LinesChecks", spec := "linesChecks", apart := false, narrowed := true }
def LinesChecksUptoSaid : Prop := linesChecksUptoRow.holds Try.pinned (OpenSpec.upto linesChecksSpec)

/-- 'sheaveslaw.BallotChecks', WHERE WHAT IT READS IS OF BULK AT MOST 1048576: true; the input reads as it did. -/
def ballotChecksUptoRow : OpenClaim := { program := "ytegcimjmgagpnaa", sum := "58f40d068edf3f3b978551e67d79289125cba25e98c42005af5079b3a5a8b8bb", func := "sheaves/sheaveslaw.BallotChecks", spec := "ballotChecks", unfollowed := true, recurses := true, apart := false, narrowed := true }
def BallotChecksUptoSaid : Prop := ballotChecksUptoRow.holds Try.pinned (OpenSpec.upto ballotChecksSpec)

/-- 'sheaveslaw.SealChecks', WHERE WHAT IT READS IS OF BULK AT MOST 1048576: true; the input reads as it did. -/
def sealChecksUptoRow : OpenClaim := { program := "ytegcimjmgagpnaa", sum := "58f40d068edf3f3b978551e67d79289125cba25e98c42005af5079b3a5a8b8bb", func := "sheaves/sheaveslaw.SealChecks", spec := "sealChecks", unfollowed := true, recurses := true, apart := false, narrowed := true }
def SealChecksUptoSaid : Prop := sealChecksUptoRow.holds Try.pinned (OpenSpec.upto sealChecksSpec)

/-- 'sheaveslaw.WireHeaders', WHERE WHAT IT READS IS OF BULK AT MOST 1048576: true; the input reads as it did. -/
def wireHeadersUptoRow : OpenClaim := { program := "ytegcimjmgagpnaa", sum := "58f40d068edf3f3b978551e67d79289125cba25e98c42005af5079b3a5a8b8bb", func := "sheaves/sheaveslaw.WireHeaders", spec := "wireHeaders", unfollowed := true, recurses := true, apart := false, narrowed := true }
def WireHeadersUptoSaid : Prop := wireHeadersUptoRow.holds Try.pinned (OpenSpec.upto wireHeadersSpec)

/-- 'sheaveslaw.PoolAdds', WHERE WHAT IT READS IS OF BULK AT MOST 1048576: true; the input reads as it did. -/
def poolAddsUptoRow : OpenClaim := { program := "ytegcimjmgagpnaa", sum := "58f40d068edf3f3b978551e67d79289125cba25e98c42005af5079b3a5a8b8bb", func := "sheaves/sheaveslaw.PoolAdds", spec := "poolAdds", apart := false, narrowed := true }
def PoolAddsUptoSaid : Prop := poolAddsUptoRow.holds Try.pinned (OpenSpec.upto poolAddsSpec)

/-- 'sheaveslaw.PoolSeals', WHERE WHAT IT READS IS OF BULK AT MOST 1048576: true; the input reads as it did. -/
def poolSealsUptoRow : OpenClaim := { program := "ytegcimjmgagpnaa", sum := "58f40d068edf3f3b978551e67d79289125cba25e98c42005af5079b3a5a8b8bb", func := "sheaves/sheaveslaw.PoolSeals", spec := "poolSeals", apart := false, narrowed := true }
def PoolSealsUptoSaid : Prop := poolSealsUptoRow.holds Try.pinned (OpenSpec.upto poolSealsSpec)

end Rows
end Go.Proofs.Ytegcimjmgagpnaa
