/-
  No cell of these rows narrows 'for every input' (looked for: loops, veiled, ifaces, maps, wideKeys, modest, calm, conditions, laid).
  DERIVED. THE GIVEN ROWS OF THIS SEAT. 7 by the template 'for every input the law returns true; each argument reads behind the call as it read before'; 0 by the template 'total and deterministic' (their statements: YtelfbgfggkhpjaaTotals.lean).
  GIVEN WITH THE SEED: the statements are not yours to turn. If you find one false, say at which input.
  Laid BY PROGRAM, IN A SANDBOX (cutbox-rows.mjs): the forced cells as the released guide's own fill.sh prints them over the translation 7d9bbbc51fbf48eb… (all of the seat's roots in one cut). By AI agents, Wed Nov 11 2026. No macro, syntax, notation, axiom, sorry.
-/
import Derived.Test.YtelfbgfggkhpjaaChecked
import GoSem.Claim
import GoSem.ClaimJoined
import GoSem.ClaimMapViews
import Derived.JoinedTies
import Derived.KernelRfl
namespace Go.Proofs.Ytelfbgfggkhpjaa
/- THE CELL 'sum', in the pinned program and in every row, IS THE sha256 OF THE DUMP (.gsa) THAT YtelfbgfggkhpjaaProg.lean LOADS. Nothing in Lean hashes anything: it is a label: what it is worth is what the hold of that sum in a sandbox is worth. -/
noncomputable def Try.pinned : Pinned := { name := "ytelfbgfggkhpjaa", sum := "7d9bbbc51fbf48eb91b15aff0b1584f9a086a24a8072d0feb51801041839a15b", checked := Try.checked }
namespace Rows
def none {H : Type} : Left H := { results := [], args := [] }

/-- 'sheaveslaw.Names': WHATEVER THE INPUT: true; the input reads as it did. -/
def namesSpec : ChangeSpec := { name := "names", fn := fun _ => fun
  | [] => { results := [.lit (.bool true)], args := [] }
  | _ => none }
def namesRow : OpenClaim := { program := "ytelfbgfggkhpjaa", sum := "7d9bbbc51fbf48eb91b15aff0b1584f9a086a24a8072d0feb51801041839a15b", func := "sheaves/sheaveslaw.Names", spec := "names", apart := false }
def NamesSaid : Prop := namesRow.holds Try.pinned (OpenSpec.ofChange namesSpec)

/-- ITS FALSE NEIGHBOUR: 'it returns false'. Refute it at one input. -/
def namesWrong : ChangeSpec := { name := "names", fn := fun _ => fun
  | [] => { results := [.lit (.bool false)], args := [] }
  | _ => none }
def NamesWrongFalsely : Prop := namesRow.holds Try.pinned (OpenSpec.ofChange namesWrong)

/-- 'sheaveslaw.PoolSeals': WHATEVER THE INPUT: true; the input reads as it did. -/
def poolSealsSpec : ChangeSpec := { name := "poolSeals", fn := fun _ => fun
  | [d1, d2] => { results := [.lit (.bool true)], args := [d1, d2] }
  | _ => none }
def poolSealsRow : OpenClaim := { program := "ytelfbgfggkhpjaa", sum := "7d9bbbc51fbf48eb91b15aff0b1584f9a086a24a8072d0feb51801041839a15b", func := "sheaves/sheaveslaw.PoolSeals", spec := "poolSeals", apart := false }
def PoolSealsSaid : Prop := poolSealsRow.holds Try.pinned (OpenSpec.ofChange poolSealsSpec)

/-- ITS FALSE NEIGHBOUR: 'it returns false'. Refute it at one input. -/
def poolSealsWrong : ChangeSpec := { name := "poolSeals", fn := fun _ => fun
  | [d1, d2] => { results := [.lit (.bool false)], args := [d1, d2] }
  | _ => none }
def PoolSealsWrongFalsely : Prop := poolSealsRow.holds Try.pinned (OpenSpec.ofChange poolSealsWrong)

/-- 'sheaveslaw.BallotVoted': WHATEVER THE INPUT: true; the input reads as it did. -/
def ballotVotedSpec : ChangeSpec := { name := "ballotVoted", fn := fun _ => fun
  | [d1, d2, d3] => { results := [.lit (.bool true)], args := [d1, d2, d3] }
  | _ => none }
def ballotVotedRow : OpenClaim := { program := "ytelfbgfggkhpjaa", sum := "7d9bbbc51fbf48eb91b15aff0b1584f9a086a24a8072d0feb51801041839a15b", func := "sheaves/sheaveslaw.BallotVoted", spec := "ballotVoted", unfollowed := true, recurses := true, apart := false }
def BallotVotedSaid : Prop := ballotVotedRow.holds Try.pinned (OpenSpec.ofChange ballotVotedSpec)

/-- ITS FALSE NEIGHBOUR: 'it returns false'. Refute it at one input. -/
def ballotVotedWrong : ChangeSpec := { name := "ballotVoted", fn := fun _ => fun
  | [d1, d2, d3] => { results := [.lit (.bool false)], args := [d1, d2, d3] }
  | _ => none }
def BallotVotedWrongFalsely : Prop := ballotVotedRow.holds Try.pinned (OpenSpec.ofChange ballotVotedWrong)

/-- 'sheaveslaw.SealSigned': WHATEVER THE INPUT: true; the input reads as it did. -/
def sealSignedSpec : ChangeSpec := { name := "sealSigned", fn := fun _ => fun
  | [d1, d2, d3] => { results := [.lit (.bool true)], args := [d1, d2, d3] }
  | _ => none }
def sealSignedRow : OpenClaim := { program := "ytelfbgfggkhpjaa", sum := "7d9bbbc51fbf48eb91b15aff0b1584f9a086a24a8072d0feb51801041839a15b", func := "sheaves/sheaveslaw.SealSigned", spec := "sealSigned", unfollowed := true, recurses := true, apart := false }
def SealSignedSaid : Prop := sealSignedRow.holds Try.pinned (OpenSpec.ofChange sealSignedSpec)

/-- ITS FALSE NEIGHBOUR: 'it returns false'. Refute it at one input. -/
def sealSignedWrong : ChangeSpec := { name := "sealSigned", fn := fun _ => fun
  | [d1, d2, d3] => { results := [.lit (.bool false)], args := [d1, d2, d3] }
  | _ => none }
def SealSignedWrongFalsely : Prop := sealSignedRow.holds Try.pinned (OpenSpec.ofChange sealSignedWrong)

/-- 'sheaveslaw.WireCerts': WHATEVER THE INPUT: true; the input reads as it did. -/
def wireCertsSpec : ChangeSpec := { name := "wireCerts", fn := fun _ => fun
  | [d] => { results := [.lit (.bool true)], args := [d] }
  | _ => none }
def wireCertsRow : OpenClaim := { program := "ytelfbgfggkhpjaa", sum := "7d9bbbc51fbf48eb91b15aff0b1584f9a086a24a8072d0feb51801041839a15b", func := "sheaves/sheaveslaw.WireCerts", spec := "wireCerts", unfollowed := true, recurses := true, apart := false }
def WireCertsSaid : Prop := wireCertsRow.holds Try.pinned (OpenSpec.ofChange wireCertsSpec)

/-- ITS FALSE NEIGHBOUR: 'it returns false'. Refute it at one input. -/
def wireCertsWrong : ChangeSpec := { name := "wireCerts", fn := fun _ => fun
  | [d] => { results := [.lit (.bool false)], args := [d] }
  | _ => none }
def WireCertsWrongFalsely : Prop := wireCertsRow.holds Try.pinned (OpenSpec.ofChange wireCertsWrong)

/-- 'sheaveslaw.SealAdds': WHATEVER THE INPUT: true; the input reads as it did. -/
def sealAddsSpec : ChangeSpec := { name := "sealAdds", fn := fun _ => fun
  | [d1, d2] => { results := [.lit (.bool true)], args := [d1, d2] }
  | _ => none }
def sealAddsRow : OpenClaim := { program := "ytelfbgfggkhpjaa", sum := "7d9bbbc51fbf48eb91b15aff0b1584f9a086a24a8072d0feb51801041839a15b", func := "sheaves/sheaveslaw.SealAdds", spec := "sealAdds", unfollowed := true, recurses := true, apart := false }
def SealAddsSaid : Prop := sealAddsRow.holds Try.pinned (OpenSpec.ofChange sealAddsSpec)

/-- ITS FALSE NEIGHBOUR: 'it returns false'. Refute it at one input. -/
def sealAddsWrong : ChangeSpec := { name := "sealAdds", fn := fun _ => fun
  | [d1, d2] => { results := [.lit (.bool false)], args := [d1, d2] }
  | _ => none }
def SealAddsWrongFalsely : Prop := sealAddsRow.holds Try.pinned (OpenSpec.ofChange sealAddsWrong)

/-- 'sheaveslaw.WireChecks': WHATEVER THE INPUT: true; the input reads as it did. -/
def wireChecksSpec : ChangeSpec := { name := "wireChecks", fn := fun _ => fun
  | [d] => { results := [.lit (.bool true)], args := [d] }
  | _ => none }
def wireChecksRow : OpenClaim := { program := "ytelfbgfggkhpjaa", sum := "7d9bbbc51fbf48eb91b15aff0b1584f9a086a24a8072d0feb51801041839a15b", func := "sheaves/sheaveslaw.WireChecks", spec := "wireChecks", unfollowed := true, recurses := true, apart := false }
def WireChecksSaid : Prop := wireChecksRow.holds Try.pinned (OpenSpec.ofChange wireChecksSpec)

/-- ITS FALSE NEIGHBOUR: 'it returns false'. Refute it at one input. -/
def wireChecksWrong : ChangeSpec := { name := "wireChecks", fn := fun _ => fun
  | [d] => { results := [.lit (.bool false)], args := [d] }
  | _ => none }
def WireChecksWrongFalsely : Prop := wireChecksRow.holds Try.pinned (OpenSpec.ofChange wireChecksWrong)

/- THE SECOND FORM. 'bulk': how many values and letters a reading holds, each counted each time it is reached (what is shared counts as often as it is met; a slice's spare places count too). A statement '..UptoSaid' is the law's where the arguments, and the package variables that the reading takes, are together of bulk at most 1048576: NARROWER than '..Said'. Prove '..Said' where nothing that the law and all that it calls make is longer than what came in: it says more and counts as full. Else prove '..UptoSaid'. A law counts once. -/
mutual
def uptoBulk {H : Type} : DataW H → Nat
  | .lit (.string bytes) => bytes.length + 1
  | .lit _ => 1
  | .nil => 1
  | .ptr d => uptoBulk d + 1
  | .slice elems spare => uptoBulkAll elems + uptoBulkAll spare + 1
  | .agg parts => uptoBulkAll parts + 1
  | .iface _ d => uptoBulk d + 1
  | .map entries => uptoBulkEntries entries + 1
  | .held _ => 1
def uptoBulkAll {H : Type} : List (DataW H) → Nat
  | [] => 0
  | d :: r => uptoBulk d + uptoBulkAll r
def uptoBulkEntries {H : Type} : List (Lit × DataW H) → Nat
  | [] => 0
  | x :: r => uptoBulkEntry x + uptoBulkEntries r
def uptoBulkEntry {H : Type} : Lit × DataW H → Nat
  | (.string bytes, d) => bytes.length + uptoBulk d + 1
  | (_, d) => uptoBulk d + 1
 end
def uptoSmall : (H : Type) → List (DataW H) → Bool := fun _ ds => decide (uptoBulkAll ds ≤ 1048576)
def OpenSpec.upto (s : _root_.Go.ChangeSpec) : _root_.Go.OpenSpec := { _root_.Go.OpenSpec.ofChange s with cond := some uptoSmall }

/-- 'sheaveslaw.Names', WHERE WHAT IT READS IS OF BULK AT MOST 1048576: true; the input reads as it did. -/
def namesUptoRow : OpenClaim := { program := "ytelfbgfggkhpjaa", sum := "7d9bbbc51fbf48eb91b15aff0b1584f9a086a24a8072d0feb51801041839a15b", func := "sheaves/sheaveslaw.Names", spec := "names", apart := false, narrowed := true }
def NamesUptoSaid : Prop := namesUptoRow.holds Try.pinned (OpenSpec.upto namesSpec)

/-- 'sheaveslaw.PoolSeals', WHERE WHAT IT READS IS OF BULK AT MOST 1048576: true; the input reads as it did. -/
def poolSealsUptoRow : OpenClaim := { program := "ytelfbgfggkhpjaa", sum := "7d9bbbc51fbf48eb91b15aff0b1584f9a086a24a8072d0feb51801041839a15b", func := "sheaves/sheaveslaw.PoolSeals", spec := "poolSeals", apart := false, narrowed := true }
def PoolSealsUptoSaid : Prop := poolSealsUptoRow.holds Try.pinned (OpenSpec.upto poolSealsSpec)

/-- 'sheaveslaw.BallotVoted', WHERE WHAT IT READS IS OF BULK AT MOST 1048576: true; the input reads as it did. -/
def ballotVotedUptoRow : OpenClaim := { program := "ytelfbgfggkhpjaa", sum := "7d9bbbc51fbf48eb91b15aff0b1584f9a086a24a8072d0feb51801041839a15b", func := "sheaves/sheaveslaw.BallotVoted", spec := "ballotVoted", unfollowed := true, recurses := true, apart := false, narrowed := true }
def BallotVotedUptoSaid : Prop := ballotVotedUptoRow.holds Try.pinned (OpenSpec.upto ballotVotedSpec)

/-- 'sheaveslaw.SealSigned', WHERE WHAT IT READS IS OF BULK AT MOST 1048576: true; the input reads as it did. -/
def sealSignedUptoRow : OpenClaim := { program := "ytelfbgfggkhpjaa", sum := "7d9bbbc51fbf48eb91b15aff0b1584f9a086a24a8072d0feb51801041839a15b", func := "sheaves/sheaveslaw.SealSigned", spec := "sealSigned", unfollowed := true, recurses := true, apart := false, narrowed := true }
def SealSignedUptoSaid : Prop := sealSignedUptoRow.holds Try.pinned (OpenSpec.upto sealSignedSpec)

/-- 'sheaveslaw.WireCerts', WHERE WHAT IT READS IS OF BULK AT MOST 1048576: true; the input reads as it did. -/
def wireCertsUptoRow : OpenClaim := { program := "ytelfbgfggkhpjaa", sum := "7d9bbbc51fbf48eb91b15aff0b1584f9a086a24a8072d0feb51801041839a15b", func := "sheaves/sheaveslaw.WireCerts", spec := "wireCerts", unfollowed := true, recurses := true, apart := false, narrowed := true }
def WireCertsUptoSaid : Prop := wireCertsUptoRow.holds Try.pinned (OpenSpec.upto wireCertsSpec)

/-- 'sheaveslaw.SealAdds', WHERE WHAT IT READS IS OF BULK AT MOST 1048576: true; the input reads as it did. -/
def sealAddsUptoRow : OpenClaim := { program := "ytelfbgfggkhpjaa", sum := "7d9bbbc51fbf48eb91b15aff0b1584f9a086a24a8072d0feb51801041839a15b", func := "sheaves/sheaveslaw.SealAdds", spec := "sealAdds", unfollowed := true, recurses := true, apart := false, narrowed := true }
def SealAddsUptoSaid : Prop := sealAddsUptoRow.holds Try.pinned (OpenSpec.upto sealAddsSpec)

/-- 'sheaveslaw.WireChecks', WHERE WHAT IT READS IS OF BULK AT MOST 1048576: true; the input reads as it did. -/
def wireChecksUptoRow : OpenClaim := { program := "ytelfbgfggkhpjaa", sum := "7d9bbbc51fbf48eb91b15aff0b1584f9a086a24a8072d0feb51801041839a15b", func := "sheaves/sheaveslaw.WireChecks", spec := "wireChecks", unfollowed := true, recurses := true, apart := false, narrowed := true }
def WireChecksUptoSaid : Prop := wireChecksUptoRow.holds Try.pinned (OpenSpec.upto wireChecksSpec)

end Rows
end Go.Proofs.Ytelfbgfggkhpjaa
