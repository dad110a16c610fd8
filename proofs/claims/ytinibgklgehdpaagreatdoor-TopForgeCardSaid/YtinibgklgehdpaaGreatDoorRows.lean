/-
  NARROWER THAN 'FOR EVERY INPUT', by the rows' own cells (each row's printed sentence says how): TopSingle: laid · TopFaces: laid · TopSound: laid · TopKept: laid · TopTwice: laid · TopVotes: laid · TopGrows: laid · TopCopies: laid · TopDown: laid · TopForge: laid.
  DERIVED. THE GIVEN ROWS OF THIS SEAT. 10 by the template 'for every input the law returns true; each argument reads behind the call as it read before'; 0 by the template 'total and deterministic' (their statements: YtinibgklgehdpaaGreatDoorTotals.lean).
  GIVEN WITH THE SEED: the statements are not yours to turn. If you find one false, say at which input.
  Laid BY PROGRAM, IN A SANDBOX (cutbox-rows.mjs): the forced cells as the released guide's own fill.sh prints them over the translation ceab0695bce64c81… (all of the seat's roots in one cut). By AI agents, Wed Nov 11 2026. No macro, syntax, notation, axiom, sorry.
-/
import Derived.Test.YtinibgklgehdpaaGreatDoorChecked
import GoSem.Claim
import GoSem.ClaimJoined
import GoSem.ClaimMapViews
import Derived.JoinedTies
import Derived.KernelRfl
namespace Go.Proofs.YtinibgklgehdpaaGreatDoor
/- THE CELL 'sum', in the pinned program and in every row, IS THE sha256 OF THE DUMP (.gsa) THAT YtinibgklgehdpaaGreatDoorProg.lean LOADS. Nothing in Lean hashes anything: it is a label: what it is worth is what the hold of that sum in a sandbox is worth. -/
noncomputable def Tryz.pinned : Pinned := { name := "ytinibgklgehdpaagreatdoor", sum := "ceab0695bce64c819110ab0f489f1bb971b9f7405673f916f0627a77b3c375a4", checked := Tryz.checked }
namespace Rows
def none {H : Type} : Left H := { results := [], args := [] }

/- WHAT THE LISTED PACKAGE-LEVEL VARIABLES READ AS WHEN THE CALL BEGINS. Each datum BY PROGRAM (the guide's laid-datum.mjs) off the statement by which the dump's own 'gosem.cut.vars' lays the variable. In a bare row this is a premise. The card (YtinibgklgehdpaaGreatDoorCards.lean) ties it to the program's text. -/
def laid_sheaves_blake_first {H : Type} : DataW H := .agg [.lit (.int .u32 1779033703), .lit (.int .u32 3144134277), .lit (.int .u32 1013904242), .lit (.int .u32 2773480762), .lit (.int .u32 1359893119), .lit (.int .u32 2600822924), .lit (.int .u32 528734635), .lit (.int .u32 1541459225)]
def laid_sheaves_blake_order {H : Type} : DataW H := .agg [.agg [.lit (.int .i64 0), .lit (.int .i64 1), .lit (.int .i64 2), .lit (.int .i64 3), .lit (.int .i64 4), .lit (.int .i64 5), .lit (.int .i64 6), .lit (.int .i64 7), .lit (.int .i64 8), .lit (.int .i64 9), .lit (.int .i64 10), .lit (.int .i64 11), .lit (.int .i64 12), .lit (.int .i64 13), .lit (.int .i64 14), .lit (.int .i64 15)], .agg [.lit (.int .i64 14), .lit (.int .i64 10), .lit (.int .i64 4), .lit (.int .i64 8), .lit (.int .i64 9), .lit (.int .i64 15), .lit (.int .i64 13), .lit (.int .i64 6), .lit (.int .i64 1), .lit (.int .i64 12), .lit (.int .i64 0), .lit (.int .i64 2), .lit (.int .i64 11), .lit (.int .i64 7), .lit (.int .i64 5), .lit (.int .i64 3)], .agg [.lit (.int .i64 11), .lit (.int .i64 8), .lit (.int .i64 12), .lit (.int .i64 0), .lit (.int .i64 5), .lit (.int .i64 2), .lit (.int .i64 15), .lit (.int .i64 13), .lit (.int .i64 10), .lit (.int .i64 14), .lit (.int .i64 3), .lit (.int .i64 6), .lit (.int .i64 7), .lit (.int .i64 1), .lit (.int .i64 9), .lit (.int .i64 4)], .agg [.lit (.int .i64 7), .lit (.int .i64 9), .lit (.int .i64 3), .lit (.int .i64 1), .lit (.int .i64 13), .lit (.int .i64 12), .lit (.int .i64 11), .lit (.int .i64 14), .lit (.int .i64 2), .lit (.int .i64 6), .lit (.int .i64 5), .lit (.int .i64 10), .lit (.int .i64 4), .lit (.int .i64 0), .lit (.int .i64 15), .lit (.int .i64 8)], .agg [.lit (.int .i64 9), .lit (.int .i64 0), .lit (.int .i64 5), .lit (.int .i64 7), .lit (.int .i64 2), .lit (.int .i64 4), .lit (.int .i64 10), .lit (.int .i64 15), .lit (.int .i64 14), .lit (.int .i64 1), .lit (.int .i64 11), .lit (.int .i64 12), .lit (.int .i64 6), .lit (.int .i64 8), .lit (.int .i64 3), .lit (.int .i64 13)], .agg [.lit (.int .i64 2), .lit (.int .i64 12), .lit (.int .i64 6), .lit (.int .i64 10), .lit (.int .i64 0), .lit (.int .i64 11), .lit (.int .i64 8), .lit (.int .i64 3), .lit (.int .i64 4), .lit (.int .i64 13), .lit (.int .i64 7), .lit (.int .i64 5), .lit (.int .i64 15), .lit (.int .i64 14), .lit (.int .i64 1), .lit (.int .i64 9)], .agg [.lit (.int .i64 12), .lit (.int .i64 5), .lit (.int .i64 1), .lit (.int .i64 15), .lit (.int .i64 14), .lit (.int .i64 13), .lit (.int .i64 4), .lit (.int .i64 10), .lit (.int .i64 0), .lit (.int .i64 7), .lit (.int .i64 6), .lit (.int .i64 3), .lit (.int .i64 9), .lit (.int .i64 2), .lit (.int .i64 8), .lit (.int .i64 11)], .agg [.lit (.int .i64 13), .lit (.int .i64 11), .lit (.int .i64 7), .lit (.int .i64 14), .lit (.int .i64 12), .lit (.int .i64 1), .lit (.int .i64 3), .lit (.int .i64 9), .lit (.int .i64 5), .lit (.int .i64 0), .lit (.int .i64 15), .lit (.int .i64 4), .lit (.int .i64 8), .lit (.int .i64 6), .lit (.int .i64 2), .lit (.int .i64 10)], .agg [.lit (.int .i64 6), .lit (.int .i64 15), .lit (.int .i64 14), .lit (.int .i64 9), .lit (.int .i64 11), .lit (.int .i64 3), .lit (.int .i64 0), .lit (.int .i64 8), .lit (.int .i64 12), .lit (.int .i64 2), .lit (.int .i64 13), .lit (.int .i64 7), .lit (.int .i64 1), .lit (.int .i64 4), .lit (.int .i64 10), .lit (.int .i64 5)], .agg [.lit (.int .i64 10), .lit (.int .i64 2), .lit (.int .i64 8), .lit (.int .i64 4), .lit (.int .i64 7), .lit (.int .i64 6), .lit (.int .i64 1), .lit (.int .i64 5), .lit (.int .i64 15), .lit (.int .i64 11), .lit (.int .i64 9), .lit (.int .i64 14), .lit (.int .i64 3), .lit (.int .i64 12), .lit (.int .i64 13), .lit (.int .i64 0)]]
def laid_sheaves_blake_lanes {H : Type} : DataW H := .agg [.agg [.lit (.int .i64 0), .lit (.int .i64 4), .lit (.int .i64 8), .lit (.int .i64 12)], .agg [.lit (.int .i64 1), .lit (.int .i64 5), .lit (.int .i64 9), .lit (.int .i64 13)], .agg [.lit (.int .i64 2), .lit (.int .i64 6), .lit (.int .i64 10), .lit (.int .i64 14)], .agg [.lit (.int .i64 3), .lit (.int .i64 7), .lit (.int .i64 11), .lit (.int .i64 15)], .agg [.lit (.int .i64 0), .lit (.int .i64 5), .lit (.int .i64 10), .lit (.int .i64 15)], .agg [.lit (.int .i64 1), .lit (.int .i64 6), .lit (.int .i64 11), .lit (.int .i64 12)], .agg [.lit (.int .i64 2), .lit (.int .i64 7), .lit (.int .i64 8), .lit (.int .i64 13)], .agg [.lit (.int .i64 3), .lit (.int .i64 4), .lit (.int .i64 9), .lit (.int .i64 14)]]

/-- 'sheavestop.TopSingle': WHATEVER THE INPUT: true; the input reads as it did. -/
def topSingleSpec : ChangeSpec := { name := "topSingle", fn := fun _ => fun
  | [d1, d2] => { results := [.lit (.bool true)], args := [d1, d2] }
  | _ => none }
def topSingleRow : OpenClaim := { program := "ytinibgklgehdpaagreatdoor", sum := "ceab0695bce64c819110ab0f489f1bb971b9f7405673f916f0627a77b3c375a4", func := "sheaves/sheavestop.TopSingle", spec := "topSingle", unfollowed := true, recurses := true, named := ["sheaves/blake.first", "sheaves/blake.order", "sheaves/blake.lanes"], apart := false, laid := [("sheaves/blake.first", laid_sheaves_blake_first), ("sheaves/blake.order", laid_sheaves_blake_order), ("sheaves/blake.lanes", laid_sheaves_blake_lanes)] }
def TopSingleSaid : Prop := topSingleRow.holds Tryz.pinned (OpenSpec.ofChange topSingleSpec)

/-- ITS FALSE NEIGHBOUR: 'it returns false'. Refute it at one input. -/
def topSingleWrong : ChangeSpec := { name := "topSingle", fn := fun _ => fun
  | [d1, d2] => { results := [.lit (.bool false)], args := [d1, d2] }
  | _ => none }
def TopSingleWrongFalsely : Prop := topSingleRow.holds Tryz.pinned (OpenSpec.ofChange topSingleWrong)

/-- 'sheavestop.TopFaces': WHATEVER THE INPUT: true; the input reads as it did. -/
def topFacesSpec : ChangeSpec := { name := "topFaces", fn := fun _ => fun
  | [d1, d2, d3] => { results := [.lit (.bool true)], args := [d1, d2, d3] }
  | _ => none }
def topFacesRow : OpenClaim := { program := "ytinibgklgehdpaagreatdoor", sum := "ceab0695bce64c819110ab0f489f1bb971b9f7405673f916f0627a77b3c375a4", func := "sheaves/sheavestop.TopFaces", spec := "topFaces", unfollowed := true, recurses := true, named := ["sheaves/blake.first", "sheaves/blake.order", "sheaves/blake.lanes"], apart := false, laid := [("sheaves/blake.first", laid_sheaves_blake_first), ("sheaves/blake.order", laid_sheaves_blake_order), ("sheaves/blake.lanes", laid_sheaves_blake_lanes)] }
def TopFacesSaid : Prop := topFacesRow.holds Tryz.pinned (OpenSpec.ofChange topFacesSpec)

/-- ITS FALSE NEIGHBOUR: 'it returns false'. Refute it at one input. -/
def topFacesWrong : ChangeSpec := { name := "topFaces", fn := fun _ => fun
  | [d1, d2, d3] => { results := [.lit (.bool false)], args := [d1, d2, d3] }
  | _ => none }
def TopFacesWrongFalsely : Prop := topFacesRow.holds Tryz.pinned (OpenSpec.ofChange topFacesWrong)

/-- 'sheavestop.TopSound': WHATEVER THE INPUT: true; the input reads as it did. -/
def topSoundSpec : ChangeSpec := { name := "topSound", fn := fun _ => fun
  | [d1, d2] => { results := [.lit (.bool true)], args := [d1, d2] }
  | _ => none }
def topSoundRow : OpenClaim := { program := "ytinibgklgehdpaagreatdoor", sum := "ceab0695bce64c819110ab0f489f1bb971b9f7405673f916f0627a77b3c375a4", func := "sheaves/sheavestop.TopSound", spec := "topSound", unfollowed := true, recurses := true, named := ["sheaves/blake.first", "sheaves/blake.order", "sheaves/blake.lanes"], apart := false, laid := [("sheaves/blake.first", laid_sheaves_blake_first), ("sheaves/blake.order", laid_sheaves_blake_order), ("sheaves/blake.lanes", laid_sheaves_blake_lanes)] }
def TopSoundSaid : Prop := topSoundRow.holds Tryz.pinned (OpenSpec.ofChange topSoundSpec)

/-- ITS FALSE NEIGHBOUR: 'it returns false'. Refute it at one input. -/
def topSoundWrong : ChangeSpec := { name := "topSound", fn := fun _ => fun
  | [d1, d2] => { results := [.lit (.bool false)], args := [d1, d2] }
  | _ => none }
def TopSoundWrongFalsely : Prop := topSoundRow.holds Tryz.pinned (OpenSpec.ofChange topSoundWrong)

/-- 'sheavestop.TopKept': WHATEVER THE INPUT: true; the input reads as it did. -/
def topKeptSpec : ChangeSpec := { name := "topKept", fn := fun _ => fun
  | [d1, d2, d3] => { results := [.lit (.bool true)], args := [d1, d2, d3] }
  | _ => none }
def topKeptRow : OpenClaim := { program := "ytinibgklgehdpaagreatdoor", sum := "ceab0695bce64c819110ab0f489f1bb971b9f7405673f916f0627a77b3c375a4", func := "sheaves/sheavestop.TopKept", spec := "topKept", unfollowed := true, recurses := true, named := ["sheaves/blake.first", "sheaves/blake.order", "sheaves/blake.lanes"], apart := false, laid := [("sheaves/blake.first", laid_sheaves_blake_first), ("sheaves/blake.order", laid_sheaves_blake_order), ("sheaves/blake.lanes", laid_sheaves_blake_lanes)] }
def TopKeptSaid : Prop := topKeptRow.holds Tryz.pinned (OpenSpec.ofChange topKeptSpec)

/-- ITS FALSE NEIGHBOUR: 'it returns false'. Refute it at one input. -/
def topKeptWrong : ChangeSpec := { name := "topKept", fn := fun _ => fun
  | [d1, d2, d3] => { results := [.lit (.bool false)], args := [d1, d2, d3] }
  | _ => none }
def TopKeptWrongFalsely : Prop := topKeptRow.holds Tryz.pinned (OpenSpec.ofChange topKeptWrong)

/-- 'sheavestop.TopTwice': WHATEVER THE INPUT: true; the input reads as it did. -/
def topTwiceSpec : ChangeSpec := { name := "topTwice", fn := fun _ => fun
  | [d1, d2, d3, d4, d5] => { results := [.lit (.bool true)], args := [d1, d2, d3, d4, d5] }
  | _ => none }
def topTwiceRow : OpenClaim := { program := "ytinibgklgehdpaagreatdoor", sum := "ceab0695bce64c819110ab0f489f1bb971b9f7405673f916f0627a77b3c375a4", func := "sheaves/sheavestop.TopTwice", spec := "topTwice", unfollowed := true, recurses := true, named := ["sheaves/blake.first", "sheaves/blake.order", "sheaves/blake.lanes"], apart := false, laid := [("sheaves/blake.first", laid_sheaves_blake_first), ("sheaves/blake.order", laid_sheaves_blake_order), ("sheaves/blake.lanes", laid_sheaves_blake_lanes)] }
def TopTwiceSaid : Prop := topTwiceRow.holds Tryz.pinned (OpenSpec.ofChange topTwiceSpec)

/-- ITS FALSE NEIGHBOUR: 'it returns false'. Refute it at one input. -/
def topTwiceWrong : ChangeSpec := { name := "topTwice", fn := fun _ => fun
  | [d1, d2, d3, d4, d5] => { results := [.lit (.bool false)], args := [d1, d2, d3, d4, d5] }
  | _ => none }
def TopTwiceWrongFalsely : Prop := topTwiceRow.holds Tryz.pinned (OpenSpec.ofChange topTwiceWrong)

/-- 'sheavestop.TopVotes': WHATEVER THE INPUT: true; the input reads as it did. -/
def topVotesSpec : ChangeSpec := { name := "topVotes", fn := fun _ => fun
  | [d1, d2] => { results := [.lit (.bool true)], args := [d1, d2] }
  | _ => none }
def topVotesRow : OpenClaim := { program := "ytinibgklgehdpaagreatdoor", sum := "ceab0695bce64c819110ab0f489f1bb971b9f7405673f916f0627a77b3c375a4", func := "sheaves/sheavestop.TopVotes", spec := "topVotes", unfollowed := true, recurses := true, named := ["sheaves/blake.first", "sheaves/blake.order", "sheaves/blake.lanes"], apart := false, laid := [("sheaves/blake.first", laid_sheaves_blake_first), ("sheaves/blake.order", laid_sheaves_blake_order), ("sheaves/blake.lanes", laid_sheaves_blake_lanes)] }
def TopVotesSaid : Prop := topVotesRow.holds Tryz.pinned (OpenSpec.ofChange topVotesSpec)

/-- ITS FALSE NEIGHBOUR: 'it returns false'. Refute it at one input. -/
def topVotesWrong : ChangeSpec := { name := "topVotes", fn := fun _ => fun
  | [d1, d2] => { results := [.lit (.bool false)], args := [d1, d2] }
  | _ => none }
def TopVotesWrongFalsely : Prop := topVotesRow.holds Tryz.pinned (OpenSpec.ofChange topVotesWrong)

/-- 'sheavestop.TopGrows': WHATEVER THE INPUT: true; the input reads as it did. -/
def topGrowsSpec : ChangeSpec := { name := "topGrows", fn := fun _ => fun
  | [d1, d2, d3] => { results := [.lit (.bool true)], args := [d1, d2, d3] }
  | _ => none }
def topGrowsRow : OpenClaim := { program := "ytinibgklgehdpaagreatdoor", sum := "ceab0695bce64c819110ab0f489f1bb971b9f7405673f916f0627a77b3c375a4", func := "sheaves/sheavestop.TopGrows", spec := "topGrows", unfollowed := true, recurses := true, named := ["sheaves/blake.first", "sheaves/blake.order", "sheaves/blake.lanes"], apart := false, laid := [("sheaves/blake.first", laid_sheaves_blake_first), ("sheaves/blake.order", laid_sheaves_blake_order), ("sheaves/blake.lanes", laid_sheaves_blake_lanes)] }
def TopGrowsSaid : Prop := topGrowsRow.holds Tryz.pinned (OpenSpec.ofChange topGrowsSpec)

/-- ITS FALSE NEIGHBOUR: 'it returns false'. Refute it at one input. -/
def topGrowsWrong : ChangeSpec := { name := "topGrows", fn := fun _ => fun
  | [d1, d2, d3] => { results := [.lit (.bool false)], args := [d1, d2, d3] }
  | _ => none }
def TopGrowsWrongFalsely : Prop := topGrowsRow.holds Tryz.pinned (OpenSpec.ofChange topGrowsWrong)

/-- 'sheavestop.TopCopies': WHATEVER THE INPUT: true; the input reads as it did. -/
def topCopiesSpec : ChangeSpec := { name := "topCopies", fn := fun _ => fun
  | [d1, d2, d3] => { results := [.lit (.bool true)], args := [d1, d2, d3] }
  | _ => none }
def topCopiesRow : OpenClaim := { program := "ytinibgklgehdpaagreatdoor", sum := "ceab0695bce64c819110ab0f489f1bb971b9f7405673f916f0627a77b3c375a4", func := "sheaves/sheavestop.TopCopies", spec := "topCopies", unfollowed := true, recurses := true, named := ["sheaves/blake.first", "sheaves/blake.order", "sheaves/blake.lanes"], apart := false, laid := [("sheaves/blake.first", laid_sheaves_blake_first), ("sheaves/blake.order", laid_sheaves_blake_order), ("sheaves/blake.lanes", laid_sheaves_blake_lanes)] }
def TopCopiesSaid : Prop := topCopiesRow.holds Tryz.pinned (OpenSpec.ofChange topCopiesSpec)

/-- ITS FALSE NEIGHBOUR: 'it returns false'. Refute it at one input. -/
def topCopiesWrong : ChangeSpec := { name := "topCopies", fn := fun _ => fun
  | [d1, d2, d3] => { results := [.lit (.bool false)], args := [d1, d2, d3] }
  | _ => none }
def TopCopiesWrongFalsely : Prop := topCopiesRow.holds Tryz.pinned (OpenSpec.ofChange topCopiesWrong)

/-- 'sheavestop.TopDown': WHATEVER THE INPUT: true; the input reads as it did. -/
def topDownSpec : ChangeSpec := { name := "topDown", fn := fun _ => fun
  | [d1, d2, d3, d4] => { results := [.lit (.bool true)], args := [d1, d2, d3, d4] }
  | _ => none }
def topDownRow : OpenClaim := { program := "ytinibgklgehdpaagreatdoor", sum := "ceab0695bce64c819110ab0f489f1bb971b9f7405673f916f0627a77b3c375a4", func := "sheaves/sheavestop.TopDown", spec := "topDown", unfollowed := true, recurses := true, named := ["sheaves/blake.first", "sheaves/blake.order", "sheaves/blake.lanes"], apart := false, laid := [("sheaves/blake.first", laid_sheaves_blake_first), ("sheaves/blake.order", laid_sheaves_blake_order), ("sheaves/blake.lanes", laid_sheaves_blake_lanes)] }
def TopDownSaid : Prop := topDownRow.holds Tryz.pinned (OpenSpec.ofChange topDownSpec)

/-- ITS FALSE NEIGHBOUR: 'it returns false'. Refute it at one input. -/
def topDownWrong : ChangeSpec := { name := "topDown", fn := fun _ => fun
  | [d1, d2, d3, d4] => { results := [.lit (.bool false)], args := [d1, d2, d3, d4] }
  | _ => none }
def TopDownWrongFalsely : Prop := topDownRow.holds Tryz.pinned (OpenSpec.ofChange topDownWrong)

/-- 'sheavestop.TopForge': WHATEVER THE INPUT: true; the input reads as it did. -/
def topForgeSpec : ChangeSpec := { name := "topForge", fn := fun _ => fun
  | [d1, d2, d3, d4] => { results := [.lit (.bool true)], args := [d1, d2, d3, d4] }
  | _ => none }
def topForgeRow : OpenClaim := { program := "ytinibgklgehdpaagreatdoor", sum := "ceab0695bce64c819110ab0f489f1bb971b9f7405673f916f0627a77b3c375a4", func := "sheaves/sheavestop.TopForge", spec := "topForge", unfollowed := true, recurses := true, named := ["sheaves/blake.first", "sheaves/blake.order", "sheaves/blake.lanes"], apart := false, laid := [("sheaves/blake.first", laid_sheaves_blake_first), ("sheaves/blake.order", laid_sheaves_blake_order), ("sheaves/blake.lanes", laid_sheaves_blake_lanes)] }
def TopForgeSaid : Prop := topForgeRow.holds Tryz.pinned (OpenSpec.ofChange topForgeSpec)

/-- ITS FALSE NEIGHBOUR: 'it returns false'. Refute it at one input. -/
def topForgeWrong : ChangeSpec := { name := "topForge", fn := fun _ => fun
  | [d1, d2, d3, d4] => { results := [.lit (.bool false)], args := [d1, d2, d3, d4] }
  | _ => none }
def TopForgeWrongFalsely : Prop := topForgeRow.holds Tryz.pinned (OpenSpec.ofChange topForgeWrong)

/- THE SECOND FORM. 'bulk': how many values and letters a reading holds, each counted each time it is reached (what is shared counts as often as it is met; a slice's spare places count too). A statement '..UptoSaid' is the law's where the arguments, and the package variables that the reading takes, are together of bulk at most 1048576: NARROWER than '..Said'. Prove '..Said' where nothing that the law and all that it calls make is longer than what came in: it says more and counts as full. Else prove '..UptoSaid'. A law counts once. -/
mutual
def uptoBulk {H : Type} : DataW H → Nat
  | .lit (.string bytes) => bytes.length + 1
  | .lit _ => 1
  | .nil => 1
  | .ptr d => uptoBulk d + 1
  | .slice elems spare => uptoBulkAll elems + uptoBulkAll spare + 1
  | .agg parts => uptoBulkAll parts + 1
  | .iface _ d => uptoBulk d + 1
  | .map entries => uptoBulkEntries entries + 1
  | .held _ => 1
def uptoBulkAll {H : Type} : List (DataW H) → Nat
  | [] => 0
  | d :: r => uptoBulk d + uptoBulkAll r
def uptoBulkEntries {H : Type} : List (Lit × DataW H) → Nat
  | [] => 0
  | x :: r => uptoBulkEntry x + uptoBulkEntries r
def uptoBulkEntry {H : Type} : Lit × DataW H → Nat
  | (.string bytes, d) => bytes.length + uptoBulk d + 1
  | (_, d) => uptoBulk d + 1
 end
def uptoSmall : (H : Type) → List (DataW H) → Bool := fun _ ds => decide (uptoBulkAll ds ≤ 1048576)
def OpenSpec.upto (s : _root_.Go.ChangeSpec) : _root_.Go.OpenSpec := { _root_.Go.OpenSpec.ofChange s with cond := some uptoSmall }

/-- 'sheavestop.TopSingle', WHERE WHAT IT READS IS OF BULK AT MOST 1048576: true; the input reads as it did. -/
def topSingleUptoRow : OpenClaim := { program := "ytinibgklgehdpaagreatdoor", sum := "ceab0695bce64c819110ab0f489f1bb971b9f7405673f916f0627a77b3c375a4", func := "sheaves/sheavestop.TopSingle", spec := "topSingle", unfollowed := true, recurses := true, named := ["sheaves/blake.first", "sheaves/blake.order", "sheaves/blake.lanes"], apart := false, laid := [("sheaves/blake.first", laid_sheaves_blake_first), ("sheaves/blake.order", laid_sheaves_blake_order), ("sheaves/blake.lanes", laid_sheaves_blake_lanes)], narrowed := true }
def TopSingleUptoSaid : Prop := topSingleUptoRow.holds Tryz.pinned (OpenSpec.upto topSingleSpec)

/-- 'sheavestop.TopFaces', WHERE WHAT IT READS IS OF BULK AT MOST 1048576: true; the input reads as it did. -/
def topFacesUptoRow : OpenClaim := { program := "ytinibgklgehdpaagreatdoor", sum := "ceab0695bce64c819110ab0f489f1bb971b9f7405673f916f0627a77b3c375a4", func := "sheaves/sheavestop.TopFaces", spec := "topFaces", unfollowed := true, recurses := true, named := ["sheaves/blake.first", "sheaves/blake.order", "sheaves/blake.lanes"], apart := false, laid := [("sheaves/blake.first", laid_sheaves_blake_first), ("sheaves/blake.order", laid_sheaves_blake_order), ("sheaves/blake.lanes", laid_sheaves_blake_lanes)], narrowed := true }
def TopFacesUptoSaid : Prop := topFacesUptoRow.holds Tryz.pinned (OpenSpec.upto topFacesSpec)

/-- 'sheavestop.TopSound', WHERE WHAT IT READS IS OF BULK AT MOST 1048576: true; the input reads as it did. -/
def topSoundUptoRow : OpenClaim := { program := "ytinibgklgehdpaagreatdoor", sum := "ceab0695bce64c819110ab0f489f1bb971b9f7405673f916f0627a77b3c375a4", func := "sheaves/sheavestop.TopSound", spec := "topSound", unfollowed := true, recurses := true, named := ["sheaves/blake.first", "sheaves/blake.order", "sheaves/blake.lanes"], apart := false, laid := [("sheaves/blake.first", laid_sheaves_blake_first), ("sheaves/blake.order", laid_sheaves_blake_order), ("sheaves/blake.lanes", laid_sheaves_blake_lanes)], narrowed := true }
def TopSoundUptoSaid : Prop := topSoundUptoRow.holds Tryz.pinned (OpenSpec.upto topSoundSpec)

/-- 'sheavestop.TopKept', WHERE WHAT IT READS IS OF BULK AT MOST 1048576: true; the input reads as it did. -/
def topKeptUptoRow : OpenClaim := { program := "ytinibgklgehdpaagreatdoor", sum := "ceab0695bce64c819110ab0f489f1bb971b9f7405673f916f0627a77b3c375a4", func := "sheaves/sheavestop.TopKept", spec := "topKept", unfollowed := true, recurses := true, named := ["sheaves/blake.first", "sheaves/blake.order", "sheaves/blake.lanes"], apart := false, laid := [("sheaves/blake.first", laid_sheaves_blake_first), ("sheaves/blake.order", laid_sheaves_blake_order), ("sheaves/blake.lanes", laid_sheaves_blake_lanes)], narrowed := true }
def TopKeptUptoSaid : Prop := topKeptUptoRow.holds Tryz.pinned (OpenSpec.upto topKeptSpec)

/-- 'sheavestop.TopTwice', WHERE WHAT IT READS IS OF BULK AT MOST 1048576: true; the input reads as it did. -/
def topTwiceUptoRow : OpenClaim := { program := "ytinibgklgehdpaagreatdoor", sum := "ceab0695bce64c819110ab0f489f1bb971b9f7405673f916f0627a77b3c375a4", func := "sheaves/sheavestop.TopTwice", spec := "topTwice", unfollowed := true, recurses := true, named := ["sheaves/blake.first", "sheaves/blake.order", "sheaves/blake.lanes"], apart := false, laid := [("sheaves/blake.first", laid_sheaves_blake_first), ("sheaves/blake.order", laid_sheaves_blake_order), ("sheaves/blake.lanes", laid_sheaves_blake_lanes)], narrowed := true }
def TopTwiceUptoSaid : Prop := topTwiceUptoRow.holds Tryz.pinned (OpenSpec.upto topTwiceSpec)

/-- 'sheavestop.TopVotes', WHERE WHAT IT READS IS OF BULK AT MOST 1048576: true; the input reads as it did. -/
def topVotesUptoRow : OpenClaim := { program := "ytinibgklgehdpaagreatdoor", sum := "ceab0695bce64c819110ab0f489f1bb971b9f7405673f916f0627a77b3c375a4", func := "sheaves/sheavestop.TopVotes", spec := "topVotes", unfollowed := true, recurses := true, named := ["sheaves/blake.first", "sheaves/blake.order", "sheaves/blake.lanes"], apart := false, laid := [("sheaves/blake.first", laid_sheaves_blake_first), ("sheaves/blake.order", laid_sheaves_blake_order), ("sheaves/blake.lanes", laid_sheaves_blake_lanes)], narrowed := true }
def TopVotesUptoSaid : Prop := topVotesUptoRow.holds Tryz.pinned (OpenSpec.upto topVotesSpec)

/-- 'sheavestop.TopGrows', WHERE WHAT IT READS IS OF BULK AT MOST 1048576: true; the input reads as it did. -/
def topGrowsUptoRow : OpenClaim := { program := "ytinibgklgehdpaagreatdoor", sum := "ceab0695bce64c819110ab0f489f1bb971b9f7405673f916f0627a77b3c375a4", func := "sheaves/sheavestop.TopGrows", spec := "topGrows", unfollowed := true, recurses := true, named := ["sheaves/blake.first", "sheaves/blake.order", "sheaves/blake.lanes"], apart := false, laid := [("sheaves/blake.first", laid_sheaves_blake_first), ("sheaves/blake.order", laid_sheaves_blake_order), ("sheaves/blake.lanes", laid_sheaves_blake_lanes)], narrowed := true }
def TopGrowsUptoSaid : Prop := topGrowsUptoRow.holds Tryz.pinned (OpenSpec.upto topGrowsSpec)

/-- 'sheavestop.TopCopies', WHERE WHAT IT READS IS OF BULK AT MOST 1048576: true; the input reads as it did. -/
def topCopiesUptoRow : OpenClaim := { program := "ytinibgklgehdpaagreatdoor", sum := "ceab0695bce64c819110ab0f489f1bb971b9f7405673f916f0627a77b3c375a4", func := "sheaves/sheavestop.TopCopies", spec := "topCopies", unfollowed := true, recurses := true, named := ["sheaves/blake.first", "sheaves/blake.order", "sheaves/blake.lanes"], apart := false, laid := [("sheaves/blake.first", laid_sheaves_blake_first), ("sheaves/blake.order", laid_sheaves_blake_order), ("sheaves/blake.lanes", laid_sheaves_blake_lanes)], narrowed := true }
def TopCopiesUptoSaid : Prop := topCopiesUptoRow.holds Tryz.pinned (OpenSpec.upto topCopiesSpec)

/-- 'sheavestop.TopDown', WHERE WHAT IT READS IS OF BULK AT MOST 1048576: true; the input reads as it did. -/
def topDownUptoRow : OpenClaim := { program := "ytinibgklgehdpaagreatdoor", sum := "ceab0695bce64c819110ab0f489f1bb971b9f7405673f916f0627a77b3c375a4", func := "sheaves/sheavestop.TopDown", spec := "topDown", unfollowed := true, recurses := true, named := ["sheaves/blake.first", "sheaves/blake.order", "sheaves/blake.lanes"], apart := false, laid := [("sheaves/blake.first", laid_sheaves_blake_first), ("sheaves/blake.order", laid_sheaves_blake_order), ("sheaves/blake.lanes", laid_sheaves_blake_lanes)], narrowed := true }
def TopDownUptoSaid : Prop := topDownUptoRow.holds Tryz.pinned (OpenSpec.upto topDownSpec)

/-- 'sheavestop.TopForge', WHERE WHAT IT READS IS OF BULK AT MOST 1048576: true; the input reads as it did. -/
def topForgeUptoRow : OpenClaim := { program := "ytinibgklgehdpaagreatdoor", sum := "ceab0695bce64c819110ab0f489f1bb971b9f7405673f916f0627a77b3c375a4", func := "sheaves/sheavestop.TopForge", spec := "topForge", unfollowed := true, recurses := true, named := ["sheaves/blake.first", "sheaves/blake.order", "sheaves/blake.lanes"], apart := false, laid := [("sheaves/blake.first", laid_sheaves_blake_first), ("sheaves/blake.order", laid_sheaves_blake_order), ("sheaves/blake.lanes", laid_sheaves_blake_lanes)], narrowed := true }
def TopForgeUptoSaid : Prop := topForgeUptoRow.holds Tryz.pinned (OpenSpec.upto topForgeSpec)

end Rows
end Go.Proofs.YtinibgklgehdpaaGreatDoor
