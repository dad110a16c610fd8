/- Copies of slots. -/
import Derived.Test.YtedealljhmokoaaCopy
import Derived.Test.YtedealljhmokoaaOwn
namespace Go.Proofs.Ytedealljhmokoaa
open Go.ChangeShapes Go.WideShapes Go.ChangeAt Go.RowKit
set_option linter.unusedVariables false
structure Slot where
  author : Int
  round : Int
  digest : List UInt8
/-- the cells of a slot -/
def RSlot (h : View) (cs : List Value) (s : Slot) : Prop := ∃ d, cs = [.int .i64 s.author, .int .i64 s.round, d] ∧ RBytes h d s.digest

end Go.Proofs.Ytedealljhmokoaa
