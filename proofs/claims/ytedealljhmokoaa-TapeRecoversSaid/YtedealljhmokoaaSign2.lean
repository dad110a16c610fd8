/- The search for a sign; Check and SignsFault answer one number. -/
import Derived.Test.YtedealljhmokoaaSign
namespace Go.Proofs.Ytedealljhmokoaa
open Go.ChangeShapes Go.WideShapes Go.ChangeAt Go.RowKit
set_option linter.unusedVariables false
def eqSign (x s : Sign) : Bool := x.node == s.node && (x.slot.author == s.slot.author && (x.slot.round == s.slot.round && x.slot.digest == s.slot.digest))
def hasSign (l : List Sign) (s : Sign) : Bool := l.any fun x => eqSign x s
theorem eqSign_1 {x s : Sign} (h : (x.node == s.node) = false) : eqSign x s = false := by simp [eqSign, h]
theorem eqSign_2 {x s : Sign} (h : (x.slot.author == s.slot.author) = false) : eqSign x s = false := by simp [eqSign, h]
theorem eqSign_3 {x s : Sign} (h : (x.slot.round == s.slot.round) = false) : eqSign x s = false := by simp [eqSign, h]
theorem eqSign_4 {x s : Sign} (h1 : (x.node == s.node) = true) (h2 : (x.slot.author == s.slot.author) = true) (h3 : (x.slot.round == s.slot.round) = true) : eqSign x s = (x.slot.digest == s.slot.digest) := by simp [eqSign, h1, h2, h3]
end Go.Proofs.Ytedealljhmokoaa
