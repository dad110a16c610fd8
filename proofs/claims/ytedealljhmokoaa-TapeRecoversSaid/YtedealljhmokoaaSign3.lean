/- seal.Check and SignsFault answer one number; the law SealChecks. -/
import Derived.Test.YtedealljhmokoaaSign2
namespace Go.Proofs.Ytedealljhmokoaa
open Go.ChangeShapes Go.WideShapes Go.ChangeAt Go.RowKit
set_option linter.unusedVariables false
def badSign (l : List Sign) (i : Nat) : Bool := match l[i]? with | some s => signF s.node s.slot.author s.slot.round s.slot.digest.length != 0 || hasSign (l.take i) s | none => false
def signsF (l : List Sign) : Int := if (List.range l.length).any (badSign l) then 12 else 0
theorem badSign_at {l : List Sign} {k : Nat} (hk : k < l.length) : badSign l k = (signF l[k].node l[k].slot.author l[k].slot.round l[k].slot.digest.length != 0 || hasSign (l.take k) l[k]) := by
  unfold badSign; rw [List.getElem?_eq_getElem hk]
end Go.Proofs.Ytedealljhmokoaa
