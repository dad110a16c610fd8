/- wire.Check, whole. -/
import Derived.Test.YtedealljhmokoaaMsgK0
import Derived.Test.YtedealljhmokoaaMsgK1
import Derived.Test.YtedealljhmokoaaMsgK2
import Derived.Test.YtedealljhmokoaaMsgK3
import Derived.Test.YtedealljhmokoaaMsgK4
import Derived.Test.YtedealljhmokoaaMsgK5
namespace Go.Proofs.Ytedealljhmokoaa
open Go.ChangeShapes Go.WideShapes Go.ChangeAt Go.RowKit
set_option linter.unusedVariables false
theorem check_any (m : Msg) (vt vb vp vd cb cp cv : Value) (w : World) (r : RMsg w.cell? m vt vb vp vd cb cp cv) (hs : ∀ s ∈ m.bat.txs, s.size ≤ 140737488355328) :
    Calls Try.prog 24 #[.agg (msgC m vt vb vp vd cb cp cv)] w fun e w' => e = .returned (.int .i64 (msgF m)) ∧ Below w.heap.size w w' := by
  by_cases hk : m.kind = 1 ∨ m.kind = 2 ∨ m.kind = 3 ∨ m.kind = 4 ∨ m.kind = 5
  · rcases hk with hk | hk | hk | hk | hk
    · exact check_1 m hk _ _ _ _ _ _ _ w r hs
    · exact check_2 m hk _ _ _ _ _ _ _ w r hs
    · exact check_3 m hk _ _ _ _ _ _ _ w r hs
    · exact check_4 m hk _ _ _ _ _ _ _ w r hs
    · exact check_5 m hk _ _ _ _ _ _ _ w r hs
  · exact check_0 m hk _ _ _ _ _ _ _ w r hs
end Go.Proofs.Ytedealljhmokoaa
