/- What is left of a message without its kind's part. -/
import Derived.Test.YtedealljhmokoaaMsg4
import Derived.Test.YtedealljhmokoaaSealAdd
namespace Go.Proofs.Ytedealljhmokoaa
open Go.ChangeShapes Go.WideShapes Go.ChangeAt Go.RowKit
set_option linter.unusedVariables false
set_option linter.unusedSimpArgs false
def restM (m : Msg) : Msg :=
  if m.kind = 1 then { m with bat := ⟨0, 0, []⟩ } else if m.kind = 2 then { m with hdr := ⟨0, 0, [], []⟩ } else if m.kind = 3 then { m with slt := ⟨0, 0, []⟩ }
  else if m.kind = 4 then { m with crt := ⟨⟨0, 0, [], []⟩, []⟩ } else { m with round := 0 }
theorem none_rest (m : Msg) (h : m.kind = 1 ∨ m.kind = 2 ∨ m.kind = 3 ∨ m.kind = 4 ∨ m.kind = 5) : noneM (restM m) = !extra m := by
  unfold noneM extra restM
  rcases h with h | h | h | h | h <;> simp [h, batSome, sltSome, crtSome, hdrNone] <;> (try simp only [Bool.and_assoc])
theorem vle_but_new2 {w W : World} (hb : Below w.heap.size w W) : VLe w.cell? (View.but W.cell? (some w.heap.size)) := vle_below_but hb (Nat.le_refl _)
end Go.Proofs.Ytedealljhmokoaa
