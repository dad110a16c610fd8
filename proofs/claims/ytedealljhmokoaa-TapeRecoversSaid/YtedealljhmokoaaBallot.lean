/- Tables of votes: the copy, the search, Check and TableFault. -/
import Derived.Test.YtedealljhmokoaaSlots
import Derived.Test.YtedealljhmokoaaSlotF
namespace Go.Proofs.Ytedealljhmokoaa
open Go.ChangeShapes Go.WideShapes Go.ChangeAt Go.RowKit
set_option linter.unusedVariables false
theorem RSlot.mono : Mono RSlot := fun h h' cs x ⟨d, e, hd⟩ hle => ⟨d, e, hd.mono hle⟩
abbrev RSlots := RSl 3 RSlot 40
abbrev OwnSlots := OwnSl 3 RSlot 30
theorem RSlots.at {h : View} {A : Option Addr} {n c : Nat} {xs : List Slot} (hr : RSlots h (.slice A n c) xs) : n = xs.length ∧ n ≤ c ∧ n * 40 ≤ 140737488355328 ∧ ∀ k (hk : k < xs.length), ∃ b o d, A = some ⟨b, o, none⟩ ∧ h ⟨b, o + k * 3, none⟩ = some (.int .i64 xs[k].author) ∧ h ⟨b, o + k * 3 + 1, none⟩ = some (.int .i64 xs[k].round) ∧ h ⟨b, o + k * 3 + 2, none⟩ = some d ∧ RBytes h d xs[k].digest := by
  obtain ⟨A', c', e, h1, _, h2, _, h3⟩ := hr
  injection e with e1 e2 e3
  subst e1 e2 e3
  refine ⟨rfl, h1, h2, fun k hk => ?_⟩
  obtain ⟨b, o, ea, hc⟩ := h3 (by omega)
  obtain ⟨cs, hl, hcell, d, rfl, hd⟩ := hc k hk
  exact ⟨b, o, d, ea, hcell 0 (by omega), hcell 1 (by omega), hcell 2 (by omega), hd⟩
end Go.Proofs.Ytedealljhmokoaa
