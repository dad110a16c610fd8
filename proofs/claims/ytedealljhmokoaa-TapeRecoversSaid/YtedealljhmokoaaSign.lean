/- Signs: their copies, their faults, the search. -/
import Derived.Test.YtedealljhmokoaaBallot
import Derived.Test.YtedealljhmokoaaStr
namespace Go.Proofs.Ytedealljhmokoaa
open Go.ChangeShapes Go.WideShapes Go.ChangeAt Go.RowKit
set_option linter.unusedVariables false
structure Sign where
  node : Int
  slot : Slot
def RSign (h : View) (cs : List Value) (s : Sign) : Prop := ∃ d, cs = [.int .i64 s.node, .int .i64 s.slot.author, .int .i64 s.slot.round, d] ∧ RBytes h d s.slot.digest
theorem RSign.mono : Mono RSign := fun h h' cs x ⟨d, e, hd⟩ hle => ⟨d, e, hd.mono hle⟩
abbrev RSigns := RSl 4 RSign 48
theorem RSigns.at {h : View} {A : Option Addr} {n c : Nat} {xs : List Sign} (hr : RSigns h (.slice A n c) xs) : n = xs.length ∧ n ≤ c ∧ n * 48 ≤ 140737488355328 ∧ ∀ k (hk : k < xs.length), ∃ b o d, A = some ⟨b, o, none⟩ ∧ h ⟨b, o + k * 4, none⟩ = some (.int .i64 xs[k].node) ∧ h ⟨b, o + k * 4 + 1, none⟩ = some (.int .i64 xs[k].slot.author) ∧ h ⟨b, o + k * 4 + 2, none⟩ = some (.int .i64 xs[k].slot.round) ∧ h ⟨b, o + k * 4 + 3, none⟩ = some d ∧ RBytes h d xs[k].slot.digest := by
  obtain ⟨A', c', e, h1, _, h2, _, h3⟩ := hr
  injection e with e1 e2 e3
  subst e1 e2 e3
  refine ⟨rfl, h1, h2, fun k hk => ?_⟩
  obtain ⟨b, o, ea, hc⟩ := h3 (by omega)
  obtain ⟨cs, hl, hcell, d, rfl, hd⟩ := hc k hk
  exact ⟨b, o, d, ea, hcell 0 (by omega), hcell 1 (by omega), hcell 2 (by omega), hcell 3 (by omega), hd⟩
def signF (no au ro : Int) (n : Nat) : Int := if inB no 0 3 then slotF au ro n else 2
end Go.Proofs.Ytedealljhmokoaa
