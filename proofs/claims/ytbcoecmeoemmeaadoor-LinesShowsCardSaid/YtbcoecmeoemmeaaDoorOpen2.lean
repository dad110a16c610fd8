/- Arguments of one cell, opened. -/
import Derived.Test.YtbcoecmeoemmeaaDoorOpen
namespace Go.Proofs.YtbcoecmeoemmeaaDoor
open Go.ChangeShapes Go.WideShapes Go.ChangeAt Go.RowKit
set_option linter.unusedVariables false
theorem open_int {P : Program} {H : Type} {enc : TypeId × Value → H} {W : World} {t : TypeId} {k : IntKind} {base : Nat} {v : Value} {d : DataW H} {p : List MemPlace} (ht : P.underlying t = some (.int k)) (hval : Value.okWide P W .any base t v)
    (h : DataW.Trod enc P W 0 (fun _ => true) true t v d p) (hw : ∀ n ∈ DataW.weights P t d, n ≤ reachBytes) : ∃ n, v = .int k n ∧ (Lit.int k n).wf = true := by
  obtain ⟨fuel, h⟩ := h
  obtain ⟨n, hc, hwf⟩ := opens_int ht H enc W fuel _ _ h hw
  obtain ⟨m, rfl⟩ := okWide_int ht hval
  obtain rfl : m = n := by simpa [Value.cells] using hc
  exact ⟨m, rfl, hwf⟩
theorem open_str {P : Program} {H : Type} {enc : TypeId × Value → H} {W : World} {t : TypeId} {base : Nat} {v : Value} {d : DataW H} {p : List MemPlace} (ht : P.underlying t = some .string) (hval : Value.okWide P W .any base t v)
    (h : DataW.Trod enc P W 0 (fun _ => true) true t v d p) (hw : ∀ n ∈ DataW.weights P t d, n ≤ reachBytes) : ∃ s, v = .string s ∧ s.size ≤ 140737488355328 := by
  obtain ⟨fuel, h⟩ := h
  obtain ⟨n, hc, hwf⟩ := opens_str ht H enc W fuel _ _ h hw
  obtain ⟨m, rfl⟩ := okWide_string ht hval
  obtain rfl : m = n := by simpa [Value.cells] using hc
  exact ⟨m, rfl, reach_le hwf⟩
end Go.Proofs.YtbcoecmeoemmeaaDoor
