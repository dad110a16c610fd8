/- The arguments of the laws, opened. -/
import Derived.Test.YtnjcboigphdjmaaCopy
namespace Go.Proofs.Ytnjcboigphdjmaa
open Go.ChangeShapes Go.WideShapes Go.ChangeAt Go.RowKit
set_option linter.unusedVariables false
theorem readables (ts : List TypeId) (h : (ts.all fun t => Try.prog.readableRec t && decide (t < Try.prog.types.size)) = true) : ∀ t ∈ ts, Try.prog.readableRec t = true ∧ t < Try.prog.types.size := by
  intro t ht
  have := List.all_eq_true.1 h t ht
  simpa using this
theorem laidOut : laidOutB Try.prog = true := by kernel_rfl
theorem own_ : ownKnob Try.prog.godebug = none := by kernel_rfl
theorem opens_i : OpensTo Try.prog 3 (fun _ cs (n : Int) => cs = [.int .i64 n] ∧ (Lit.int .i64 n).wf = true) := opens_int Try.underlying3
theorem opens_s : OpensTo Try.prog 9 (fun _ cs (s : ByteArray) => cs = [encS s] ∧ s.size ≤ reachBytes) := opens_str Try.underlying9
/-- a struct by value, its cells -/
theorem agg_of {P : Program} {w : World} {r : Reach} {b t : Nat} {fs : Array Field} {v : Value} {l : List Value} (hs : P.underlying t = some (.struct fs)) (hv : Value.okWide P w r b t v) (h : v.cells.toList = l) : v = .agg l.toArray := by
  obtain ⟨cs, rfl, _⟩ := okWide_struct hs hv
  congr 1
  apply Array.ext'
  simpa [Value.cells] using h
section
variable {H : Type} {enc : TypeId × Value → H} {W : World} {base : Nat} {v : Value} {d : DataW H} {p : List MemPlace}
set_option maxHeartbeats 1000000 in
set_option maxRecDepth 100000 in
theorem open_act (hval : Value.okWide Try.prog W .any base 23 v) (h : DataW.Trod enc Try.prog W 0 (fun _ => true) true 23 v d p) (hw : ∀ n ∈ DataW.weights Try.prog 23 d, n ≤ reachBytes) :
    ∃ (a b c : Int) (s : ByteArray), v = .agg #[.int .i64 a, .int .i64 b, .int .i64 c, .string s] ∧ s.size ≤ 140737488355328 := by
  obtain ⟨fuel, h⟩ := h
  obtain ⟨hl, hf⟩ := opens_fields Try.underlying23 h hw
  obtain ⟨a, ha, _⟩ := hf 0 3 0 1 rfl (by kernel_rfl) opens_i
  obtain ⟨b, hb, _⟩ := hf 1 3 1 1 rfl (by kernel_rfl) opens_i
  obtain ⟨c, hc, _⟩ := hf 2 3 2 1 rfl (by kernel_rfl) opens_i
  obtain ⟨s, hd, hs⟩ := hf 3 9 3 1 rfl (by kernel_rfl) opens_s
  have hl' : v.cells.toList.length = 4 := hl.trans (by kernel_rfl)
  match hcs : v.cells.toList, hl' with
  | [c0, c1, c2, c3], _ =>
    rw [hcs] at ha hb hc hd
    simp at ha hb hc hd
    subst ha hb hc hd
    exact ⟨a, b, c, s, agg_of Try.underlying23 hval hcs, reach_le hs⟩
end
end Go.Proofs.Ytnjcboigphdjmaa
