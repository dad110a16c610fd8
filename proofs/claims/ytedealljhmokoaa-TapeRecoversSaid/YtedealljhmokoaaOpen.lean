/- The arguments of the laws, opened. -/
import Derived.Test.YtedealljhmokoaaCopy
namespace Go.Proofs.Ytedealljhmokoaa
open Go.ChangeShapes Go.WideShapes Go.ChangeAt Go.RowKit
set_option linter.unusedVariables false
theorem readables (ts : List TypeId) (h : (ts.all fun t => Try.prog.readableRec t && decide (t < Try.prog.types.size)) = true) : ∀ t ∈ ts, Try.prog.readableRec t = true ∧ t < Try.prog.types.size := by
  intro t ht
  have := List.all_eq_true.1 h t ht
  simpa using this
theorem laidOut : laidOutB Try.prog = true := by kernel_rfl
theorem own_ : ownKnob Try.prog.godebug = none := by kernel_rfl
theorem opens_i : OpensTo Try.prog 3 (fun _ cs (n : Int) => cs = [.int .i64 n] ∧ (Lit.int .i64 n).wf = true) := opens_int Try.underlying3
theorem opens_s : OpensTo Try.prog 9 (fun _ cs (s : ByteArray) => cs = [encS s] ∧ s.size ≤ reachBytes) := opens_str Try.underlying9
theorem opens_bytes : OpensTo Try.prog 28 (fun h cs (xs : List UInt8) => ∃ v, cs = [v] ∧ RBytes h v xs) := by
  have h5 : OpensTo Try.prog 5 (fun _ cs (b : UInt8) => cs = [encB b] ∧ True) := by
    intro H enc w fuel cs x h hw
    obtain ⟨n, rfl, hwf⟩ := opens_int (k := .u8) Try.underlying5 H enc w fuel cs x h hw
    have hn : 0 ≤ n ∧ n ≤ 255 := by simpa [Lit.wf, IntKind.min, IntKind.max, IntKind.signed, IntKind.bits] using hwf
    refine ⟨UInt8.ofNat n.toNat, ?_, trivial⟩
    simp only [encB]
    congr 2
    rw [UInt8.toNat_ofNat']
    omega
  intro H enc w fuel cs x h hw
  obtain ⟨xs, v, e, hr, _⟩ := opens_vec (R := fun _ => True) Try.underlying28 (by kernel_rfl) (bs := 1) (by kernel_rfl) h5 H enc w fuel cs x h hw
  exact ⟨xs, v, e, hr⟩
theorem opens_texts : OpensTo Try.prog 22 (fun h cs (xs : List ByteArray) => ∃ v, cs = [v] ∧ RTexts h v xs ∧ ∀ x ∈ xs, x.size ≤ reachBytes) :=
  opens_vec (R := fun s : ByteArray => s.size ≤ reachBytes) Try.underlying22 (by kernel_rfl) (by kernel_rfl) opens_s
/-- a struct by value, its cells -/
theorem agg_of {P : Program} {w : World} {r : Reach} {b t : Nat} {fs : Array Field} {v : Value} {l : List Value} (hs : P.underlying t = some (.struct fs)) (hv : Value.okWide P w r b t v) (h : v.cells.toList = l) : v = .agg l.toArray := by
  obtain ⟨cs, rfl, _⟩ := okWide_struct hs hv
  congr 1
  apply Array.ext'
  simpa [Value.cells] using h
section
variable {H : Type} {enc : TypeId × Value → H} {W : World} {base : Nat} {v : Value} {d : DataW H} {p : List MemPlace}
set_option maxHeartbeats 1000000 in
set_option maxRecDepth 100000 in
theorem open_tape (hval : Value.okWide Try.prog W .any base 44 v) (h : DataW.Trod enc Try.prog W 0 (fun _ => true) true 44 v d p) (hw : ∀ n ∈ DataW.weights Try.prog 44 d, n ≤ reachBytes) :
    ∃ (a : Int) (l : List UInt8) (x : Value), v = .agg #[x, .int .i64 a] ∧ RBytes W.cell? x l ∧ -9223372036854775808 ≤ a ∧ a ≤ 9223372036854775807 := by
  obtain ⟨fuel, h⟩ := h
  obtain ⟨hl, hf⟩ := opens_fields Try.underlying44 h hw
  obtain ⟨l, v', hd, hb⟩ := hf 0 28 0 1 rfl (by kernel_rfl) opens_bytes
  obtain ⟨a, ha, hwf⟩ := hf 1 3 1 1 rfl (by kernel_rfl) opens_i
  have hl' : v.cells.toList.length = 2 := hl.trans (by kernel_rfl)
  match hcs : v.cells.toList, hl' with
  | [c0, c1], _ =>
    rw [hcs] at ha hd
    simp at ha hd
    subst ha hd
    exact ⟨a, l, _, agg_of Try.underlying44 hval hcs, hb, by simpa [Lit.wf, IntKind.min, IntKind.max, IntKind.signed, IntKind.bits] using hwf⟩
end
end Go.Proofs.Ytedealljhmokoaa
