/- The arguments of the laws, opened. -/
import Derived.Test.YtelfbgfggkhpjaaCopy
namespace Go.Proofs.Ytelfbgfggkhpjaa
open Go.ChangeShapes Go.WideShapes Go.ChangeAt Go.RowKit
set_option linter.unusedVariables false
theorem readables (ts : List TypeId) (h : (ts.all fun t => Try.prog.readableRec t && decide (t < Try.prog.types.size)) = true) : ∀ t ∈ ts, Try.prog.readableRec t = true ∧ t < Try.prog.types.size := by
  intro t ht
  have := List.all_eq_true.1 h t ht
  simpa using this
theorem laidOut : laidOutB Try.prog = true := by kernel_rfl
theorem own_ : ownKnob Try.prog.godebug = none := by kernel_rfl
theorem opens_i : OpensTo Try.prog 3 (fun _ cs (n : Int) => cs = [.int .i64 n] ∧ (Lit.int .i64 n).wf = true) := opens_int Try.underlying3
theorem opens_s : OpensTo Try.prog 9 (fun _ cs (s : ByteArray) => cs = [encS s] ∧ s.size ≤ reachBytes) := opens_str Try.underlying9
theorem opens_bytes : OpensTo Try.prog 38 (fun h cs (xs : List UInt8) => ∃ v, cs = [v] ∧ RBytes h v xs) := by
  have h5 : OpensTo Try.prog 5 (fun _ cs (b : UInt8) => cs = [encB b] ∧ True) := by
    intro H enc w fuel cs x h hw
    obtain ⟨n, rfl, hwf⟩ := opens_int (k := .u8) Try.underlying5 H enc w fuel cs x h hw
    have hn : 0 ≤ n ∧ n ≤ 255 := by simpa [Lit.wf, IntKind.min, IntKind.max, IntKind.signed, IntKind.bits] using hwf
    refine ⟨UInt8.ofNat n.toNat, ?_, trivial⟩
    simp only [encB]
    congr 2
    rw [UInt8.toNat_ofNat']
    omega
  intro H enc w fuel cs x h hw
  obtain ⟨xs, v, e, hr, _⟩ := opens_vec (R := fun _ => True) Try.underlying38 (by kernel_rfl) (bs := 1) (by kernel_rfl) h5 H enc w fuel cs x h hw
  exact ⟨xs, v, e, hr⟩
theorem opens_texts : OpensTo Try.prog 26 (fun h cs (xs : List ByteArray) => ∃ v, cs = [v] ∧ RTexts h v xs ∧ ∀ x ∈ xs, x.size ≤ reachBytes) :=
  opens_vec (R := fun s : ByteArray => s.size ≤ reachBytes) Try.underlying26 (by kernel_rfl) (by kernel_rfl) opens_s
/-- a struct by value, its cells -/
theorem agg_of {P : Program} {w : World} {r : Reach} {b t : Nat} {fs : Array Field} {v : Value} {l : List Value} (hs : P.underlying t = some (.struct fs)) (hv : Value.okWide P w r b t v) (h : v.cells.toList = l) : v = .agg l.toArray := by
  obtain ⟨cs, rfl, _⟩ := okWide_struct hs hv
  congr 1
  apply Array.ext'
  simpa [Value.cells] using h
section
variable {H : Type} {enc : TypeId × Value → H} {W : World} {base : Nat} {v : Value} {d : DataW H} {p : List MemPlace}
set_option maxHeartbeats 1000000 in
set_option maxRecDepth 100000 in
theorem open_pool (hval : Value.okWide Try.prog W .any base 28 v) (h : DataW.Trod enc Try.prog W 0 (fun _ => true) true 28 v d p) (hw : ∀ n ∈ DataW.weights Try.prog 28 d, n ≤ reachBytes) :
    ∃ (a : Int) (l : List ByteArray) (x : Value), v = .agg #[.int .i64 a, x] ∧ RTexts W.cell? x l ∧ ∀ s ∈ l, s.size ≤ 140737488355328 := by
  obtain ⟨fuel, h⟩ := h
  obtain ⟨hl, hf⟩ := opens_fields Try.underlying28 h hw
  obtain ⟨a, ha, _⟩ := hf 0 3 0 1 rfl (by kernel_rfl) opens_i
  obtain ⟨l, v', hd, hb, hs⟩ := hf 1 26 1 1 rfl (by kernel_rfl) opens_texts
  have hl' : v.cells.toList.length = 2 := hl.trans (by kernel_rfl)
  match hcs : v.cells.toList, hl' with
  | [c0, c1], _ =>
    rw [hcs] at ha hd
    simp at ha hd
    subst ha hd
    exact ⟨a, l, _, agg_of Try.underlying28 hval hcs, hb, fun s hs' => reach_le (hs s hs')⟩
end
end Go.Proofs.Ytelfbgfggkhpjaa
