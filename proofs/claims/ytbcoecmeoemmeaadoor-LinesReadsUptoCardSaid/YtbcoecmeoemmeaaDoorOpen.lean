/- The arguments of the laws, opened. -/
import Derived.Test.YtbcoecmeoemmeaaDoorCopy
namespace Go.Proofs.YtbcoecmeoemmeaaDoor
open Go.ChangeShapes Go.WideShapes Go.ChangeAt Go.RowKit
set_option linter.unusedVariables false
theorem readables (ts : List TypeId) (h : (ts.all fun t => Tryd.prog.readableRec t && decide (t < Tryd.prog.types.size)) = true) : ∀ t ∈ ts, Tryd.prog.readableRec t = true ∧ t < Tryd.prog.types.size := by
  intro t ht
  have := List.all_eq_true.1 h t ht
  simpa using this
theorem laidOut : laidOutB Tryd.prog = true := by kernel_rfl
theorem own_ : ownKnob Tryd.prog.godebug = none := by kernel_rfl
theorem opens_i : OpensTo Tryd.prog 3 (fun _ cs (n : Int) => cs = [.int .i64 n] ∧ (Lit.int .i64 n).wf = true) := opens_int Tryd.underlying3
theorem opens_s : OpensTo Tryd.prog 9 (fun _ cs (s : ByteArray) => cs = [encS s] ∧ s.size ≤ reachBytes) := opens_str Tryd.underlying9
theorem opens_bytes : OpensTo Tryd.prog 33 (fun h cs (xs : List UInt8) => ∃ v, cs = [v] ∧ RBytes h v xs) := by
  have h5 : OpensTo Tryd.prog 5 (fun _ cs (b : UInt8) => cs = [encB b] ∧ True) := by
    intro H enc w fuel cs x h hw
    obtain ⟨n, rfl, hwf⟩ := opens_int (k := .u8) Tryd.underlying5 H enc w fuel cs x h hw
    have hn : 0 ≤ n ∧ n ≤ 255 := by simpa [Lit.wf, IntKind.min, IntKind.max, IntKind.signed, IntKind.bits] using hwf
    refine ⟨UInt8.ofNat n.toNat, ?_, trivial⟩
    simp only [encB]
    congr 2
    rw [UInt8.toNat_ofNat']
    omega
  intro H enc w fuel cs x h hw
  obtain ⟨xs, v, e, hr, _⟩ := opens_vec (R := fun _ => True) Tryd.underlying33 (by kernel_rfl) (bs := 1) (by kernel_rfl) h5 H enc w fuel cs x h hw
  exact ⟨xs, v, e, hr⟩
theorem opens_texts : OpensTo Tryd.prog 60 (fun h cs (xs : List ByteArray) => ∃ v, cs = [v] ∧ RTexts h v xs ∧ ∀ x ∈ xs, x.size ≤ reachBytes) :=
  opens_vec (R := fun s : ByteArray => s.size ≤ reachBytes) Tryd.underlying60 (by kernel_rfl) (by kernel_rfl) opens_s
/-- a struct by value, its cells -/
theorem agg_of {P : Program} {w : World} {r : Reach} {b t : Nat} {fs : Array Field} {v : Value} {l : List Value} (hs : P.underlying t = some (.struct fs)) (hv : Value.okWide P w r b t v) (h : v.cells.toList = l) : v = .agg l.toArray := by
  obtain ⟨cs, rfl, _⟩ := okWide_struct hs hv
  congr 1
  apply Array.ext'
  simpa [Value.cells] using h
section
variable {H : Type} {enc : TypeId × Value → H} {W : World} {base : Nat} {v : Value} {d : DataW H} {p : List MemPlace}
set_option maxHeartbeats 1000000 in
set_option maxRecDepth 100000 in
theorem open_act (hval : Value.okWide Tryd.prog W .any base 37 v) (h : DataW.Trod enc Tryd.prog W 0 (fun _ => true) true 37 v d p) (hw : ∀ n ∈ DataW.weights Tryd.prog 37 d, n ≤ reachBytes) :
    ∃ (a b c : Int) (s : ByteArray), v = .agg #[.int .i64 a, .int .i64 b, .int .i64 c, .string s] ∧ s.size ≤ 140737488355328 := by
  obtain ⟨fuel, h⟩ := h
  obtain ⟨hl, hf⟩ := opens_fields Tryd.underlying37 h hw
  obtain ⟨a, ha, _⟩ := hf 0 3 0 1 rfl (by kernel_rfl) opens_i
  obtain ⟨b, hb, _⟩ := hf 1 3 1 1 rfl (by kernel_rfl) opens_i
  obtain ⟨c, hc, _⟩ := hf 2 3 2 1 rfl (by kernel_rfl) opens_i
  obtain ⟨s, hd, hs⟩ := hf 3 9 3 1 rfl (by kernel_rfl) opens_s
  have hl' : v.cells.toList.length = 4 := hl.trans (by kernel_rfl)
  match hcs : v.cells.toList, hl' with
  | [c0, c1, c2, c3], _ =>
    rw [hcs] at ha hb hc hd
    simp at ha hb hc hd
    subst ha hb hc hd
    exact ⟨a, b, c, s, agg_of Tryd.underlying37 hval hcs, reach_le hs⟩
end
end Go.Proofs.YtbcoecmeoemmeaaDoor
