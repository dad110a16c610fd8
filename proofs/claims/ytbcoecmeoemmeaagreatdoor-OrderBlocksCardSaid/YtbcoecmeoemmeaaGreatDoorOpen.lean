/- The arguments of the laws, opened. -/
import Derived.Test.YtbcoecmeoemmeaaGreatDoorCopy
namespace Go.Proofs.YtbcoecmeoemmeaaGreatDoor
open Go.ChangeShapes Go.WideShapes Go.ChangeAt Go.RowKit
set_option linter.unusedVariables false
theorem readables (ts : List TypeId) (h : (ts.all fun t => Tryz.prog.readableRec t && decide (t < Tryz.prog.types.size)) = true) : ∀ t ∈ ts, Tryz.prog.readableRec t = true ∧ t < Tryz.prog.types.size := by
  intro t ht
  have := List.all_eq_true.1 h t ht
  simpa using this
theorem laidOut : laidOutB Tryz.prog = true := by kernel_rfl
theorem own_ : ownKnob Tryz.prog.godebug = none := by kernel_rfl
theorem opens_i : OpensTo Tryz.prog 3 (fun _ cs (n : Int) => cs = [.int .i64 n] ∧ (Lit.int .i64 n).wf = true) := opens_int Tryz.underlying3
theorem opens_s : OpensTo Tryz.prog 9 (fun _ cs (s : ByteArray) => cs = [encS s] ∧ s.size ≤ reachBytes) := opens_str Tryz.underlying9
theorem opens_bytes : OpensTo Tryz.prog 41 (fun h cs (xs : List UInt8) => ∃ v, cs = [v] ∧ RBytes h v xs) := by
  have h5 : OpensTo Tryz.prog 5 (fun _ cs (b : UInt8) => cs = [encB b] ∧ True) := by
    intro H enc w fuel cs x h hw
    obtain ⟨n, rfl, hwf⟩ := opens_int (k := .u8) Tryz.underlying5 H enc w fuel cs x h hw
    have hn : 0 ≤ n ∧ n ≤ 255 := by simpa [Lit.wf, IntKind.min, IntKind.max, IntKind.signed, IntKind.bits] using hwf
    refine ⟨UInt8.ofNat n.toNat, ?_, trivial⟩
    simp only [encB]
    congr 2
    rw [UInt8.toNat_ofNat']
    omega
  intro H enc w fuel cs x h hw
  obtain ⟨xs, v, e, hr, _⟩ := opens_vec (R := fun _ => True) Tryz.underlying41 (by kernel_rfl) (bs := 1) (by kernel_rfl) h5 H enc w fuel cs x h hw
  exact ⟨xs, v, e, hr⟩
theorem opens_texts : OpensTo Tryz.prog 43 (fun h cs (xs : List ByteArray) => ∃ v, cs = [v] ∧ RTexts h v xs ∧ ∀ x ∈ xs, x.size ≤ reachBytes) :=
  opens_vec (R := fun s : ByteArray => s.size ≤ reachBytes) Tryz.underlying43 (by kernel_rfl) (by kernel_rfl) opens_s
/-- a struct by value, its cells -/
theorem agg_of {P : Program} {w : World} {r : Reach} {b t : Nat} {fs : Array Field} {v : Value} {l : List Value} (hs : P.underlying t = some (.struct fs)) (hv : Value.okWide P w r b t v) (h : v.cells.toList = l) : v = .agg l.toArray := by
  obtain ⟨cs, rfl, _⟩ := okWide_struct hs hv
  congr 1
  apply Array.ext'
  simpa [Value.cells] using h
section
variable {H : Type} {enc : TypeId × Value → H} {W : World} {base : Nat} {v : Value} {d : DataW H} {p : List MemPlace}
set_option maxHeartbeats 1000000 in
set_option maxRecDepth 100000 in
theorem open_pool (hval : Value.okWide Tryz.prog W .any base 94 v) (h : DataW.Trod enc Tryz.prog W 0 (fun _ => true) true 94 v d p) (hw : ∀ n ∈ DataW.weights Tryz.prog 94 d, n ≤ reachBytes) :
    ∃ (a : Int) (l : List ByteArray) (x : Value), v = .agg #[.int .i64 a, x] ∧ RTexts W.cell? x l ∧ ∀ s ∈ l, s.size ≤ 140737488355328 := by
  obtain ⟨fuel, h⟩ := h
  obtain ⟨hl, hf⟩ := opens_fields Tryz.underlying94 h hw
  obtain ⟨a, ha, _⟩ := hf 0 3 0 1 rfl (by kernel_rfl) opens_i
  obtain ⟨l, v', hd, hb, hs⟩ := hf 1 43 1 1 rfl (by kernel_rfl) opens_texts
  have hl' : v.cells.toList.length = 2 := hl.trans (by kernel_rfl)
  match hcs : v.cells.toList, hl' with
  | [c0, c1], _ =>
    rw [hcs] at ha hd
    simp at ha hd
    subst ha hd
    exact ⟨a, l, _, agg_of Tryz.underlying94 hval hcs, hb, fun s hs' => reach_le (hs s hs')⟩
set_option maxHeartbeats 1000000 in
set_option maxRecDepth 100000 in
theorem open_tape (hval : Value.okWide Tryz.prog W .any base 97 v) (h : DataW.Trod enc Tryz.prog W 0 (fun _ => true) true 97 v d p) (hw : ∀ n ∈ DataW.weights Tryz.prog 97 d, n ≤ reachBytes) :
    ∃ (a : Int) (l : List UInt8) (x : Value), v = .agg #[x, .int .i64 a] ∧ RBytes W.cell? x l ∧ -9223372036854775808 ≤ a ∧ a ≤ 9223372036854775807 := by
  obtain ⟨fuel, h⟩ := h
  obtain ⟨hl, hf⟩ := opens_fields Tryz.underlying97 h hw
  obtain ⟨l, v', hd, hb⟩ := hf 0 41 0 1 rfl (by kernel_rfl) opens_bytes
  obtain ⟨a, ha, hwf⟩ := hf 1 3 1 1 rfl (by kernel_rfl) opens_i
  have hl' : v.cells.toList.length = 2 := hl.trans (by kernel_rfl)
  match hcs : v.cells.toList, hl' with
  | [c0, c1], _ =>
    rw [hcs] at ha hd
    simp at ha hd
    subst ha hd
    exact ⟨a, l, _, agg_of Tryz.underlying97 hval hcs, hb, by simpa [Lit.wf, IntKind.min, IntKind.max, IntKind.signed, IntKind.bits] using hwf⟩
set_option maxHeartbeats 1000000 in
set_option maxRecDepth 100000 in
theorem open_act (hval : Value.okWide Tryz.prog W .any base 56 v) (h : DataW.Trod enc Tryz.prog W 0 (fun _ => true) true 56 v d p) (hw : ∀ n ∈ DataW.weights Tryz.prog 56 d, n ≤ reachBytes) :
    ∃ (a b c : Int) (s : ByteArray), v = .agg #[.int .i64 a, .int .i64 b, .int .i64 c, .string s] ∧ s.size ≤ 140737488355328 := by
  obtain ⟨fuel, h⟩ := h
  obtain ⟨hl, hf⟩ := opens_fields Tryz.underlying56 h hw
  obtain ⟨a, ha, _⟩ := hf 0 3 0 1 rfl (by kernel_rfl) opens_i
  obtain ⟨b, hb, _⟩ := hf 1 3 1 1 rfl (by kernel_rfl) opens_i
  obtain ⟨c, hc, _⟩ := hf 2 3 2 1 rfl (by kernel_rfl) opens_i
  obtain ⟨s, hd, hs⟩ := hf 3 9 3 1 rfl (by kernel_rfl) opens_s
  have hl' : v.cells.toList.length = 4 := hl.trans (by kernel_rfl)
  match hcs : v.cells.toList, hl' with
  | [c0, c1, c2, c3], _ =>
    rw [hcs] at ha hb hc hd
    simp at ha hb hc hd
    subst ha hb hc hd
    exact ⟨a, b, c, s, agg_of Tryz.underlying56 hval hcs, reach_le hs⟩
end
end Go.Proofs.YtbcoecmeoemmeaaGreatDoor
