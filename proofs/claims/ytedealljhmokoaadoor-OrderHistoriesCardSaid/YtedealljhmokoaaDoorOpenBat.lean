/- Batches as arguments. -/
import Derived.Test.YtedealljhmokoaaDoorOpen
namespace Go.Proofs.YtedealljhmokoaaDoor
open Go.ChangeShapes Go.WideShapes Go.ChangeAt Go.RowKit
set_option linter.unusedVariables false
structure Bat where
  author : Int
  number : Int
  txs : List ByteArray
set_option maxRecDepth 100000 in
theorem opens_bat : OpensTo Tryd.prog 24 (fun h cs (x : Bat) => ∃ v, cs = [.int .i64 x.author, .int .i64 x.number, v] ∧ RTexts h v x.txs ∧ ∀ s ∈ x.txs, s.size ≤ reachBytes) := by
  intro H enc w fuel cs x h hw
  obtain ⟨hl, hf⟩ := opens_fields Tryd.underlying24 h hw
  obtain ⟨a, ha, _⟩ := hf 0 3 0 1 rfl (by kernel_rfl) opens_i
  obtain ⟨r, hr, _⟩ := hf 1 3 1 1 rfl (by kernel_rfl) opens_i
  obtain ⟨b, vb, hvb, hb, hs⟩ := hf 2 22 2 1 rfl (by kernel_rfl) opens_texts
  have hl' : cs.length = 3 := hl.trans (by kernel_rfl)
  match cs, hl' with
  | [c0, c1, c2], _ =>
    simp at ha hr hvb
    subst ha hr hvb
    exact ⟨⟨a, r, b⟩, _, rfl, hb, hs⟩
set_option maxRecDepth 100000 in
theorem open_bat {H : Type} {enc : TypeId × Value → H} {W : World} {base : Nat} {v : Value} {d : DataW H} {p : List MemPlace} (hval : Value.okWide Tryd.prog W .any base 24 v) (h : DataW.Trod enc Tryd.prog W 0 (fun _ => true) true 24 v d p)
    (hw : ∀ n ∈ DataW.weights Tryd.prog 24 d, n ≤ reachBytes) : ∃ (x : Bat) (vl : Value), v = .agg #[.int .i64 x.author, .int .i64 x.number, vl] ∧ RTexts W.cell? vl x.txs ∧ ∀ s ∈ x.txs, s.size ≤ 140737488355328 := by
  obtain ⟨fuel, h⟩ := h
  obtain ⟨x, vl, e, r, hs⟩ := opens_bat H enc W fuel _ _ h hw
  exact ⟨x, vl, agg_of Tryd.underlying24 hval e, r, fun s hs' => reach_le (hs s hs')⟩
end Go.Proofs.YtedealljhmokoaaDoor
