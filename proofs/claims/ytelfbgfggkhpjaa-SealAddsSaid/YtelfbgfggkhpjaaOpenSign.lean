/- Signs, opened. -/
import Derived.Test.YtelfbgfggkhpjaaSign
import Derived.Test.YtelfbgfggkhpjaaOpenSlot
import Derived.Test.YtelfbgfggkhpjaaOpen2
namespace Go.Proofs.Ytelfbgfggkhpjaa
open Go.ChangeShapes Go.WideShapes Go.ChangeAt Go.RowKit
set_option linter.unusedVariables false
set_option maxHeartbeats 1000000 in
set_option maxRecDepth 100000 in
theorem opens_sign : OpensTo Try.prog 47 RSign := by
  intro H enc w fuel cs x h hw
  obtain ⟨hl, hf⟩ := opens_fields Try.underlying47 h hw
  obtain ⟨a, ha, _⟩ := hf 0 3 0 1 rfl (by kernel_rfl) opens_i
  obtain ⟨s, d, hd, hb⟩ := hf 1 45 1 3 rfl (by kernel_rfl) opens_slot
  have hl' : cs.length = 4 := hl.trans (by kernel_rfl)
  match cs, hl' with
  | [c0, c1, c2, c3], _ =>
    simp at ha hd
    obtain ⟨rfl, rfl, rfl⟩ := hd
    subst ha
    exact ⟨⟨a, s⟩, _, rfl, hb⟩
theorem opens_signs : OpensTo Try.prog 43 (fun h cs (xs : List Sign) => ∃ v, cs = [v] ∧ RSl 4 RSign 48 h v xs) :=
  opens_sl Try.underlying43 (by kernel_rfl) (by decide) (by kernel_rfl) opens_sign
set_option maxRecDepth 100000 in
/-- a sign in an argument's place -/
theorem open_sign {H : Type} {enc : TypeId × Value → H} {W : World} {base : Nat} {v : Value} {d : DataW H} {p : List MemPlace} (hval : Value.okWide Try.prog W .any base 47 v)
    (h : DataW.Trod enc Try.prog W 0 (fun _ => true) true 47 v d p) (hw : ∀ n ∈ DataW.weights Try.prog 47 d, n ≤ reachBytes) :
    ∃ (s : Sign) (sd : Value), v = .agg #[.int .i64 s.node, .int .i64 s.slot.author, .int .i64 s.slot.round, sd] ∧ RBytes W.cell? sd s.slot.digest := by
  obtain ⟨fuel, h⟩ := h
  obtain ⟨s, d, hc, hb⟩ := opens_sign H enc W fuel _ _ h hw
  exact ⟨s, d, agg_of Try.underlying47 hval hc, hb⟩
end Go.Proofs.Ytelfbgfggkhpjaa
