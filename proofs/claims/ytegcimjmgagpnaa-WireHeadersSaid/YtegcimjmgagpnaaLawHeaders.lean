/- The law WireHeaders: wire.CheckHeader answers what the document's HeaderFault answers, for every header: no condition. -/
import Derived.Test.YtegcimjmgagpnaaHead2
import Derived.Test.YtegcimjmgagpnaaOpen
namespace Go.Proofs.Ytegcimjmgagpnaa
open Go.ChangeShapes Go.WideShapes Go.ChangeAt Go.RowKit
set_option linter.unusedVariables false
theorem opens_digs : OpensTo Try.prog 63 (fun h cs (xs : List (List UInt8)) => ∃ v, cs = [v] ∧ RSl 1 RDig 24 h v xs) :=
  opens_sl Try.underlying63 (by kernel_rfl) (by decide) (by kernel_rfl) (R := RDig) (by
    intro H enc w fuel cs x h hw
    obtain ⟨xs, v, e, hr⟩ := opens_bytes H enc w fuel cs x h hw
    exact ⟨xs, v, e, hr⟩)
set_option maxHeartbeats 1000000 in
set_option maxRecDepth 100000 in
theorem wireHeaders_open {H : Type} {enc : TypeId × Value → H} (W : World) {base : Nat} {v : Value} {d : DataW H} {p : List MemPlace} (hval : Value.okWide Try.prog W .any base 65 v) (h : DataW.Trod enc Try.prog W 0 (fun _ => true) true 65 v d p)
    (hw : ∀ n ∈ DataW.weights Try.prog 65 d, n ≤ reachBytes) : Calls Try.prog 12 #[v] W fun e w' => e = .returned (.bool true) ∧ Below W.heap.size W w' := by
  obtain ⟨fuel, h⟩ := h
  obtain ⟨hl, hf⟩ := opens_fields Try.underlying65 h hw
  obtain ⟨a, ha, _⟩ := hf 0 3 0 1 rfl (by kernel_rfl) opens_i
  obtain ⟨r, hr, _⟩ := hf 1 3 1 1 rfl (by kernel_rfl) opens_i
  obtain ⟨b, vb, hvb, hb⟩ := hf 2 63 2 1 rfl (by kernel_rfl) opens_digs
  obtain ⟨q, vq, hvq, hq⟩ := hf 3 63 3 1 rfl (by kernel_rfl) opens_digs
  have hl' : v.cells.toList.length = 4 := hl.trans (by kernel_rfl)
  match hcs : v.cells.toList, hl' with
  | [c0, c1, c2, c3], _ =>
    rw [hcs] at ha hr hvb hvq
    simp at ha hr hvb hvq
    subst ha hr hvb hvq
    obtain rfl := agg_of Try.underlying65 hval hcs
    exact wireHeaders_any _ _ _ _ b q _ hb hq
set_option maxRecDepth 100000 in
theorem wireHeaders_lifted (os : Os) (started : os.Started) (H : Type) (enc : TypeId × Value → H) :
    ReturnsInHanded {} Try.checked os 12 .any (Rows.wireHeadersSpec.pre6 enc Try.prog Try.f12 Rows.wireHeadersRow.domain false) (Rows.wireHeadersSpec.post enc Try.prog Try.f12 false true false false) := by
  refine returnsInHanded_of_change_sized (C := Try.checked) own_ started (by kernel_rfl) Try.func12
    (ChangeSpec.witness6 (enc := enc) (C := Try.checked) false ⟨#[], #[.agg #[.int .i64 0, .int .i64 0, .slice none 0 0, .slice none 0 0]], []⟩ 8 (by kernel_rfl) (by kernel_rfl) (by kernel_rfl) (by kernel_rfl) (by kernel_rfl)) ?_
  intro W base args ds gs before hval hW _ hsz _
  have hW' := hW
  obtain ⟨p, q, hA, hV, rfl, hfz, hnd⟩ := hW
  obtain ⟨rfl, rfl⟩ := trodVars_none hV
  rw [Try.params12] at hA hval hsz
  obtain ⟨v0, d0, rfl, rfl, h0⟩ := trodAll_one hA
  have hs0 : ∀ n ∈ DataW.weights Try.prog _ d0, n ≤ reachBytes := fun n hn => by simpa using List.all_eq_true.1 hsz n (DataW.weights_mem_each (j := 0) rfl rfl n hn)
  refine (wireHeaders_open W (hval 0 _ _ rfl rfl) h0 hs0).mono fun e W' ⟨he, hb⟩ => ?_
  exact law_close laidOut (b := 4) rfl Try.underlying4 rfl (readables _ (by kernel_rfl)) rfl hW' he hb
theorem wireHeaders_holds : Rows.WireHeadersSaid :=
  OpenClaim.holds_of_wide 12 Try.f12 rfl rfl rfl rfl rfl rfl rfl ⟨rfl, rfl, rfl, rfl, rfl⟩ rfl rfl rfl rfl rfl (by kernel_rfl) Try.func12 (by kernel_rfl)
    (of_decide_eq_true (by kernel_rfl)) (by unfold Func.isWrapper; first | (rw [if_pos (by decide +kernel)]; kernel_rfl) | (rw [if_neg (by decide +kernel)]; exact ⟨rfl, rfl⟩))
    (fun os started H enc _ => wireHeaders_lifted os started H enc)
end Go.Proofs.Ytegcimjmgagpnaa
