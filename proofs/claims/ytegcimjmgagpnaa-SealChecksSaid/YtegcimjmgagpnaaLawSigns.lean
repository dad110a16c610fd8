/- The law SealChecks: seal.Check answers what the document's SignsFault answers, for every list of signs: no condition. -/
import Derived.Test.YtegcimjmgagpnaaSign3
import Derived.Test.YtegcimjmgagpnaaOpenSlot
namespace Go.Proofs.Ytegcimjmgagpnaa
open Go.ChangeShapes Go.WideShapes Go.ChangeAt Go.RowKit
set_option linter.unusedVariables false
set_option maxHeartbeats 1000000 in
set_option maxRecDepth 100000 in
theorem opens_sign : OpensTo Try.prog 91 RSign := by
  intro H enc w fuel cs x h hw
  obtain ⟨hl, hf⟩ := opens_fields Try.underlying91 h hw
  obtain ⟨a, ha, _⟩ := hf 0 3 0 1 rfl (by kernel_rfl) opens_i
  obtain ⟨s, d, hd, hb⟩ := hf 1 28 1 3 rfl (by kernel_rfl) opens_slot
  have hl' : cs.length = 4 := hl.trans (by kernel_rfl)
  match cs, hl' with
  | [c0, c1, c2, c3], _ =>
    simp at ha hd
    obtain ⟨rfl, rfl, rfl⟩ := hd
    subst ha
    exact ⟨⟨a, s⟩, _, rfl, hb⟩
theorem opens_signs : OpensTo Try.prog 59 (fun h cs (xs : List Sign) => ∃ v, cs = [v] ∧ RSl 4 RSign 48 h v xs) :=
  opens_sl Try.underlying59 (by kernel_rfl) (by decide) (by kernel_rfl) opens_sign
set_option maxHeartbeats 1000000 in
set_option maxRecDepth 100000 in
theorem sealChecks_open {H : Type} {enc : TypeId × Value → H} (W : World) {base : Nat} {v : Value} {d : DataW H} {p : List MemPlace} (hval : Value.okWide Try.prog W .any base 59 v) (h : DataW.Trod enc Try.prog W 0 (fun _ => true) true 59 v d p)
    (hw : ∀ n ∈ DataW.weights Try.prog 59 d, n ≤ reachBytes) : Calls Try.prog 11 #[v] W fun e w' => e = .returned (.bool true) ∧ Below W.heap.size W w' := by
  obtain ⟨l, hr⟩ := open_cell (R := RSl 4 RSign 48) Try.underlying59 hval h hw opens_signs
  exact sealChecks_any _ _ _ hr
set_option maxRecDepth 100000 in
theorem sealChecks_lifted (os : Os) (started : os.Started) (H : Type) (enc : TypeId × Value → H) :
    ReturnsInHanded {} Try.checked os 11 .any (Rows.sealChecksSpec.pre6 enc Try.prog Try.f11 Rows.sealChecksRow.domain false) (Rows.sealChecksSpec.post enc Try.prog Try.f11 false true false false) := by
  refine returnsInHanded_of_change_sized (C := Try.checked) own_ started (by kernel_rfl) Try.func11
    (ChangeSpec.witness6 (enc := enc) (C := Try.checked) false ⟨#[], #[.slice none 0 0], []⟩ 8 (by kernel_rfl) (by kernel_rfl) (by kernel_rfl) (by kernel_rfl) (by kernel_rfl)) ?_
  intro W base args ds gs before hval hW _ hsz _
  have hW' := hW
  obtain ⟨p, q, hA, hV, rfl, hfz, hnd⟩ := hW
  obtain ⟨rfl, rfl⟩ := trodVars_none hV
  rw [Try.params11] at hA hval hsz
  obtain ⟨v0, d0, rfl, rfl, h0⟩ := trodAll_one hA
  have hs0 : ∀ n ∈ DataW.weights Try.prog _ d0, n ≤ reachBytes := fun n hn => by simpa using List.all_eq_true.1 hsz n (DataW.weights_mem_each (j := 0) rfl rfl n hn)
  refine (sealChecks_open W (hval 0 _ _ rfl rfl) h0 hs0).mono fun e W' ⟨he, hb⟩ => ?_
  exact law_close laidOut (b := 4) rfl Try.underlying4 rfl (readables _ (by kernel_rfl)) rfl hW' he hb
theorem sealChecks_holds : Rows.SealChecksSaid :=
  OpenClaim.holds_of_wide 11 Try.f11 rfl rfl rfl rfl rfl rfl rfl ⟨rfl, rfl, rfl, rfl, rfl⟩ rfl rfl rfl rfl rfl (by kernel_rfl) Try.func11 (by kernel_rfl)
    (of_decide_eq_true (by kernel_rfl)) (by unfold Func.isWrapper; first | (rw [if_pos (by decide +kernel)]; kernel_rfl) | (rw [if_neg (by decide +kernel)]; exact ⟨rfl, rfl⟩))
    (fun os started H enc _ => sealChecks_lifted os started H enc)
end Go.Proofs.Ytegcimjmgagpnaa
