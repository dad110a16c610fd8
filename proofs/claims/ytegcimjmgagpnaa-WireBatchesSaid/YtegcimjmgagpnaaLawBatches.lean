/- The law WireBatches: wire.CheckBatch answers what the document's BatchFault answers, for every batch: no condition. -/
import Derived.Test.YtegcimjmgagpnaaBatch
import Derived.Test.YtegcimjmgagpnaaOpen
namespace Go.Proofs.Ytegcimjmgagpnaa
open Go.ChangeShapes Go.WideShapes Go.ChangeAt Go.RowKit
set_option linter.unusedVariables false
set_option maxHeartbeats 1000000 in
set_option maxRecDepth 100000 in
theorem wireBatches_any (au nu : Int) (v : Value) (l : List ByteArray) (w : World) (hv : RTexts w.cell? v l) (hs : ∀ s ∈ l, s.size ≤ 140737488355328) : Calls Try.prog 5 #[.agg #[.int .i64 au, .int .i64 nu, v]] w fun e w' => e = .returned (.bool true) ∧ Below w.heap.size w w' := by
  go_enter Try.func5, Try.ntmps5
  go_wp2_with fail
  refine (batch_any _ _ _ l _ (hv.mono (vle_below ((Below.refl _ _).alloc (Nat.le_refl _) _)))).mono ?_
  rintro e w1 ⟨d', rfl, hb1, ho⟩
  obtain ⟨hc, hf⟩ := bcell hb1
  have hz : w.heap.size < w1.heap.size := by have := hb1.size; simp at this; omega
  have hbw : Below w.heap.size w w1 := ((Below.refl _ _).alloc (Nat.le_refl _) _).trans (hb1.mono (by simp))
  have hl16 : l.length * 16 ≤ 140737488355328 := by obtain ⟨A, c, _, _, _, h, _⟩ := hv; exact h
  go_wp2_with fail
  refine (checkBatch_any _ _ _ l _ (ho.reads hl16) hs).mono ?_
  rintro e w2 ⟨rfl, hb2⟩
  obtain ⟨hc2, hf2⟩ := bcell hb2
  have hz2 : w.heap.size < w2.heap.size := by have := hb2.size; omega
  go_wp2_with fail
  refine (batchFault_any _ _ _ l _ (hv.mono (vle_below (hbw.trans (hb2.mono (by omega))))) hs).mono ?_
  rintro e w3 ⟨rfl, hb3⟩
  go_wp2
  go_ret
  exact ⟨rfl, (hbw.trans (hb2.mono (by omega))).trans (hb3.mono (by omega))⟩
set_option maxHeartbeats 1000000 in
set_option maxRecDepth 100000 in
theorem wireBatches_open {H : Type} {enc : TypeId × Value → H} (W : World) {base : Nat} {v : Value} {d : DataW H} {p : List MemPlace} (hval : Value.okWide Try.prog W .any base 33 v) (h : DataW.Trod enc Try.prog W 0 (fun _ => true) true 33 v d p)
    (hw : ∀ n ∈ DataW.weights Try.prog 33 d, n ≤ reachBytes) : Calls Try.prog 5 #[v] W fun e w' => e = .returned (.bool true) ∧ Below W.heap.size W w' := by
  obtain ⟨fuel, h⟩ := h
  obtain ⟨hl, hf⟩ := opens_fields Try.underlying33 h hw
  obtain ⟨a, ha, _⟩ := hf 0 3 0 1 rfl (by kernel_rfl) opens_i
  obtain ⟨r, hr, _⟩ := hf 1 3 1 1 rfl (by kernel_rfl) opens_i
  obtain ⟨l, v', hd, hb, hs⟩ := hf 2 31 2 1 rfl (by kernel_rfl) opens_texts
  have hl' : v.cells.toList.length = 3 := hl.trans (by kernel_rfl)
  match hcs : v.cells.toList, hl' with
  | [c0, c1, c2], _ =>
    rw [hcs] at ha hr hd
    simp at ha hr hd
    subst ha hr hd
    rw [agg_of Try.underlying33 hval hcs]
    exact wireBatches_any _ _ _ _ _ hb (fun s hs' => reach_le (hs s hs'))
set_option maxRecDepth 100000 in
theorem wireBatches_lifted (os : Os) (started : os.Started) (H : Type) (enc : TypeId × Value → H) :
    ReturnsInHanded {} Try.checked os 5 .any (Rows.wireBatchesSpec.pre6 enc Try.prog Try.f5 Rows.wireBatchesRow.domain false) (Rows.wireBatchesSpec.post enc Try.prog Try.f5 false true false false) := by
  refine returnsInHanded_of_change_sized (C := Try.checked) own_ started (by kernel_rfl) Try.func5
    (ChangeSpec.witness6 (enc := enc) (C := Try.checked) false ⟨#[], #[.agg #[.int .i64 0, .int .i64 0, .slice none 0 0]], []⟩ 8 (by kernel_rfl) (by kernel_rfl) (by kernel_rfl) (by kernel_rfl) (by kernel_rfl)) ?_
  intro W base args ds gs before hval hW _ hsz _
  have hW' := hW
  obtain ⟨p, q, hA, hV, rfl, hfz, hnd⟩ := hW
  obtain ⟨rfl, rfl⟩ := trodVars_none hV
  rw [Try.params5] at hA hval hsz
  obtain ⟨v0, d0, rfl, rfl, h0⟩ := trodAll_one hA
  have hs0 : ∀ n ∈ DataW.weights Try.prog _ d0, n ≤ reachBytes := fun n hn => by simpa using List.all_eq_true.1 hsz n (DataW.weights_mem_each (j := 0) rfl rfl n hn)
  refine (wireBatches_open W (hval 0 _ _ rfl rfl) h0 hs0).mono fun e W' ⟨he, hb⟩ => ?_
  exact law_close laidOut (b := 4) rfl Try.underlying4 rfl (readables _ (by kernel_rfl)) rfl hW' he hb
theorem wireBatches_holds : Rows.WireBatchesSaid :=
  OpenClaim.holds_of_wide 5 Try.f5 rfl rfl rfl rfl rfl rfl rfl ⟨rfl, rfl, rfl, rfl, rfl⟩ rfl rfl rfl rfl rfl (by kernel_rfl) Try.func5 (by kernel_rfl)
    (of_decide_eq_true (by kernel_rfl)) (by unfold Func.isWrapper; first | (rw [if_pos (by decide +kernel)]; kernel_rfl) | (rw [if_neg (by decide +kernel)]; exact ⟨rfl, rfl⟩))
    (fun os started H enc _ => wireBatches_lifted os started H enc)
end Go.Proofs.Ytegcimjmgagpnaa
