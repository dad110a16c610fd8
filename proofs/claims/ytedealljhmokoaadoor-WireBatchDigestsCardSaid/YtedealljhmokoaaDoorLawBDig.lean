/- The law WireBatchDigests: wire.BatchDigest answers what the document says, at every argument: no condition; its card: the tables tied to the text of the program. -/
import Derived.Test.YtedealljhmokoaaDoorDig2
import Derived.Test.YtedealljhmokoaaDoorSame
import Derived.Test.YtedealljhmokoaaDoorLaid
import Derived.Test.YtedealljhmokoaaDoorOpen2
import Derived.Test.YtedealljhmokoaaDoorOpenCert
import Derived.Test.YtedealljhmokoaaDoorOpenBat
import Derived.Test.YtedealljhmokoaaDoorCards
import Derived.Test.YtedealljhmokoaaDoorTie
import Derived.SevenTiedAt
namespace Go.Proofs.YtedealljhmokoaaDoor
open Go.ChangeShapes Go.WideShapes Go.ChangeAt Go.RowKit
set_option linter.unusedVariables false
set_option linter.unusedSimpArgs false
set_option maxHeartbeats 2000000 in
set_option maxRecDepth 100000 in
theorem wireBatchDigests_any (a n : Int) (vl : Value) (l : List ByteArray) (w : World) (hl : RTexts w.cell? vl l) (hs : ∀ s ∈ l, s.size ≤ 140737488355328) (hT : Tabs w.cell?) :
    Calls Tryd.prog 3 #[.agg #[.int .i64 a, .int .i64 n, vl]] w fun e w' => e = .returned (.bool true) ∧ Below w.heap.size w w' := by
  obtain ⟨A, c, rfl, _⟩ := id hl
  have hlen := hl.len
  obtain ⟨E, hE⟩ : ∃ E, Hid (batchF a n l = E) := ⟨_, rfl⟩
  obtain ⟨R, hR⟩ : ∃ R, Hid (batDR a n l = R) := ⟨_, rfl⟩
  go_enter Tryd.func3, Tryd.ntmps3
  go_wp2_with fail
  refine one_block _ _ _ (fun W => Calls Tryd.prog _ _ W _) (fun W hk hszW hbW => ?_)
  refine (batch_any a n _ l _ (hl.mono (vle_below hbW))).mono ?_
  rintro e w1 ⟨v1, rfl, hb1, ho1⟩
  have hbl := hbW.trans (hb1.mono hbW.size)
  have hk1 := hk.kept hb1
  go_wp2_with fail
  refine (batchDigestW_any a n v1 l _ (ho1.reads hlen) hs (hT.mono (vle_below hbl))).mono ?_
  rintro e w2 ⟨d1, rfl, hb2, hr2⟩
  have hbl2 := hbl.trans (hb2.mono hbl.size)
  have hk2 := hk1.kept hb2
  rw [hE.out]
  rw [hR.out] at hr2
  have g0 := hk2.cell 0; have g1 := hk2.cell 1; have g2 := hk2.cell 2
  simp at g0 g1 g2
  go_wp2_with fail
  refine (batchDigestF_any a n _ l _ (hl.mono (vle_below hbl2)) hs).mono ?_
  rintro e w3 ⟨d2, rfl, hb3, hr3⟩
  rw [hE.out]
  rw [hR.out] at hr3
  have hbl3 := hbl2.trans (hb3.mono hbl2.size)
  have ga := run_toStr ((hr2.mono (View.from_le _ _)).mono (vle_below hb3))
  have gb := run_toStr (hr3.mono (View.from_le _ _))
  clear hr2 hr3 hb1 hb2 hb3 ho1 hT hk hk1 hk2 g0 g1 g2
  go_wp2
  go_ret
  exact ⟨rfl, hbl3⟩
set_option maxHeartbeats 1000000 in
set_option maxRecDepth 100000 in
theorem wireBatchDigests_open {H : Type} {enc : TypeId × Value → H} (W : World) (hT : Tabs W.cell?) {base : Nat} {v : Value} {d : DataW H} {p : List MemPlace} (hval : Value.okWide Tryd.prog W .any base 24 v) (h : DataW.Trod enc Tryd.prog W 0 (fun _ => true) true 24 v d p)
    (hw : ∀ n ∈ DataW.weights Tryd.prog 24 d, n ≤ reachBytes) : Calls Tryd.prog 3 #[v] W fun e w' => e = .returned (.bool true) ∧ Below W.heap.size W w' := by
  obtain ⟨x, vl, rfl, hl, hs⟩ := open_bat hval h hw
  exact wireBatchDigests_any _ _ _ _ _ hl hs hT
set_option maxRecDepth 100000 in
theorem wireBatchDigests_lifted (os : Os) (started : os.Started) (H : Type) (enc : TypeId × Value → H) :
    ReturnsInHanded {} Tryd.checked os 3 .any (fun w args => (Rows.wireBatchDigestsSpec.pre enc Tryd.prog Tryd.f3 [] false w args ∧ laidMetH Tryd.prog laid3 w) ∧ sizedMet enc Tryd.prog Tryd.f3 (OpenSpec.ofChange Rows.wireBatchDigestsSpec) false w args) (Rows.wireBatchDigestsSpec.post enc Tryd.prog Tryd.f3 false true false false) := by
  refine returnsInHanded_of_change_and (C := Tryd.checked) (X := fun w _ => laidMetH Tryd.prog laid3 w) (fun _ _ _ hh h => h.of_heap hh) own_ started (by kernel_rfl) Tryd.func3
    (ChangeSpec.witness_shaped (enc := enc) (C := Tryd.checked) (os := os) (X := fun w _ => laidMetH Tryd.prog laid3 w) false (World.doorLaid Tryd.prog 400 os) #[.agg #[.int .i64 0, .int .i64 0, .slice none 0 0]] 8 rfl (World.shaped_of_RefB (by kernel_rfl) (by kernel_rfl)) (by kernel_rfl) (by kernel_rfl) (by kernel_rfl) (door_met os _)) ?_
  intro W base args ds gs before hval0 hW _ hsz hL _
  have hval : ∀ (j : Nat) t v, Tryd.f3.params[j]? = some t → args[j]? = some v → Value.okWide Tryd.prog W .any base t v := hval0
  have hW' := hW
  obtain ⟨p, q, hA, hV, rfl, hfz, hnd⟩ := hW
  obtain ⟨rfl, rfl⟩ := trodVars_none hV
  have hA : DataW.TrodAll enc Tryd.prog W 0 (fun _ => true) true Tryd.f3.params.toList args.toList ds p := hA
  rw [Tryd.params3] at hA hval hsz
  obtain ⟨v0, d0, rfl, rfl, h0⟩ := trodAll_one hA
  have hs0 : ∀ n ∈ DataW.weights Tryd.prog _ d0, n ≤ reachBytes := fun n hn => by simpa using List.all_eq_true.1 hsz n (DataW.weights_mem_each (j := 0) rfl rfl n hn)
  refine (wireBatchDigests_open W (of_laid hL) (hval 0 _ _ rfl rfl) h0 hs0).mono fun e W' ⟨he, hb⟩ => ?_
  exact law_close laidOut (b := 4) rfl Tryd.underlying4 rfl (readables _ (by kernel_rfl)) rfl hW' he hb
theorem wireBatchDigests_holds : Rows.WireBatchDigestsSaid :=
  OpenClaim.holds_of_wide 3 Tryd.f3 rfl rfl rfl rfl rfl rfl rfl ⟨rfl, rfl, rfl, rfl, rfl⟩ rfl rfl rfl rfl rfl (by kernel_rfl) Tryd.func3 (by kernel_rfl)
    (of_decide_eq_true (by kernel_rfl)) (by unfold Func.isWrapper; first | (rw [if_pos (by decide +kernel)]; kernel_rfl) | (rw [if_neg (by decide +kernel)]; exact ⟨rfl, rfl⟩))
    (fun os started H enc _ => wireBatchDigests_lifted os started H enc)
theorem wireBatchDigests_card : Rows.WireBatchDigestsCardSaid :=
  Claim7.holds_tied_plain_at .later [] [.widerDeep, .data, .data] true Rows.wireBatchDigestsCard.stood.harness false
    wireBatchDigests_holds (fun _ h => by cases h) (by kernel_rfl) (fun _ h => by cases h) wireBatchDigests_row_tie rfl ⟨rfl, rfl⟩ (by kernel_rfl) rfl
    (fun f fn hf hfn => by
      obtain rfl : f = 3 := Option.some.inj ((show Tryd.prog.funcNamed "sheaves/sheaveslaw.WireBatchDigests" = some 3 by kernel_rfl).symm.trans hf) |>.symm
      obtain rfl : fn = Tryd.f3 := (Option.some.inj (Tryd.func3.symm.trans hfn)).symm
      exact ⟨by kernel_rfl, fun j t ht => by
        have hall : (Tryd.f3.params.toList.all fun u => !Tryd.prog.wantsStandIn u) = true := by kernel_rfl
        have := List.all_eq_true.1 hall t (by simpa using Array.mem_of_getElem? ht)
        exact (show Tryd.prog.wantsStandIn t = false by simpa using this)⟩)
    (by kernel_rfl)
end Go.Proofs.YtedealljhmokoaaDoor
