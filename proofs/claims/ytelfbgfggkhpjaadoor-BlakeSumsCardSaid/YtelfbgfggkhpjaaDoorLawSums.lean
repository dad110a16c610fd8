/- The law BlakeSums: blake.Sum answers what the document's SumOf answers, at every argument: no condition; its card: the tables tied to the program's text. -/
import Derived.Test.YtelfbgfggkhpjaaDoorBlakeU
import Derived.Test.YtelfbgfggkhpjaaDoorLaid
import Derived.Test.YtelfbgfggkhpjaaDoorCards
import Derived.Test.YtelfbgfggkhpjaaDoorTie
import Derived.SevenTiedAt
namespace Go.Proofs.YtelfbgfggkhpjaaDoor
open Go.ChangeShapes Go.WideShapes Go.ChangeAt Go.RowKit
set_option linter.unusedVariables false
set_option linter.unusedSimpArgs false
set_option maxHeartbeats 1000000 in
set_option maxRecDepth 100000 in
theorem blakeSums_any (v : Value) (b : List UInt8) (w : World) (hv : RBytes w.cell? v b) (hT : Tabs w.cell?) :
    Calls Tryd.prog 3 #[v] w fun e w' => e = .returned (.bool true) ∧ Below w.heap.size w w' := by
  obtain ⟨E, hE⟩ : ∃ E, Hid (sumE b = E) := ⟨_, rfl⟩
  obtain ⟨R, hR⟩ : ∃ R, Hid (sumR b = R) := ⟨_, rfl⟩
  have hl : b.length * 1 ≤ 140737488355328 := by obtain ⟨A, c, _, _, _, h, _⟩ := hv; exact h
  go_enter Tryd.func3, Tryd.ntmps3
  go_wp2_with fail
  refine (octets_any v b _ hv).mono ?_
  rintro e w1 ⟨v1, rfl, hb1, ho1⟩
  go_wp2_with fail
  refine (sum_any v1 b _ (ho1.reads hl) (hT.mono (vle_below hb1))).mono ?_
  rintro e w2 ⟨v2, rfl, hb2, hr2⟩
  rw [hE.out]
  rw [hR.out] at hr2
  have hbl2 := hb1.trans (hb2.mono hb1.size)
  go_wp2_with fail
  refine (sumOf_any v b _ (hv.mono (vle_below hbl2))).mono ?_
  rintro e w3 ⟨v3, rfl, hb3, hr3⟩
  rw [hE.out]
  rw [hR.out] at hr3
  have ga := run_toStr (hr2.mono (vle_below hb3))
  have gb := run_toStr hr3
  have hbl3 := hbl2.trans (hb3.mono hbl2.size)
  clear hr2 hr3 hb1 hb2 hb3 ho1 hT
  go_wp2
  go_ret
  exact ⟨rfl, hbl3⟩
theorem open_bytes {H : Type} {enc : TypeId × Value → H} {W : World} {base : Nat} {v : Value} {d : DataW H} {p : List MemPlace} (hval : Value.okWide Tryd.prog W .any base 22 v) (h : DataW.Trod enc Tryd.prog W 0 (fun _ => true) true 22 v d p)
    (hw : ∀ n ∈ DataW.weights Tryd.prog 22 d, n ≤ reachBytes) : ∃ b, RBytes W.cell? v b := open_cellD (R := RBytes) Tryd.underlying22 hval h hw opens_bytes
set_option maxHeartbeats 1000000 in
set_option maxRecDepth 100000 in
theorem blakeSums_open {H : Type} {enc : TypeId × Value → H} (W : World) (hT : Tabs W.cell?) {base : Nat} {v : Value} {d : DataW H} {p : List MemPlace} (hval : Value.okWide Tryd.prog W .any base 22 v) (h : DataW.Trod enc Tryd.prog W 0 (fun _ => true) true 22 v d p)
    (hw : ∀ n ∈ DataW.weights Tryd.prog 22 d, n ≤ reachBytes) : Calls Tryd.prog 3 #[v] W fun e w' => e = .returned (.bool true) ∧ Below W.heap.size W w' := by
  obtain ⟨b, hb⟩ := open_bytes hval h hw
  exact blakeSums_any _ b _ hb hT
set_option maxRecDepth 100000 in
theorem blakeSums_lifted (os : Os) (started : os.Started) (H : Type) (enc : TypeId × Value → H) :
    ReturnsInHanded {} Tryd.checked os 3 .any (fun w args => (Rows.blakeSumsSpec.pre enc Tryd.prog Tryd.f3 [] false w args ∧ laidMetH Tryd.prog laid3 w) ∧ sizedMet enc Tryd.prog Tryd.f3 (OpenSpec.ofChange Rows.blakeSumsSpec) false w args) (Rows.blakeSumsSpec.post enc Tryd.prog Tryd.f3 false true false false) := by
  refine returnsInHanded_of_change_and (C := Tryd.checked) (X := fun w _ => laidMetH Tryd.prog laid3 w) (fun _ _ _ hh h => h.of_heap hh) own_ started (by kernel_rfl) Tryd.func3
    (ChangeSpec.witness_shaped (enc := enc) (C := Tryd.checked) (os := os) (X := fun w _ => laidMetH Tryd.prog laid3 w) false (World.doorLaid Tryd.prog 400 os) #[.slice none 0 0] 8 rfl (World.shaped_of_RefB (by kernel_rfl) (by kernel_rfl)) (by kernel_rfl) (by kernel_rfl) (by kernel_rfl) (door_met os _)) ?_
  intro W base args ds gs before hval0 hW _ hsz hL _
  have hval : ∀ (j : Nat) t v, Tryd.f3.params[j]? = some t → args[j]? = some v → Value.okWide Tryd.prog W .any base t v := hval0
  have hW' := hW
  obtain ⟨p, q, hA, hV, rfl, hfz, hnd⟩ := hW
  obtain ⟨rfl, rfl⟩ := trodVars_none hV
  have hA : DataW.TrodAll enc Tryd.prog W 0 (fun _ => true) true Tryd.f3.params.toList args.toList ds p := hA
  rw [Tryd.params3] at hA hval hsz
  obtain ⟨v0, d0, rfl, rfl, h0⟩ := trodAll_one hA
  have hs0 : ∀ n ∈ DataW.weights Tryd.prog _ d0, n ≤ reachBytes := fun n hn => by simpa using List.all_eq_true.1 hsz n (DataW.weights_mem_each (j := 0) rfl rfl n hn)
  refine (blakeSums_open W (of_laid hL) (hval 0 _ _ rfl rfl) h0 hs0).mono fun e W' ⟨he, hb⟩ => ?_
  exact law_close laidOut (b := 4) rfl Tryd.underlying4 rfl (readables _ (by kernel_rfl)) rfl hW' he hb
theorem blakeSums_holds : Rows.BlakeSumsSaid :=
  OpenClaim.holds_of_wide 3 Tryd.f3 rfl rfl rfl rfl rfl rfl rfl ⟨rfl, rfl, rfl, rfl, rfl⟩ rfl rfl rfl rfl rfl (by kernel_rfl) Tryd.func3 (by kernel_rfl)
    (of_decide_eq_true (by kernel_rfl)) (by unfold Func.isWrapper; first | (rw [if_pos (by decide +kernel)]; kernel_rfl) | (rw [if_neg (by decide +kernel)]; exact ⟨rfl, rfl⟩))
    (fun os started H enc _ => blakeSums_lifted os started H enc)
theorem blakeSums_card : Rows.BlakeSumsCardSaid :=
  Claim7.holds_tied_plain_at .later [] [.widerDeep, .data, .data] true Rows.blakeSumsCard.stood.harness false
    blakeSums_holds (fun _ h => by cases h) (by kernel_rfl) (fun _ h => by cases h) blakeSums_row_tie rfl ⟨rfl, rfl⟩ (by kernel_rfl) rfl
    (fun f fn hf hfn => by
      obtain rfl : f = 3 := Option.some.inj ((show Tryd.prog.funcNamed "sheaves/sheaveslaw.BlakeSums" = some 3 by kernel_rfl).symm.trans hf) |>.symm
      obtain rfl : fn = Tryd.f3 := (Option.some.inj (Tryd.func3.symm.trans hfn)).symm
      exact ⟨by kernel_rfl, fun j t ht => by
        have hall : (Tryd.f3.params.toList.all fun u => !Tryd.prog.wantsStandIn u) = true := by kernel_rfl
        have := List.all_eq_true.1 hall t (by simpa using Array.mem_of_getElem? ht)
        exact (show Tryd.prog.wantsStandIn t = false by simpa using this)⟩)
    (by kernel_rfl)
end Go.Proofs.YtelfbgfggkhpjaaDoor
