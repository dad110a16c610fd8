/- The law WireHeaderDigests: wire.HeaderDigest answers what the document says, at every argument, and changes none of them: no condition; its card: the tables tied to the text of the program. -/
import Derived.Test.YtedealljhmokoaaDoorDig2
import Derived.Test.YtedealljhmokoaaDoorSame
import Derived.Test.YtedealljhmokoaaDoorLaid
import Derived.Test.YtedealljhmokoaaDoorOpen2
import Derived.Test.YtedealljhmokoaaDoorOpenCert
import Derived.Test.YtedealljhmokoaaDoorOpenBat
import Derived.Test.YtedealljhmokoaaDoorCards
import Derived.Test.YtedealljhmokoaaDoorTie
import Derived.SevenTiedAt
namespace Go.Proofs.YtedealljhmokoaaDoor
open Go.ChangeShapes Go.WideShapes Go.ChangeAt Go.RowKit
set_option linter.unusedVariables false
set_option linter.unusedSimpArgs false
set_option maxHeartbeats 2000000 in
set_option maxRecDepth 100000 in
theorem wireHeaderDigests_any (a n : Int) (vb vp : Value) (b p : List (List UInt8)) (w : World) (hb : RDigs w.cell? vb b) (hp : RDigs w.cell? vp p) (hT : Tabs w.cell?) :
    Calls Tryd.prog 5 #[.agg #[.int .i64 a, .int .i64 n, vb, vp]] w fun e w' => e = .returned (.bool true) ∧ Below w.heap.size w w' := by
  obtain ⟨bA, bc, rfl, _⟩ := id hb
  obtain ⟨pA, pc, rfl, _⟩ := id hp
  obtain ⟨E, hE⟩ : ∃ E, Hid (headF a n b p = E) := ⟨_, rfl⟩
  obtain ⟨R, hR⟩ : ∃ R, Hid (hdrDR a n b p = R) := ⟨_, rfl⟩
  go_enter Tryd.func5, Tryd.ntmps5
  go_wp2_with fail
  refine one_block _ _ _ (fun W => Calls Tryd.prog _ _ W _) (fun W hk hszW hbW => ?_)
  have q := vle_below hbW
  refine (headerCopy_any a n _ _ b p _ (hb.mono RDig.mono q) (hp.mono RDig.mono q)).mono ?_
  rintro e w1 ⟨vb1, vp1, rfl, hb1, rb1, rp1⟩
  have hbl := hbW.trans (hb1.mono hbW.size)
  have hk1 := hk.kept hb1
  obtain ⟨A1, c1, rfl, _⟩ := id rb1
  obtain ⟨A2, c2, rfl, _⟩ := id rp1
  go_wp2_with fail
  refine one_block _ _ _ (fun W => Calls Tryd.prog _ _ W _) (fun W2 hm hsz2 hbW2 => ?_)
  have rb2 := rb1.mono RDig.mono ((View.from_le _ _).trans (vle_below hbW2))
  have rp2 := rp1.mono RDig.mono ((View.from_le _ _).trans (vle_below hbW2))
  have hbl2 := hbl.trans (hbW2.mono hbl.size)
  refine (headerDigestW_any a n _ _ b p _ rb2 rp2 (hT.mono (vle_below hbl2))).mono ?_
  rintro e w2 ⟨d1, rfl, hb2, hr2⟩
  have hbl3 := hbl2.trans (hb2.mono hbl2.size)
  have hk2 := (hk1.kept hbW2).kept hb2
  have hm2 := hm.kept hb2
  have rb3 := rb2.mono RDig.mono (vle_below hb2)
  have rp3 := rp2.mono RDig.mono (vle_below hb2)
  rw [hE.out]
  rw [hR.out] at hr2
  have g0 := hk2.cell 0; have g1 := hk2.cell 1; have g2 := hk2.cell 2; have g3 := hk2.cell 3
  simp at g0 g1 g2 g3
  go_wp2_with fail
  have q3 := vle_below hbl3
  refine (headerDigestF_any a n _ _ b p _ (hb.mono RDig.mono q3) (hp.mono RDig.mono q3)).mono ?_
  rintro e w3 ⟨d2, rfl, hb3, hr3⟩
  rw [hE.out]
  rw [hR.out] at hr3
  have hbl4 := hbl3.trans (hb3.mono hbl3.size)
  have ga := run_toStr ((hr2.mono (View.from_le _ _)).mono (vle_below hb3))
  have gb := run_toStr (hr3.mono (View.from_le _ _))
  have f0 := (hk2.kept hb3).cell 0; have f1 := (hk2.kept hb3).cell 1; have f2 := (hk2.kept hb3).cell 2; have f3 := (hk2.kept hb3).cell 3
  have m0 := (hm2.kept hb3).cell 0; have m1 := (hm2.kept hb3).cell 1; have m2 := (hm2.kept hb3).cell 2; have m3 := (hm2.kept hb3).cell 3
  simp at f0 f1 f2 f3 m0 m1 m2 m3
  clear hr2 hr3 hk hk1 hk2 hm hm2 g0 g1 g2 g3 hT
  go_wp2_with fail
  have q4 := vle_below hbl4
  refine (sameHeader_same a n _ _ _ _ b p _ (rb3.mono RDig.mono (vle_below hb3)) (rp3.mono RDig.mono (vle_below hb3)) (hb.mono RDig.mono q4) (hp.mono RDig.mono q4)).mono ?_
  rintro e w4 ⟨rfl, hb4⟩
  clear ga gb f0 f1 f2 f3 m0 m1 m2 m3
  go_wp2
  go_ret
  exact ⟨rfl, hbl4.trans (hb4.mono hbl4.size)⟩
set_option maxHeartbeats 1000000 in
set_option maxRecDepth 100000 in
theorem wireHeaderDigests_open {H : Type} {enc : TypeId × Value → H} (W : World) (hT : Tabs W.cell?) {base : Nat} {v : Value} {d : DataW H} {p : List MemPlace} (hval : Value.okWide Tryd.prog W .any base 37 v) (h : DataW.Trod enc Tryd.prog W 0 (fun _ => true) true 37 v d p)
    (hw : ∀ n ∈ DataW.weights Tryd.prog 37 d, n ≤ reachBytes) : Calls Tryd.prog 5 #[v] W fun e w' => e = .returned (.bool true) ∧ Below W.heap.size W w' := by
  obtain ⟨x, vb, vp, rfl, hb, hp⟩ := open_hdr hval h hw
  exact wireHeaderDigests_any _ _ _ _ _ _ _ hb hp hT
set_option maxRecDepth 100000 in
theorem wireHeaderDigests_lifted (os : Os) (started : os.Started) (H : Type) (enc : TypeId × Value → H) :
    ReturnsInHanded {} Tryd.checked os 5 .any (fun w args => (Rows.wireHeaderDigestsSpec.pre enc Tryd.prog Tryd.f5 [] false w args ∧ laidMetH Tryd.prog laid3 w) ∧ sizedMet enc Tryd.prog Tryd.f5 (OpenSpec.ofChange Rows.wireHeaderDigestsSpec) false w args) (Rows.wireHeaderDigestsSpec.post enc Tryd.prog Tryd.f5 false true false false) := by
  refine returnsInHanded_of_change_and (C := Tryd.checked) (X := fun w _ => laidMetH Tryd.prog laid3 w) (fun _ _ _ hh h => h.of_heap hh) own_ started (by kernel_rfl) Tryd.func5
    (ChangeSpec.witness_shaped (enc := enc) (C := Tryd.checked) (os := os) (X := fun w _ => laidMetH Tryd.prog laid3 w) false (World.doorLaid Tryd.prog 400 os) #[.agg #[.int .i64 0, .int .i64 0, .slice none 0 0, .slice none 0 0]] 8 rfl (World.shaped_of_RefB (by kernel_rfl) (by kernel_rfl)) (by kernel_rfl) (by kernel_rfl) (by kernel_rfl) (door_met os _)) ?_
  intro W base args ds gs before hval0 hW _ hsz hL _
  have hval : ∀ (j : Nat) t v, Tryd.f5.params[j]? = some t → args[j]? = some v → Value.okWide Tryd.prog W .any base t v := hval0
  have hW' := hW
  obtain ⟨p, q, hA, hV, rfl, hfz, hnd⟩ := hW
  obtain ⟨rfl, rfl⟩ := trodVars_none hV
  have hA : DataW.TrodAll enc Tryd.prog W 0 (fun _ => true) true Tryd.f5.params.toList args.toList ds p := hA
  rw [Tryd.params5] at hA hval hsz
  obtain ⟨v0, d0, rfl, rfl, h0⟩ := trodAll_one hA
  have hs0 : ∀ n ∈ DataW.weights Tryd.prog _ d0, n ≤ reachBytes := fun n hn => by simpa using List.all_eq_true.1 hsz n (DataW.weights_mem_each (j := 0) rfl rfl n hn)
  refine (wireHeaderDigests_open W (of_laid hL) (hval 0 _ _ rfl rfl) h0 hs0).mono fun e W' ⟨he, hb⟩ => ?_
  exact law_close laidOut (b := 4) rfl Tryd.underlying4 rfl (readables _ (by kernel_rfl)) rfl hW' he hb
theorem wireHeaderDigests_holds : Rows.WireHeaderDigestsSaid :=
  OpenClaim.holds_of_wide 5 Tryd.f5 rfl rfl rfl rfl rfl rfl rfl ⟨rfl, rfl, rfl, rfl, rfl⟩ rfl rfl rfl rfl rfl (by kernel_rfl) Tryd.func5 (by kernel_rfl)
    (of_decide_eq_true (by kernel_rfl)) (by unfold Func.isWrapper; first | (rw [if_pos (by decide +kernel)]; kernel_rfl) | (rw [if_neg (by decide +kernel)]; exact ⟨rfl, rfl⟩))
    (fun os started H enc _ => wireHeaderDigests_lifted os started H enc)
theorem wireHeaderDigests_card : Rows.WireHeaderDigestsCardSaid :=
  Claim7.holds_tied_plain_at .later [] [.widerDeep, .data, .data] true Rows.wireHeaderDigestsCard.stood.harness false
    wireHeaderDigests_holds (fun _ h => by cases h) (by kernel_rfl) (fun _ h => by cases h) wireHeaderDigests_row_tie rfl ⟨rfl, rfl⟩ (by kernel_rfl) rfl
    (fun f fn hf hfn => by
      obtain rfl : f = 5 := Option.some.inj ((show Tryd.prog.funcNamed "sheaves/sheaveslaw.WireHeaderDigests" = some 5 by kernel_rfl).symm.trans hf) |>.symm
      obtain rfl : fn = Tryd.f5 := (Option.some.inj (Tryd.func5.symm.trans hfn)).symm
      exact ⟨by kernel_rfl, fun j t ht => by
        have hall : (Tryd.f5.params.toList.all fun u => !Tryd.prog.wantsStandIn u) = true := by kernel_rfl
        have := List.all_eq_true.1 hall t (by simpa using Array.mem_of_getElem? ht)
        exact (show Tryd.prog.wantsStandIn t = false by simpa using this)⟩)
    (by kernel_rfl)
end Go.Proofs.YtedealljhmokoaaDoor
