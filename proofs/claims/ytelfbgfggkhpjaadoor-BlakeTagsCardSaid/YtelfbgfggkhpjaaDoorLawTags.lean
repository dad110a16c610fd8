/- The law BlakeTags: blake.Tagged answers what the document's TaggedOf answers, at every argument: no condition; its card: the tables tied to the program's text. -/
import Derived.Test.YtelfbgfggkhpjaaDoorBlakeU
import Derived.Test.YtelfbgfggkhpjaaDoorLaid
import Derived.Test.YtelfbgfggkhpjaaDoorOpen2
import Derived.Test.YtelfbgfggkhpjaaDoorCards
import Derived.Test.YtelfbgfggkhpjaaDoorTie
import Derived.SevenTiedAt
namespace Go.Proofs.YtelfbgfggkhpjaaDoor
open Go.ChangeShapes Go.WideShapes Go.ChangeAt Go.RowKit
set_option linter.unusedVariables false
set_option linter.unusedSimpArgs false
set_option maxHeartbeats 1000000 in
set_option maxRecDepth 100000 in
theorem lists_any (v : Value) (l : List (List UInt8)) (w : World) (hv : RDigs w.cell? v l) :
    Calls Tryd.prog 12 #[v] w fun e w' => ∃ v', e = .returned v' ∧ Below w.heap.size w w' ∧ OwnSl 1 RDig 22 w' w.heap.size v' l := by
  obtain ⟨A, c, rfl, _⟩ := id hv
  obtain ⟨_, hcap, hlen, hel⟩ := hv.at
  have Hel := Lib.hid hel
  clear hel hv
  go_enter Tryd.func12, Tryd.ntmps12
  go_wp2
  go_loopw [3, 4] (fun v i wr => ∃ k : Nat, k ≤ l.length ∧ i = .int .i64 k ∧ OwnSl 1 RDig 22 wr w.heap.size v (l.take k) ∧ Below w.heap.size w wr) (fun _ i _ => l.length - (intOf i).toNat)
  case atStart => exact ⟨0, Nat.zero_le _, rfl, OwnSl.nil _ _ _ _ _, Below.refl _ _⟩
  case round =>
    obtain ⟨k, hk, rfl, hown, hbl⟩ := hrel
    have hbs := hbl.size
    by_cases hlt : k < l.length
    · obtain ⟨b0, o0, d, rfl, q0, hd⟩ := Hel.out k hlt
      have c0 := vle_below hbl _ _ q0
      have hd' := hd.mono (vle_below hbl)
      have hdl : l[k].length * 1 ≤ 140737488355328 := by obtain ⟨A, c, _, _, _, h, _⟩ := hd; exact h
      have Hlk := Lib.hid (show (l.take k).length = k by simp; omega)
      have Hn := Lib.hid (List.take_succ_eq_append_getElem hlt)
      clear q0 hd
      generalize l[k] = x at hd' hdl Hn
      generalize l.take k = L at hown Hlk Hn
      go_wp2_with (at_builtin; refine wpList_append_vec (n := 140737488355328) (W := wr) (ys := x) elemByte encB_one _ _ rfl rfl rfl (OwnVec.nil _ _ _ _) (Below.refl _ _) (Nat.le_refl _) rfl hd' (by decide) (by simpa using hdl) (by simpa using hdl) ?_)
      intro v1 w1 ho1 hb1 _
      have hown1 := hown.kept RDig.mono hb1
      have hbl1 := hbl.trans (hb1.mono hbs)
      have hs1 := hb1.size
      have ho1' : OwnB w1 wr.heap.size v1 x := by simpa using ho1
      have hR : RDig (View.but w1.cell? u3.ownBlock) [v1] x := ⟨v1, rfl, ho1'.reads_but hdl (fun g hg => (hown.lt g hg).2)⟩
      obtain ⟨A', c', rfl⟩ := ho1'.form
      clear c0 hd'
      go_wp2_with (at_builtin; go_loud (refine wpList_append_sl1 (n := 140737488355328) (W := w) RDig.mono x [.slice A' x.length c'] elemDig _ _ rfl rfl rfl hown1 hbl1 (Nat.le_trans hbs hs1) rfl rfl rfl rfl hR (Nat.le_refl _) (by rw [Hlk.out]; omega) (by rw [Hlk.out]; omega) ?_))
      intro v' w2 ho hbl2 _
      clear hown hown1
      go_wp2
      go_roundw
      case rel => exact ⟨k + 1, by omega, by go_num, by rw [Hn.out]; exact ho, hbl2⟩
      case measure => simp [intOf]; omega
    · have : k = l.length := by omega
      subst this
      rw [List.take_length] at hown
      go_wp2
      go_ret
      exact ⟨_, rfl, hbl, hown⟩
set_option maxHeartbeats 1000000 in
set_option maxRecDepth 100000 in
theorem blakeTags_any (tag : UInt8) (v : Value) (l : List (List UInt8)) (w : World) (hv : RDigs w.cell? v l) (hT : Tabs w.cell?) :
    Calls Tryd.prog 4 #[.int .u8 tag.toNat, v] w fun e w' => e = .returned (.bool true) ∧ Below w.heap.size w w' := by
  obtain ⟨E, hE⟩ : ∃ E, Hid (tagE tag l = E) := ⟨_, rfl⟩
  obtain ⟨R, hR⟩ : ∃ R, Hid (tagR tag l = R) := ⟨_, rfl⟩
  have hl : l.length * 24 ≤ 140737488355328 := by obtain ⟨A, c, _, _, _, h, _⟩ := hv; exact h
  go_enter Tryd.func4, Tryd.ntmps4
  go_wp2_with fail
  refine (lists_any v l _ hv).mono ?_
  rintro e w1 ⟨v1, rfl, hb1, ho1⟩
  go_wp2_with fail
  refine (tagged_any tag v1 l _ (ho1.reads RDig.mono hl) (hT.mono (vle_below hb1))).mono ?_
  rintro e w2 ⟨v2, rfl, hb2, hr2⟩
  rw [hE.out]
  rw [hR.out] at hr2
  have hbl2 := hb1.trans (hb2.mono hb1.size)
  go_wp2_with fail
  refine (taggedOf_any tag v l _ (hv.mono RDig.mono (vle_below hbl2))).mono ?_
  rintro e w3 ⟨v3, rfl, hb3, hr3⟩
  rw [hE.out]
  rw [hR.out] at hr3
  have ga := run_toStr (hr2.mono (vle_below hb3))
  have gb := run_toStr hr3
  have hbl3 := hbl2.trans (hb3.mono hbl2.size)
  clear hr2 hr3 hb1 hb2 hb3 ho1 hT
  go_wp2
  go_ret
  exact ⟨rfl, hbl3⟩
theorem opens_digsD : OpensTo Tryd.prog 28 (fun h cs (xs : List (List UInt8)) => ∃ v, cs = [v] ∧ RSl 1 RDig 24 h v xs) :=
  opens_sl Tryd.underlying28 (by kernel_rfl) (by decide) (by kernel_rfl) (R := RDig) (by
    intro H enc w fuel cs x h hw
    obtain ⟨xs, v, e, hr⟩ := opens_bytes H enc w fuel cs x h hw
    exact ⟨xs, v, e, hr⟩)
theorem open_u8 {H : Type} {enc : TypeId × Value → H} {W : World} {base : Nat} {v : Value} {d : DataW H} {p : List MemPlace} (hval : Value.okWide Tryd.prog W .any base 5 v) (h : DataW.Trod enc Tryd.prog W 0 (fun _ => true) true 5 v d p)
    (hw : ∀ n ∈ DataW.weights Tryd.prog 5 d, n ≤ reachBytes) : ∃ b : UInt8, v = .int .u8 b.toNat := by
  obtain ⟨n, rfl, hwf⟩ := open_int (k := .u8) Tryd.underlying5 hval h hw
  have hn : 0 ≤ n ∧ n ≤ 255 := by simpa [Lit.wf, IntKind.min, IntKind.max, IntKind.signed, IntKind.bits] using hwf
  refine ⟨UInt8.ofNat n.toNat, ?_⟩
  congr 1
  rw [UInt8.toNat_ofNat']
  omega
set_option maxHeartbeats 1000000 in
set_option maxRecDepth 100000 in
theorem blakeTags_open {H : Type} {enc : TypeId × Value → H} (W : World) (hT : Tabs W.cell?) {base : Nat} {v v1 : Value} {d d1 : DataW H} {p p1 : List MemPlace} (hval : Value.okWide Tryd.prog W .any base 5 v) (h : DataW.Trod enc Tryd.prog W 0 (fun _ => true) true 5 v d p)
    (hw : ∀ n ∈ DataW.weights Tryd.prog 5 d, n ≤ reachBytes) (hval1 : Value.okWide Tryd.prog W .any base 28 v1) (h1 : DataW.Trod enc Tryd.prog W 0 (fun _ => true) true 28 v1 d1 p1)
    (hw1 : ∀ n ∈ DataW.weights Tryd.prog 28 d1, n ≤ reachBytes) : Calls Tryd.prog 4 #[v, v1] W fun e w' => e = .returned (.bool true) ∧ Below W.heap.size W w' := by
  obtain ⟨t, rfl⟩ := open_u8 hval h hw
  obtain ⟨l, hl⟩ := open_cellD (R := RSl 1 RDig 24) Tryd.underlying28 hval1 h1 hw1 opens_digsD
  exact blakeTags_any _ _ l _ hl hT
set_option maxRecDepth 100000 in
theorem blakeTags_lifted (os : Os) (started : os.Started) (H : Type) (enc : TypeId × Value → H) :
    ReturnsInHanded {} Tryd.checked os 4 .any (fun w args => (Rows.blakeTagsSpec.pre enc Tryd.prog Tryd.f4 [] false w args ∧ laidMetH Tryd.prog laid3 w) ∧ sizedMet enc Tryd.prog Tryd.f4 (OpenSpec.ofChange Rows.blakeTagsSpec) false w args) (Rows.blakeTagsSpec.post enc Tryd.prog Tryd.f4 false true false false) := by
  refine returnsInHanded_of_change_and (C := Tryd.checked) (X := fun w _ => laidMetH Tryd.prog laid3 w) (fun _ _ _ hh h => h.of_heap hh) own_ started (by kernel_rfl) Tryd.func4
    (ChangeSpec.witness_shaped (enc := enc) (C := Tryd.checked) (os := os) (X := fun w _ => laidMetH Tryd.prog laid3 w) false (World.doorLaid Tryd.prog 400 os) #[.int .u8 0, .slice none 0 0] 8 rfl (World.shaped_of_RefB (by kernel_rfl) (by kernel_rfl)) (by kernel_rfl) (by kernel_rfl) (by kernel_rfl) (door_met os _)) ?_
  intro W base args ds gs before hval0 hW _ hsz hL _
  have hval : ∀ (j : Nat) t v, Tryd.f4.params[j]? = some t → args[j]? = some v → Value.okWide Tryd.prog W .any base t v := hval0
  have hW' := hW
  obtain ⟨p, q, hA, hV, rfl, hfz, hnd⟩ := hW
  obtain ⟨rfl, rfl⟩ := trodVars_none hV
  have hA : DataW.TrodAll enc Tryd.prog W 0 (fun _ => true) true Tryd.f4.params.toList args.toList ds p := hA
  rw [Tryd.params4] at hA hval hsz
  obtain ⟨v0, v1, d0, d1, p0, p1, rfl, rfl, rfl, h0, h1⟩ := trodAll_two hA
  have hs0 : ∀ n ∈ DataW.weights Tryd.prog _ d0, n ≤ reachBytes := fun n hn => by simpa using List.all_eq_true.1 hsz n (DataW.weights_mem_each (j := 0) rfl rfl n hn)
  have hs1 : ∀ n ∈ DataW.weights Tryd.prog _ d1, n ≤ reachBytes := fun n hn => by simpa using List.all_eq_true.1 hsz n (DataW.weights_mem_each (j := 1) rfl rfl n hn)
  refine (blakeTags_open W (of_laid hL) (hval 0 _ _ rfl rfl) h0 hs0 (hval 1 _ _ rfl rfl) h1 hs1).mono fun e W' ⟨he, hb⟩ => ?_
  exact law_close laidOut (b := 4) rfl Tryd.underlying4 rfl (readables _ (by kernel_rfl)) rfl hW' he hb
theorem blakeTags_holds : Rows.BlakeTagsSaid :=
  OpenClaim.holds_of_wide 4 Tryd.f4 rfl rfl rfl rfl rfl rfl rfl ⟨rfl, rfl, rfl, rfl, rfl⟩ rfl rfl rfl rfl rfl (by kernel_rfl) Tryd.func4 (by kernel_rfl)
    (of_decide_eq_true (by kernel_rfl)) (by unfold Func.isWrapper; first | (rw [if_pos (by decide +kernel)]; kernel_rfl) | (rw [if_neg (by decide +kernel)]; exact ⟨rfl, rfl⟩))
    (fun os started H enc _ => blakeTags_lifted os started H enc)
theorem blakeTags_card : Rows.BlakeTagsCardSaid :=
  Claim7.holds_tied_plain_at .later [] [.widerDeep, .data, .data] true Rows.blakeTagsCard.stood.harness false
    blakeTags_holds (fun _ h => by cases h) (by kernel_rfl) (fun _ h => by cases h) blakeTags_row_tie rfl ⟨rfl, rfl⟩ (by kernel_rfl) rfl
    (fun f fn hf hfn => by
      obtain rfl : f = 4 := Option.some.inj ((show Tryd.prog.funcNamed "sheaves/sheaveslaw.BlakeTags" = some 4 by kernel_rfl).symm.trans hf) |>.symm
      obtain rfl : fn = Tryd.f4 := (Option.some.inj (Tryd.func4.symm.trans hfn)).symm
      exact ⟨by kernel_rfl, fun j t ht => by
        have hall : (Tryd.f4.params.toList.all fun u => !Tryd.prog.wantsStandIn u) = true := by kernel_rfl
        have := List.all_eq_true.1 hall t (by simpa using Array.mem_of_getElem? ht)
        exact (show Tryd.prog.wantsStandIn t = false by simpa using this)⟩)
    (by kernel_rfl)
end Go.Proofs.YtelfbgfggkhpjaaDoor
