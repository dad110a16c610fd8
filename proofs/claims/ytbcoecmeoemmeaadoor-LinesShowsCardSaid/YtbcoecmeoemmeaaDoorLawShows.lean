/- The law LinesShows: lines.Show answers what the document's ActsShown answers, at every argument, and changes none of them: no condition; its card: the tables tied to the program's text. -/
import Derived.Test.YtbcoecmeoemmeaaDoorLn8
import Derived.Test.YtbcoecmeoemmeaaDoorOpen2
import Derived.Test.YtbcoecmeoemmeaaDoorOpenWords
import Derived.Test.YtbcoecmeoemmeaaDoorCards
import Derived.Test.YtbcoecmeoemmeaaDoorTie
import Derived.LaidMore
import Derived.Stop.Joined
import Derived.SevenTiedAt
import Derived.Lib.LaidTab
namespace Go.Proofs.YtbcoecmeoemmeaaDoor
open Go.ChangeShapes Go.WideShapes Go.ChangeAt Go.RowKit
set_option linter.unusedVariables false
set_option linter.unusedSimpArgs false
namespace Ln
set_option maxHeartbeats 4000000 in
set_option maxRecDepth 100000 in
theorem sameActs_any (va vb : Value) (l : List Ac) (w : World) (ra : RActs w.cell? va l) (rb : RActs w.cell? vb l) :
    Calls Tryd.prog 8 #[va, vb] w fun e w' => e = .returned (.bool true) ∧ Below w.heap.size w w' := by
  obtain ⟨A, ca, rfl, a1, a2, a3, ael⟩ := ra.at
  obtain ⟨B, cb, rfl, b1, b2, b3, bel⟩ := rb.at
  have Ael := Lib.hid ael
  have Bel := Lib.hid bel
  obtain ⟨n, hn⟩ : ∃ n, Hid (l.length = n) := ⟨_, rfl⟩
  rw [hn.out] at a1 a3 b1 b3 ⊢
  clear ael bel ra rb
  go_enter Tryd.func8, Tryd.ntmps8
  go_wp2
  go_loopw [5] (fun ct wr => ∃ k : Nat, k ≤ n ∧ ct = .int .i64 k ∧ Below w.heap.size w wr) (fun ct _ => n - (intOf ct).toNat)
  case atStart => exact ⟨0, Nat.zero_le _, rfl, Below.refl _ _⟩
  case round =>
    obtain ⟨k, hk, rfl, hbl⟩ := hrel
    by_cases hlt : k < n
    · have hkl : k < l.length := by have := hn.out; omega
      obtain ⟨ba, oa, rfl, c0, c1, c2, c3⟩ := Ael.out k hkl
      obtain ⟨bb, ob, rfl, d0, d1, d2, d3⟩ := Bel.out k hkl
      obtain ⟨a, ha⟩ : ∃ a, Hid (l[k] = a) := ⟨_, Lib.hid rfl⟩
      rw [ha.out] at c0 c1 c2 c3 d0 d1 d2 d3
      obtain ⟨ak, an, ap, atx⟩ := a
      simp only at c0 c1 c2 c3 d0 d1 d2 d3
      have H := Lib.hid (And.intro c0 (And.intro c1 (And.intro c2 (And.intro c3 (And.intro d0 (And.intro d1 (And.intro d2 d3)))))))
      clear c0 c1 c2 c3 d0 d1 d2 d3
      go_wp2_with fail
      refine wp_region_pl (fun w' => Below w.heap.size w w') [] (.q 0 (.q 1 (.q 2 (.q 3 (.q 4 (.q 5 (.q 6 (.q 7 (.q 8 .nil))))))))) (by kernel_rfl) (by kernel_rfl) (fun _ _ d _ _ h => by cases d <;> exact h) rfl (by kernel_rfl) ?_ ?_
      · exact hbl.drew
      intro W hS
      repeat (first
        | (refine pl_q (by assumption) rfl rfl ?_; apply Exists.intro; refine ⟨fun w' hS => ?_, ?_⟩; (· (have hv := vle_below hS; obtain ⟨c0, c1, c2, c3, d0, d1, d2, d3⟩ := H.out; have c0 := hv _ _ c0; have c1 := hv _ _ c1; have c2 := hv _ _ c2; have c3 := hv _ _ c3; have d0 := hv _ _ d0; have d1 := hv _ _ d1; have d2 := hv _ _ d2; have d3 := hv _ _ d3; go_simp; exact rfl)); simp only [List.getElem_toArray, List.getElem_cons_zero, List.getElem_cons_succ, Act.put, List.setIfInBounds_toArray, List.set_cons_zero, List.set_cons_succ])
        | (refine pl_qc rfl rfl ?_; apply Exists.intro; refine ⟨fun w' _ => ?_, ?_⟩; (· (go_simp; exact rfl)); simp only [List.getElem_toArray, List.getElem_cons_zero, List.getElem_cons_succ, Act.put, List.setIfInBounds_toArray, List.set_cons_zero, List.set_cons_succ])
        | (refine pl_skip (by assumption) rfl rfl ?_; simp only [List.getElem_toArray, List.getElem_cons_zero, List.getElem_cons_succ, Act.put, List.setIfInBounds_toArray, List.set_cons_zero, List.set_cons_succ])
        | (refine pl_skipl (by assumption) rfl rfl ?_; simp only [List.getElem_toArray, List.getElem_cons_zero, List.getElem_cons_succ, Act.put, List.setIfInBounds_toArray, List.set_cons_zero, List.set_cons_succ]))
      refine pl_nil ?_
      go_wp2_with fail
      go_roundw
      case rel => exact ⟨k + 1, by omega, by go_num, hS⟩
      case measure => simp [intOf]; omega
    · go_wp2
      go_ret
      exact ⟨rfl, hbl⟩
set_option maxHeartbeats 4000000 in
set_option maxRecDepth 100000 in
theorem linesShows_any (v : Value) (l : List Ac) (w : World) (hv : RActs w.cell? v l) (hsz : ∀ a ∈ l, a.text.size ≤ 140737488355328) (hW : Words w.cell?) (hP : Pow w) :
    Calls Tryd.prog 3 #[v] w fun e w' => e = .returned (.bool true) ∧ Below w.heap.size w w' := by
  obtain ⟨E, hE⟩ : ∃ E, Hid (showE l = E) := ⟨_, rfl⟩
  go_enter Tryd.func3, Tryd.ntmps3
  go_wp2_with fail
  refine (acts_any v l _ hv).mono ?_
  rintro e w1 ⟨v1, rfl, r1, hb1⟩
  go_wp2_with fail
  refine (show_any v1 l _ r1 hsz (hW.mono (vle_below hb1)) (hP.kept hb1)).mono ?_
  rintro e w2 ⟨rfl, hb2⟩
  rw [hE.out]
  have hbl2 := hb1.trans (hb2.mono hb1.size)
  go_wp2_with fail
  refine (shown_any v l _ (hv.mono RAct.mono (vle_below hbl2)) hsz).mono ?_
  rintro e w3 ⟨rfl, hb3⟩
  rw [hE.out]
  have hbl3 := hbl2.trans (hb3.mono hbl2.size)
  obtain ⟨s, hs⟩ : ∃ s, Hid (mkS E.1 = s) := ⟨_, rfl⟩
  rw [hs.out]
  have r3 := (r1.mono RAct.mono (vle_below hb2)).mono RAct.mono (vle_below hb3)
  have rv := hv.mono RAct.mono (vle_below hbl3)
  clear hE hs
  go_wp2_with fail
  refine (sameActs_any v1 v l _ r3 rv).mono ?_
  rintro e w4 ⟨rfl, hb4⟩
  go_wp2
  go_ret
  exact ⟨rfl, hbl3.trans (hb4.mono hbl3.size)⟩
theorem opens_act4 : OpensTo Tryd.prog 37 (fun h cs (a : Ac) => RAct h cs a ∧ a.text.size ≤ reachBytes) := by
  intro H enc w fuel cs x h hw
  obtain ⟨hl, hf⟩ := opens_fields Tryd.underlying37 h hw
  obtain ⟨a, ha, _⟩ := hf 0 3 0 1 rfl (by kernel_rfl) opens_i
  obtain ⟨b, hb, _⟩ := hf 1 3 1 1 rfl (by kernel_rfl) opens_i
  obtain ⟨c, hc, _⟩ := hf 2 3 2 1 rfl (by kernel_rfl) opens_i
  obtain ⟨s, hd, hs⟩ := hf 3 9 3 1 rfl (by kernel_rfl) opens_s
  have hl' : cs.length = 4 := hl.trans (by kernel_rfl)
  match cs, hl' with
  | [c0, c1, c2, c3], _ =>
    simp at ha hb hc hd
    subst ha hb hc hd
    exact ⟨⟨a, b, c, s⟩, rfl, hs⟩
theorem opens_acts : OpensTo Tryd.prog 22 (fun h cs (xs : List Ac) => ∃ v, cs = [v] ∧ RSl 4 (fun h cs (a : Ac) => RAct h cs a ∧ a.text.size ≤ reachBytes) 40 h v xs) :=
  opens_sl Tryd.underlying22 (by kernel_rfl) (by decide) (by kernel_rfl) opens_act4
theorem racts_of {h : View} {v : Value} {xs : List Ac} (r : RSl 4 (fun h cs (a : Ac) => RAct h cs a ∧ a.text.size ≤ reachBytes) 40 h v xs) : RActs h v xs ∧ ∀ a ∈ xs, a.text.size ≤ 140737488355328 := by
  obtain ⟨A, c, e, h1, h2, h3, h4, h5⟩ := r
  refine ⟨⟨A, c, e, h1, h2, h3, h4, fun hp => ?_⟩, fun a ha => ?_⟩
  · obtain ⟨b, o, ea, hc⟩ := h5 hp
    refine ⟨b, o, ea, fun i hi => ?_⟩
    obtain ⟨cs, q1, q2, q3⟩ := hc i hi
    exact ⟨cs, q1, q2, q3.1⟩
  · obtain ⟨i, hi, rfl⟩ := List.getElem_of_mem ha
    obtain ⟨b, o, ea, hc⟩ := h5 (by omega)
    obtain ⟨cs, q1, q2, q3⟩ := hc i hi
    exact reach_le q3.2
set_option maxHeartbeats 1000000 in
set_option maxRecDepth 100000 in
theorem linesShows_open {H : Type} {enc : TypeId × Value → H} (W : World) (hT : Words W.cell? ∧ Pow W) {base : Nat} {v : Value} {d : DataW H} {p : List MemPlace} (hval : Value.okWide Tryd.prog W .any base 22 v) (h : DataW.Trod enc Tryd.prog W 0 (fun _ => true) true 22 v d p)
    (hw : ∀ n ∈ DataW.weights Tryd.prog 22 d, n ≤ reachBytes) : Calls Tryd.prog 3 #[v] W fun e w' => e = .returned (.bool true) ∧ Below W.heap.size W w' := by
  obtain ⟨l, hl⟩ := open_cellW (R := fun h v xs => RSl 4 (fun h cs (a : Ac) => RAct h cs a ∧ a.text.size ≤ reachBytes) 40 h v xs) Tryd.underlying22 hval h hw opens_acts
  obtain ⟨h1, h2⟩ := racts_of hl
  exact linesShows_any v l W h1 h2 hT.1 hT.2
theorem shows_laid {W : World} (h : laidMetH Tryd.prog Rows.linesShowsRow.laid W) : Words W.cell? ∧ Pow W := by
  unfold Rows.linesShowsRow at h
  rw [MakeChecks.laidMetH_plain _ _ _ (by kernel_rfl)] at h
  obtain ⟨ps, ⟨g0, t0, cs0, f0, p0, q0, hg0, ht0, hv0, hd0, ⟨g1, t1, cs1, f1, p1, q1, hg1, ht1, hv1, hd1, ⟨g2, t2, cs2, f2, p2, q2, hg2, ht2, hv2, hd2, ⟨g3, t3, cs3, f3, p3, q3, hg3, ht3, hv3, hd3, _, _⟩, _⟩, _⟩, _⟩, _, _⟩ := h
  exact ⟨words_of hg3 ht3 hv3 hd3, pow_of hg2 ht2 hv2 hd2⟩
theorem shows_met (os : Os) (args : Array Value) : laidMetH Tryd.prog Rows.linesShowsRow.laid ((World.doorLaid Tryd.prog 400 os).forCall (fun _ _ => 0) ⟨#[], args, []⟩).memory :=
  laidMetH_of_parts3 (fuel := 8) (laidMet_of_run' 8 (by kernel_rfl) (by kernel_rfl)) (by kernel_rfl) (by kernel_rfl)
set_option maxRecDepth 100000 in
theorem linesShows_lifted (os : Os) (started : os.Started) (H : Type) (enc : TypeId × Value → H) :
    ReturnsInHanded {} Tryd.checked os 3 .any (fun w args => (Rows.linesShowsSpec.pre enc Tryd.prog Tryd.f3 [] false w args ∧ laidMetH Tryd.prog Rows.linesShowsRow.laid w) ∧ sizedMet enc Tryd.prog Tryd.f3 (OpenSpec.ofChange Rows.linesShowsSpec) false w args) (Rows.linesShowsSpec.post enc Tryd.prog Tryd.f3 false true false false) := by
  refine returnsInHanded_of_change_and (C := Tryd.checked) (X := fun w _ => laidMetH Tryd.prog Rows.linesShowsRow.laid w) (fun _ _ _ hh h => h.of_heap hh) own_ started (by kernel_rfl) Tryd.func3
    (ChangeSpec.witness_shaped (enc := enc) (C := Tryd.checked) (os := os) (X := fun w _ => laidMetH Tryd.prog Rows.linesShowsRow.laid w) false (World.doorLaid Tryd.prog 400 os) #[.slice none 0 0] 8 rfl (World.shaped_of_RefB (by kernel_rfl) (by kernel_rfl)) (by kernel_rfl) (by kernel_rfl) (by kernel_rfl) (shows_met os _)) ?_
  intro W base args ds gs before hval0 hW _ hsz hL _
  have hval : ∀ (j : Nat) t v, Tryd.f3.params[j]? = some t → args[j]? = some v → Value.okWide Tryd.prog W .any base t v := hval0
  have hW' := hW
  obtain ⟨p, q, hA, hV, rfl, hfz, hnd⟩ := hW
  obtain ⟨rfl, rfl⟩ := trodVars_none hV
  have hA : DataW.TrodAll enc Tryd.prog W 0 (fun _ => true) true Tryd.f3.params.toList args.toList ds p := hA
  rw [Tryd.params3] at hA hval hsz
  obtain ⟨v0, d0, rfl, rfl, h0⟩ := trodAll_one hA
  have hs0 : ∀ n ∈ DataW.weights Tryd.prog _ d0, n ≤ reachBytes := fun n hn => by simpa using List.all_eq_true.1 hsz n (DataW.weights_mem_each (j := 0) rfl rfl n hn)
  refine (linesShows_open W (shows_laid hL) (hval 0 _ _ rfl rfl) h0 hs0).mono fun e W' ⟨he, hb⟩ => ?_
  exact law_close laidOut (b := 4) rfl Tryd.underlying4 rfl (readables _ (by kernel_rfl)) rfl hW' he hb
end Ln
theorem linesShows_holds : Rows.LinesShowsSaid :=
  OpenClaim.holds_of_wide 3 Tryd.f3 rfl rfl rfl rfl rfl rfl rfl ⟨rfl, rfl, rfl, rfl, rfl⟩ rfl rfl rfl rfl rfl (by kernel_rfl) Tryd.func3 (by kernel_rfl)
    (of_decide_eq_true (by kernel_rfl)) (by unfold Func.isWrapper; first | (rw [if_pos (by decide +kernel)]; kernel_rfl) | (rw [if_neg (by decide +kernel)]; exact ⟨rfl, rfl⟩))
    (fun os started H enc _ => Ln.linesShows_lifted os started H enc)
theorem linesShows_card : Rows.LinesShowsCardSaid :=
  Claim7.holds_tied_plain_at .later [] [.data, .data, .data, .data] true Rows.linesShowsCard.stood.harness true
    linesShows_holds (fun _ h => by cases h) (by kernel_rfl) (fun _ h => by cases h) linesShows_row_tie rfl ⟨rfl, rfl⟩ (by kernel_rfl) rfl
    (fun f fn hf hfn => by
      obtain rfl : f = 3 := Option.some.inj ((show Tryd.prog.funcNamed "sheaves/sheaveslaw.LinesShows" = some 3 by kernel_rfl).symm.trans hf) |>.symm
      obtain rfl : fn = Tryd.f3 := (Option.some.inj (Tryd.func3.symm.trans hfn)).symm
      exact ⟨by kernel_rfl, fun j t ht => by
        have hall : (Tryd.f3.params.toList.all fun u => !Tryd.prog.wantsStandIn u) = true := by kernel_rfl
        have := List.all_eq_true.1 hall t (by simpa using Array.mem_of_getElem? ht)
        exact (show Tryd.prog.wantsStandIn t = false by simpa using this)⟩)
    (by kernel_rfl)
end Go.Proofs.YtbcoecmeoemmeaaDoor
