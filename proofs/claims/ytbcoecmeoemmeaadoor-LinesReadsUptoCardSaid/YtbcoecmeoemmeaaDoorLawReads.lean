/- The law LinesReads, where what it reads is of bulk at most 1048576: lines.Read answers what the document's ActsOf answers; its card: the tables tied to the program's text. -/
import Derived.Test.YtbcoecmeoemmeaaDoorLn18
import Derived.Test.YtbcoecmeoemmeaaDoorOpenWords
import Derived.Test.YtbcoecmeoemmeaaDoorCards
import Derived.Test.YtbcoecmeoemmeaaDoorTie
import Derived.LaidMore
import Derived.Stop.Joined
import Derived.SevenTiedAt
import Derived.Lib.LaidTab
import Derived.Deep.DeepHandedRow
import Derived.Deep.DeepWitnessRowRef
import Derived.ChangeMaps5
namespace Go.Proofs.YtbcoecmeoemmeaaDoor
open Go.ChangeShapes Go.WideShapes Go.ChangeAt Go.RowKit
set_option linter.unusedVariables false
set_option linter.unusedSimpArgs false
namespace Ln
set_option maxHeartbeats 1000000 in
set_option maxRecDepth 100000 in
theorem sameActsB_any (va vb : Value) (l : List Ac) (w : World) (ra : RActs w.cell? va l) (rb : RActs w.cell? vb l) :
    Calls Tryd.prog 8 #[va, vb] w fun e w' => e = .returned (.bool true) ∧ Below w.heap.size w w' := by
  obtain ⟨A, ca, rfl, a1, a2, a3, ael⟩ := ra.at
  obtain ⟨B, cb, rfl, b1, b2, b3, bel⟩ := rb.at
  have Ael := Lib.hid ael
  have Bel := Lib.hid bel
  obtain ⟨n, hn⟩ : ∃ n, Hid (l.length = n) := ⟨_, rfl⟩
  rw [hn.out] at a1 a3 b1 b3 ⊢
  clear ael bel ra rb
  go_enter Tryd.func8, Tryd.ntmps8
  go_wp2
  go_loopw [5] (fun ct wr => ∃ k : Nat, k ≤ n ∧ ct = .int .i64 k ∧ Below w.heap.size w wr) (fun ct _ => n - (intOf ct).toNat)
  case atStart => exact ⟨0, Nat.zero_le _, rfl, Below.refl _ _⟩
  case round =>
    obtain ⟨k, hk, rfl, hbl⟩ := hrel
    by_cases hlt : k < n
    · have hkl : k < l.length := by have := hn.out; omega
      obtain ⟨ba, oa, rfl, c0, c1, c2, c3⟩ := Ael.out k hkl
      obtain ⟨bb, ob, rfl, d0, d1, d2, d3⟩ := Bel.out k hkl
      obtain ⟨a, ha⟩ : ∃ a, Hid (l[k] = a) := ⟨_, Lib.hid rfl⟩
      rw [ha.out] at c0 c1 c2 c3 d0 d1 d2 d3
      obtain ⟨ak, an, ap, atx⟩ := a
      simp only at c0 c1 c2 c3 d0 d1 d2 d3
      have H := Lib.hid (And.intro c0 (And.intro c1 (And.intro c2 (And.intro c3 (And.intro d0 (And.intro d1 (And.intro d2 d3)))))))
      clear c0 c1 c2 c3 d0 d1 d2 d3
      go_wp2_with fail
      refine wp_region_pl (fun w' => Below w.heap.size w w') [] (.q 0 (.q 1 (.q 2 (.q 3 (.q 4 (.q 5 (.q 6 (.q 7 (.q 8 .nil))))))))) (by kernel_rfl) (by kernel_rfl) (fun _ _ d _ _ h => by cases d <;> exact h) rfl (by kernel_rfl) ?_ ?_
      · exact hbl.drew
      intro W hS
      repeat (first
        | (refine pl_q (by assumption) rfl rfl ?_; apply Exists.intro; refine ⟨fun w' hS => ?_, ?_⟩; (· (have hv := vle_below hS; obtain ⟨c0, c1, c2, c3, d0, d1, d2, d3⟩ := H.out; have c0 := hv _ _ c0; have c1 := hv _ _ c1; have c2 := hv _ _ c2; have c3 := hv _ _ c3; have d0 := hv _ _ d0; have d1 := hv _ _ d1; have d2 := hv _ _ d2; have d3 := hv _ _ d3; go_simp; exact rfl)); simp only [List.getElem_toArray, List.getElem_cons_zero, List.getElem_cons_succ, Act.put, List.setIfInBounds_toArray, List.set_cons_zero, List.set_cons_succ])
        | (refine pl_qc rfl rfl ?_; apply Exists.intro; refine ⟨fun w' _ => ?_, ?_⟩; (· (go_simp; exact rfl)); simp only [List.getElem_toArray, List.getElem_cons_zero, List.getElem_cons_succ, Act.put, List.setIfInBounds_toArray, List.set_cons_zero, List.set_cons_succ])
        | (refine pl_skip (by assumption) rfl rfl ?_; simp only [List.getElem_toArray, List.getElem_cons_zero, List.getElem_cons_succ, Act.put, List.setIfInBounds_toArray, List.set_cons_zero, List.set_cons_succ])
        | (refine pl_skipl (by assumption) rfl rfl ?_; simp only [List.getElem_toArray, List.getElem_cons_zero, List.getElem_cons_succ, Act.put, List.setIfInBounds_toArray, List.set_cons_zero, List.set_cons_succ]))
      refine pl_nil ?_
      go_wp2_with fail
      go_roundw
      case rel => exact ⟨k + 1, by omega, by go_num, hS⟩
      case measure => simp [intOf]; omega
    · go_wp2
      go_ret
      exact ⟨rfl, hbl⟩
set_option maxHeartbeats 4000000 in
set_option maxRecDepth 100000 in
theorem linesReads_any (s : ByteArray) (hs : s.size ≤ 1048576) (w : World) (hE : Env w) :
    Calls Tryd.prog 4 #[.string s] w fun e w' => e = .returned (.bool true) ∧ Below w.heap.size w w' := by
  have h2 := read_two s.size 0 s.data.toList []
  have hr := read_any s hs w hE
  rw [h2] at hr
  obtain ⟨R, hR⟩ : ∃ R, Hid (readG (lineG numRo) s.size 0 s.data.toList [] = R) := ⟨_, rfl⟩
  rw [hR.out] at hr
  have Hr := Lib.hid hr
  clear hr h2
  go_enter Tryd.func4, Tryd.ntmps4
  go_wp2_with fail
  refine Hr.out.mono ?_
  rintro e w1 ⟨⟨va, rfl, ra⟩, hb1⟩
  have ha := actsOf_any s hs w1
  rw [hR.out] at ha
  have Ha := Lib.hid ha
  clear ha hR
  go_wp2_with fail
  refine Ha.out.mono ?_
  rintro e w2 ⟨⟨vb, rfl, rb⟩, hb2⟩
  have ra2 := ra.mono RAct.mono (vle_below hb2)
  have hb3 := hb1.trans (hb2.mono hb1.size)
  go_wp2_with fail
  refine (sameActsB_any va vb _ _ ra2 rb).mono ?_
  rintro e w3 ⟨rfl, hb4⟩
  go_wp2
  go_ret
  exact ⟨rfl, hb3.trans (hb4.mono hb3.size)⟩
theorem iface_cell {W : World} {nm : String} {g : Nat} {cs : Array Value} {t : TypeId} {fuel : Nat} {ps : List MemPlace} {H : Type} {enc : TypeId × Value → H} {base : Nat} {sp : Nat → Bool} {ms : Array (String × TypeId)} {name : String} {d : DataW H} (hg0 : Tryd.prog.globalNamed nm = some g) (ht0 : (Tryd.prog.globals[g]?).map (·.type) = some t) (hi : Tryd.prog.underlying t = some (.interface ms))
    {g' : Nat} {t' : TypeId} (hg : Tryd.prog.globalNamed nm = some g') (ht : (Tryd.prog.globals[g']?).map (·.type) = some t') (hv : W.var? Tryd.prog nm = some cs)
    (hd : DataW.trod enc Tryd.prog W base sp false fuel t' cs.toList = some (.iface name d, ps)) : ∃ ev, W.cell? ⟨g, 0, none⟩ = some ev ∧ (ev = .nilIface ∨ ∃ te pe, ev = .iface te pe) := by
  obtain rfl := Option.some.inj (hg0.symm.trans hg)
  obtain rfl := Option.some.inj (ht0.symm.trans ht)
  obtain ⟨_, u, v, e, _, _⟩ := iface_of_trod hi hd
  refine ⟨.iface u v, ?_, .inr ⟨u, v, rfl⟩⟩
  rw [World.var?_cell hg hv 0, ← Array.getElem?_toList, e]
  rfl
theorem env_of {W : World} (h : laidMetH Tryd.prog Rows.linesReadsUptoRow.laid W) (hs : W.ShapedOpen Tryd.prog) : Env W := by
  unfold Rows.linesReadsUptoRow at h
  rw [MakeChecks.laidMetH_plain _ _ _ (by kernel_rfl)] at h
  obtain ⟨ps, ⟨g0, t0, cs0, f0, p0, q0, hg0, ht0, hv0, hd0, ⟨g1, t1, cs1, f1, p1, q1, hg1, ht1, hv1, hd1, ⟨g2, t2, cs2, f2, p2, q2, hg2, ht2, hv2, hd2, ⟨g3, t3, cs3, f3, p3, q3, hg3, ht3, hv3, hd3, ⟨g4, t4, cs4, f4, p4, q4, hg4, ht4, hv4, hd4, ⟨g5, t5, cs5, f5, p5, q5, hg5, ht5, hv5, hd5, ⟨g6, t6, cs6, f6, p6, q6, hg6, ht6, hv6, hd6, _, _⟩, _⟩, _⟩, _⟩, _⟩, _⟩, _⟩, _, _⟩ := h
  refine ⟨words_of hg6 ht6 hv6 hd6, pow_of hg2 ht2 hv2 hd2, ?_, ?_, ?_⟩
  · exact cell_of_shapedOpen_int (zero := #[.int .i64 0]) (t := 3) hs (of_decide_eq_true (by kernel_rfl)) (by kernel_rfl) rfl (by kernel_rfl) (by kernel_rfl) Tryd.underlying3
  · exact iface_cell (t := 42) (show Tryd.prog.globalNamed "strconv.ErrSyntax" = some 3 by kernel_rfl) (by kernel_rfl) Tryd.underlying42 hg5 ht5 hv5 hd5
  · exact iface_cell (t := 42) (show Tryd.prog.globalNamed "strconv.ErrRange" = some 4 by kernel_rfl) (by kernel_rfl) Tryd.underlying42 hg4 ht4 hv4 hd4
/-- the cells of a table -/
def tabCells : DataW Unit → Array Value
  | .agg l => (l.map fun d => match d with | .lit (.int k z) => Value.int k z | _ => undef).toArray
  | _ => #[]
/-- a world for the witness: the door's, the pinned table laid -/
noncomputable def rdWorld (os : Os) : World :=
  { World.doorLaid Tryd.prog 400 os with heap := (World.doorLaid Tryd.prog 400 os).heap.modify 7 fun
      | .cells _ t frozen => .cells (tabCells Go.Pinned.utf8First) t frozen
      | o => o }
theorem rd_met (os : Os) : laidMetH Tryd.prog Rows.linesReadsUptoRow.laid ((rdWorld os).forCall (fun _ _ => 0) ⟨#[], #[.string ByteArray.empty], []⟩).memory :=
  laidMetH_of_parts3 (fuel := 8) (laidMet_of_run' 8 (by kernel_rfl) (by kernel_rfl)) (by kernel_rfl) (by kernel_rfl)
theorem rd_reads (os : Os) {H : Type} (enc : TypeId × Value → H) : ∃ places, DataW.whole enc Tryd.prog ((rdWorld os).forCall (fun _ _ => 0) ⟨#[], #[.string ByteArray.empty], []⟩).memory Tryd.f4.params.toList Rows.linesReadsSpec.vars false #[Value.string ByteArray.empty].toList 8 = some ([.lit (.string [])], [], places) :=
  ⟨[], by kernel_rfl⟩
set_option maxRecDepth 100000 in
theorem linesReads_lifted (os : Os) (started : os.Started) (H : Type) (enc : TypeId × Value → H) (F : Stop.Interp) :
    ReturnsInHanded {} Tryd.checked os 4 .any ((Rows.OpenSpec.upto Rows.linesReadsSpec).preRow enc Tryd.prog Tryd.f4 Rows.linesReadsUptoRow.domain false Rows.linesReadsUptoRow.laid) (((Rows.OpenSpec.upto Rows.linesReadsSpec).at F).post enc Tryd.prog Tryd.f4 false true false false) := by
  obtain ⟨places, hx⟩ := rd_reads os enc
  refine returnsInHanded_of_row (C := Tryd.checked) (s := Rows.OpenSpec.upto Rows.linesReadsSpec) own_ started (by kernel_rfl) Tryd.func4
    (witness_row_atRef (enc := enc) (C := Tryd.checked) false (rdWorld os) #[.string ByteArray.empty] rfl (by kernel_rfl) (by kernel_rfl) (by kernel_rfl)
      (OpenSpec.preRow_of_cond 8 hx (by kernel_rfl) (fun k hk => by cases hk; kernel_rfl) (by kernel_rfl) (rd_met os))) ?_
  intro W base args ds gs before hval0 hW _ hcond _ hL hsh _
  have hval : ∀ (j : Nat) t v, Tryd.f4.params[j]? = some t → args[j]? = some v → Value.okWide Tryd.prog W .any base t v := hval0
  have hW' := hW
  obtain ⟨p, q, hA, hV, rfl, hfz, hnd⟩ := hW
  obtain ⟨rfl, rfl⟩ := trodVars_none hV
  have hA : DataW.TrodAll enc Tryd.prog W 0 (fun _ => true) true Tryd.f4.params.toList args.toList ds p := hA
  rw [Tryd.params4] at hA hval
  obtain ⟨v0, d0, rfl, rfl, h0⟩ := trodAll_one hA
  have hk : Rows.uptoBulkAll ([d0] ++ ([] : List (DataW H))) ≤ 1048576 := of_decide_eq_true (hcond _ rfl)
  obtain ⟨s, rfl, rfl, ws⟩ := Go.ChangeMaps.open_string Tryd.underlying9 (hval 0 _ _ rfl rfl) h0
  have hs : s.size ≤ 1048576 := by
    simp only [Rows.uptoBulkAll, Rows.uptoBulk, List.append_nil] at hk
    have : s.data.toList.length = s.size := Array.length_toList
    omega
  refine (linesReads_any s hs W (env_of hL hsh)).mono fun e W' ⟨he, hb⟩ => ?_
  exact law_close (s := Rows.linesReadsSpec) laidOut (b := 4) rfl Tryd.underlying4 rfl (readables _ (by kernel_rfl)) rfl hW' he hb
end Ln
theorem linesReadsUpto_holds : Rows.LinesReadsUptoSaid :=
  OpenClaim.holds_of_cond 4 Tryd.f4 rfl rfl rfl rfl rfl rfl rfl ⟨rfl, rfl, rfl, rfl, rfl⟩ rfl rfl rfl rfl rfl (by kernel_rfl) Tryd.func4 (by kernel_rfl)
    (of_decide_eq_true (by kernel_rfl)) (by unfold Func.isWrapper; first | (rw [if_pos (by decide +kernel)]; kernel_rfl) | (rw [if_neg (by decide +kernel)]; exact ⟨rfl, rfl⟩))
    (fun os started H enc _ F => by rw [OpenClaim.pre_eq_preRow]; exact Ln.linesReads_lifted os started H enc F)
theorem linesReadsUpto_card : Rows.LinesReadsUptoCardSaid :=
  Claim7.holds_tied_plain_at .later [] _ _ _ _ linesReadsUpto_holds (fun _ h => by cases h) (by kernel_rfl) (fun _ h => by cases h) linesReadsUpto_row_tie rfl ⟨rfl, rfl⟩ (by kernel_rfl) rfl
    (fun f fn hf hfn => by
      obtain rfl : f = 4 := Option.some.inj ((show Tryd.prog.funcNamed "sheaves/sheaveslaw.LinesReads" = some 4 by kernel_rfl).symm.trans hf) |>.symm
      obtain rfl : fn = Tryd.f4 := (Option.some.inj (Tryd.func4.symm.trans hfn)).symm
      exact ⟨by kernel_rfl, fun j t ht => by
        have hall : (Tryd.f4.params.toList.all fun u => !Tryd.prog.wantsStandIn u) = true := by kernel_rfl
        have := List.all_eq_true.1 hall t (by simpa using Array.mem_of_getElem? ht)
        exact (show Tryd.prog.wantsStandIn t = false by simpa using this)⟩)
    (by kernel_rfl)
end Go.Proofs.YtbcoecmeoemmeaaDoor
