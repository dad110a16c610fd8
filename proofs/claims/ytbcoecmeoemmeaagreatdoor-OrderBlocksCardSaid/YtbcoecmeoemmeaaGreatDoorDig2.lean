/- The digests of batches and of headers: of the program and of the document. -/
import Derived.Test.YtbcoecmeoemmeaaGreatDoorDig0
import Derived.Test.YtbcoecmeoemmeaaGreatDoorBlakeU
namespace Go.Proofs.YtbcoecmeoemmeaaGreatDoor
open Go.ChangeShapes Go.WideShapes Go.ChangeAt Go.RowKit
set_option linter.unusedVariables false
set_option linter.unusedSimpArgs false
theorem from_from {h : View} {b b' : Nat} (hb : b' ≤ b) : VLe (View.from h b) (View.from h b') := fun a v e => by
  unfold View.from at e ⊢
  split at e
  · cases e
  · rw [if_neg (by omega)]; exact e
def batD (a n : Int) (l : List ByteArray) : List UInt8 := tagR 1 [batchB a n l]
def hdrD (a r : Int) (b p : List (List UInt8)) : List UInt8 := tagR 2 [headerB a r b p]
def batDR (a n : Int) (l : List ByteArray) : List UInt8 := if batchF a n l = 0 then batD a n l else []
def hdrDR (a r : Int) (b p : List (List UInt8)) : List UInt8 := if headF a r b p = 0 then hdrD a r b p else []
theorem row_one (w : World) {d : Value} {x : List UInt8} (hd : RBytes w.cell? d x) : RDigs (w.alloc (.cells #[d] 41)).cell? (.slice (some ⟨w.heap.size, 0, none⟩) 1 1) [x] :=
  digs_one ((Blk.new w 41 #[d]).cell 0) (hd.mono (vle_below (below_one _ _)))
theorem headF_zero4 {a r : Int} {b p : List (List UInt8)} (h : headF a r b p = 0) : 1 ≤ r ∧ r ≤ 1048576 ∧ b.flatten.length + p.flatten.length ≤ 224 := by
  obtain ⟨h1, h2, h3, h4⟩ := headF_zero h
  exact ⟨h1, h2, by omega⟩
set_option maxHeartbeats 2000000 in
set_option maxRecDepth 100000 in
theorem batchDigestR_any (a n : Int) (vl : Value) (l : List ByteArray) (w : World) (hr0 : 0 ≤ n) (hr1 : n ≤ 140737488355328) (hl : RTexts w.cell? vl l) (hsz : 5 + (textsB l).length ≤ 140737488355328) :
    Calls Tryz.prog 31 #[.agg #[.int .i64 a, .int .i64 n, vl]] w fun e w' => ∃ d, e = .returned d ∧ Below w.heap.size w w' ∧ RBytes (View.from w'.cell? w.heap.size) d (batD a n l) := by
  obtain ⟨A, c, rfl, _⟩ := id hl
  obtain ⟨Y, hY⟩ : ∃ Y, Hid (batchB a n l = Y) := ⟨_, rfl⟩
  rw [show batD a n l = tagR 1 [Y] from by unfold batD; rw [hY.out]]
  obtain ⟨R, hR⟩ : ∃ R, Hid (tagR 1 [Y] = R) := ⟨_, rfl⟩
  rw [hR.out]
  go_enter Tryz.func31, Tryz.ntmps31
  go_wp2_with fail
  refine one_block _ _ _ (fun W => Calls Tryz.prog _ _ W _) (fun W hk hszW hbW => ?_)
  refine (batchBytes_any a n _ l _ hr0 hr1 (hl.mono (vle_below hbW)) hsz).mono ?_
  rintro e w1 ⟨v1, rfl, hb1, ho1⟩
  rw [hY.out] at ho1
  have hbl := hbW.trans (hb1.mono hbW.size)
  have hYl : Y.length ≤ 140737488355328 := by rw [← hY.out, batchB_len]; omega
  obtain ⟨A1, c1, rfl⟩ := ho1.form
  go_wp2_with fail
  have hb2 := below_one w1 (.cells #[.slice A1 Y.length c1] 41)
  refine (taggedOf_any 1 _ [Y] _ (row_one w1 (ho1.reads (bs := 1) (by omega)))).mono ?_
  rintro e w2 ⟨d, rfl, hb3, hr⟩
  have hbl2 := hbl.trans (hb2.mono hbl.size)
  have hbl3 := hbl2.trans (hb3.mono hbl2.size)
  rw [hR.out] at hr
  clear ho1
  go_wp2
  go_ret
  exact ⟨_, rfl, hbl3, hr.mono (from_from hbl2.size)⟩
set_option maxHeartbeats 2000000 in
set_option maxRecDepth 100000 in
theorem headerDigestR_any (a n : Int) (vb vp : Value) (b p : List (List UInt8)) (w : World) (hr0 : 0 ≤ n) (hr1 : n ≤ 140737488355328) (hb : RDigs w.cell? vb b) (hp : RDigs w.cell? vp p) (hsz : 6 + b.flatten.length + p.flatten.length ≤ 140737488355328) :
    Calls Tryz.prog 100 #[.agg #[.int .i64 a, .int .i64 n, vb, vp]] w fun e w' => ∃ d, e = .returned d ∧ Below w.heap.size w w' ∧ RBytes (View.from w'.cell? w.heap.size) d (hdrD a n b p) := by
  obtain ⟨bA, bc, rfl, _⟩ := id hb
  obtain ⟨pA, pc, rfl, _⟩ := id hp
  obtain ⟨Y, hY⟩ : ∃ Y, Hid (headerB a n b p = Y) := ⟨_, rfl⟩
  rw [show hdrD a n b p = tagR 2 [Y] from by unfold hdrD; rw [hY.out]]
  obtain ⟨R, hR⟩ : ∃ R, Hid (tagR 2 [Y] = R) := ⟨_, rfl⟩
  rw [hR.out]
  go_enter Tryz.func100, Tryz.ntmps100
  go_wp2_with fail
  refine one_block _ _ _ (fun W => Calls Tryz.prog _ _ W _) (fun W hk hszW hbW => ?_)
  refine (headerBytes_any a n _ _ b p _ hr0 hr1 (hb.mono RDig.mono (vle_below hbW)) (hp.mono RDig.mono (vle_below hbW)) hsz).mono ?_
  rintro e w1 ⟨v1, rfl, hb1, ho1⟩
  rw [hY.out] at ho1
  have hbl := hbW.trans (hb1.mono hbW.size)
  have hYl : Y.length ≤ 140737488355328 := by rw [← hY.out, headerB_len]; omega
  obtain ⟨A1, c1, rfl⟩ := ho1.form
  go_wp2_with fail
  have hb2 := below_one w1 (.cells #[.slice A1 Y.length c1] 41)
  refine (taggedOf_any 2 _ [Y] _ (row_one w1 (ho1.reads (bs := 1) (by omega)))).mono ?_
  rintro e w2 ⟨d, rfl, hb3, hr⟩
  have hbl2 := hbl.trans (hb2.mono hbl.size)
  have hbl3 := hbl2.trans (hb3.mono hbl2.size)
  rw [hR.out] at hr
  clear ho1
  go_wp2
  go_ret
  exact ⟨_, rfl, hbl3, hr.mono (from_from hbl2.size)⟩
set_option maxHeartbeats 2000000 in
set_option maxRecDepth 100000 in
theorem batchDigestW_any (a n : Int) (vl : Value) (l : List ByteArray) (w : World) (hl : RTexts w.cell? vl l) (hs : ∀ s ∈ l, s.size ≤ 140737488355328) (hT : Tabs w.cell?) :
    Calls Tryz.prog 25 #[.agg #[.int .i64 a, .int .i64 n, vl]] w fun e w' => ∃ d, e = .returned (.tuple #[d, .int .i64 (batchF a n l)]) ∧ Below w.heap.size w w' ∧ RBytes (View.from w'.cell? w.heap.size) d (batDR a n l) := by
  obtain ⟨A, c, rfl, _⟩ := id hl
  obtain ⟨E, hE⟩ : ∃ E, Hid (batchF a n l = E) := ⟨_, rfl⟩
  obtain ⟨R, hR⟩ : ∃ R, Hid (batDR a n l = R) := ⟨_, rfl⟩
  rw [hE.out, hR.out]
  go_enter Tryz.func25, Tryz.ntmps25
  go_wp2_with fail
  refine one_block _ _ _ (fun W => Calls Tryz.prog _ _ W _) (fun W hk hszW hbW => ?_)
  refine (checkBatch_any a n _ l _ (hl.mono (vle_below hbW)) hs).mono ?_
  rintro e w1 ⟨rfl, hb1⟩
  have hbl := hbW.trans (hb1.mono hbW.size)
  have hk1 := hk.kept hb1
  rw [hE.out]
  by_cases h0 : E = 0
  · subst h0
    obtain ⟨q0, q1, q2⟩ := batchF_zero hE.out
    obtain ⟨Y, hY⟩ : ∃ Y, Hid (batchB a n l = Y) := ⟨_, rfl⟩
    have hR2 : Hid (tagR 1 [Y] = R) := by show _ = _; rw [← hR.out, ← hY.out]; unfold batDR batD; rw [if_pos hE.out]
    have g0 := hk1.cell 0; have g1 := hk1.cell 1; have g2 := hk1.cell 2
    simp at g0 g1 g2
    go_wp2_with fail
    refine (putBatch_any w1 _ [] a n _ l _ (Below.refl _ _) (OwnVec.nil _ _ _ _) (by omega) (by omega) (hl.mono (vle_below hbl)) (by simp only [List.length_nil]; omega)).mono ?_
    rintro e w2 ⟨v1, rfl, hb2, _, ho1⟩
    rw [List.nil_append, hY.out] at ho1
    have hYl : Y.length ≤ 140737488355328 := by rw [← hY.out, batchB_len]; omega
    have hbl2 := hbl.trans (hb2.mono hbl.size)
    clear hk1 hk
    obtain ⟨A1, c1, rfl⟩ := ho1.form
    go_wp2_with fail
    have hb3 := below_one w2 (.cells #[.slice A1 Y.length c1] 41)
    have hbl3 := hbl2.trans (hb3.mono hbl2.size)
    refine (tagged_any 1 _ [Y] _ (row_one w2 (ho1.reads (bs := 1) (by omega))) (hT.mono (vle_below hbl3))).mono ?_
    rintro e w3 ⟨d, rfl, hb4, hr⟩
    have hbl4 := hbl3.trans (hb4.mono hbl3.size)
    rw [hR2.out] at hr
    clear ho1 hT
    go_wp2
    go_ret2
    exact ⟨_, rfl, hbl4, hr.mono (from_from hbl3.size)⟩
  · have hR2 : Hid (R = []) := by show _ = _; rw [← hR.out]; unfold batDR; rw [if_neg (by rw [hE.out]; exact h0)]
    clear hk hk1
    go_wp2
    go_ret2
    exact ⟨_, rfl, hbl, by rw [hR2.out]; exact RVec.nil _ _ _⟩
set_option maxHeartbeats 2000000 in
set_option maxRecDepth 100000 in
theorem headerDigestW_any (a n : Int) (vb vp : Value) (b p : List (List UInt8)) (w : World) (hb : RDigs w.cell? vb b) (hp : RDigs w.cell? vp p)  (hT : Tabs w.cell?) :
    Calls Tryz.prog 44 #[.agg #[.int .i64 a, .int .i64 n, vb, vp]] w fun e w' => ∃ d, e = .returned (.tuple #[d, .int .i64 (headF a n b p)]) ∧ Below w.heap.size w w' ∧ RBytes (View.from w'.cell? w.heap.size) d (hdrDR a n b p) := by
  obtain ⟨bA, bc, rfl, _⟩ := id hb
  obtain ⟨pA, pc, rfl, _⟩ := id hp
  obtain ⟨E, hE⟩ : ∃ E, Hid (headF a n b p = E) := ⟨_, rfl⟩
  obtain ⟨R, hR⟩ : ∃ R, Hid (hdrDR a n b p = R) := ⟨_, rfl⟩
  rw [hE.out, hR.out]
  go_enter Tryz.func44, Tryz.ntmps44
  go_wp2_with fail
  refine one_block _ _ _ (fun W => Calls Tryz.prog _ _ W _) (fun W hk hszW hbW => ?_)
  refine (checkHeader_any a n _ _ b p _ (hb.mono RDig.mono (vle_below hbW)) (hp.mono RDig.mono (vle_below hbW))).mono ?_
  rintro e w1 ⟨rfl, hb1⟩
  have hbl := hbW.trans (hb1.mono hbW.size)
  have hk1 := hk.kept hb1
  rw [hE.out]
  by_cases h0 : E = 0
  · subst h0
    obtain ⟨q0, q1, q2⟩ := headF_zero4 hE.out
    obtain ⟨Y, hY⟩ : ∃ Y, Hid (headerB a n b p = Y) := ⟨_, rfl⟩
    have hR2 : Hid (tagR 2 [Y] = R) := by show _ = _; rw [← hR.out, ← hY.out]; unfold hdrDR hdrD; rw [if_pos hE.out]
    have g0 := hk1.cell 0; have g1 := hk1.cell 1; have g2 := hk1.cell 2; have g3 := hk1.cell 3
    simp at g0 g1 g2 g3
    go_wp2_with fail
    refine (putHeader_any w1 _ [] a n _ _ b p _ (Below.refl _ _) (OwnVec.nil _ _ _ _) (by omega) (by omega) (hb.mono RDig.mono (vle_below hbl)) (hp.mono RDig.mono (vle_below hbl)) (by simp only [List.length_nil]; omega)).mono ?_
    rintro e w2 ⟨v1, rfl, hb2, _, ho1⟩
    rw [List.nil_append, hY.out] at ho1
    have hYl : Y.length ≤ 140737488355328 := by rw [← hY.out, headerB_len]; omega
    have hbl2 := hbl.trans (hb2.mono hbl.size)
    clear hk1 hk
    obtain ⟨A1, c1, rfl⟩ := ho1.form
    go_wp2_with fail
    have hb3 := below_one w2 (.cells #[.slice A1 Y.length c1] 41)
    have hbl3 := hbl2.trans (hb3.mono hbl2.size)
    refine (tagged_any 2 _ [Y] _ (row_one w2 (ho1.reads (bs := 1) (by omega))) (hT.mono (vle_below hbl3))).mono ?_
    rintro e w3 ⟨d, rfl, hb4, hr⟩
    have hbl4 := hbl3.trans (hb4.mono hbl3.size)
    rw [hR2.out] at hr
    clear ho1 hT
    go_wp2
    go_ret2
    exact ⟨_, rfl, hbl4, hr.mono (from_from hbl3.size)⟩
  · have hR2 : Hid (R = []) := by show _ = _; rw [← hR.out]; unfold hdrDR; rw [if_neg (by rw [hE.out]; exact h0)]
    clear hk hk1
    go_wp2
    go_ret2
    exact ⟨_, rfl, hbl, by rw [hR2.out]; exact RVec.nil _ _ _⟩
end Go.Proofs.YtbcoecmeoemmeaaGreatDoor
