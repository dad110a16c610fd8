/- The law DagInserts: dag.Insert answers what the document says, at every argument: no condition; its card: the tables tied to the text of the program. -/
import Derived.Test.YtedealljhmokoaaDoorOpenCert
import Derived.Test.YtedealljhmokoaaDoorCopy
import Derived.WalkSpells
import Derived.Test.YtedealljhmokoaaDoorCert
import Derived.Test.YtedealljhmokoaaDoorDig2
import Derived.Shelf.Abstract
import Derived.Test.YtedealljhmokoaaDoorSame
import Derived.Test.YtedealljhmokoaaDoorOpen2
import Derived.Test.YtedealljhmokoaaDoorLaid
import Derived.Test.YtedealljhmokoaaDoorCards
import Derived.Test.YtedealljhmokoaaDoorTie
import Derived.SevenTiedAt
import Derived.Deep.DeepCutAuto
import Derived.Deep.CutBlock
import Derived.Test.YtedealljhmokoaaDoorDagInsertsAllA
namespace Go.Proofs.YtedealljhmokoaaDoor
open Go.ChangeShapes Go.WideShapes Go.ChangeAt Go.RowKit
set_option linter.unusedVariables false
set_option linter.unusedSimpArgs false
theorem insL_len (l : List Crt) (x : Crt) : (insL l x).length ≤ 401 := by
  unfold insL
  split
  · rename_i h
    have h1 : dagF hD cF l = 0 := by
      unfold insE at h
      split at h
      · rename_i h2; exact absurd h h2
      · rename_i h2; exact Decidable.not_not.1 h2
    have := (dag_valid h1).1
    simp
    omega
  · simp
theorem RCrts.form {h : View} {v : Value} {xs : List Crt} (hr : RCrts h v xs) : ∃ A c, v = .slice A xs.length c := by
  obtain ⟨A, c, e, _⟩ := hr
  exact ⟨A, c, e⟩
set_option maxHeartbeats 4000000 in
set_option maxRecDepth 100000 in
theorem dagInserts_any (vl : Value) (l : List Crt) (x : Crt) (vb vp vv : Value) (w : World) (hl : RCrts w.cell? vl l) (hb : RDigs w.cell? vb x.hdr.batches) (hp : RDigs w.cell? vp x.hdr.parents) (hv : RIs w.cell? vv x.voters) (hT : Tabs w.cell?) :
    Calls Tryd.prog 11 #[.agg #[vl], .agg #[.int .i64 x.hdr.author, .int .i64 x.hdr.round, vb, vp, vv]] w fun e w' => e = .returned (.bool true) ∧ Below w.heap.size w w' := by
  obtain ⟨A, c, rfl, hf0⟩ := id hl
  obtain ⟨bA, bc, rfl, hf1⟩ := id hb
  obtain ⟨pA, pc, rfl, hf2⟩ := id hp
  obtain ⟨vA, vc, rfl, hf3⟩ := id hv
  clear hf0 hf1 hf2 hf3
  have hlen : l.length * 88 ≤ 140737488355328 := by obtain ⟨_, _, _, _, _, h, _⟩ := hl; exact h
  have hQl := insL_len l x
  obtain ⟨QE, hQE⟩ : ∃ q, Hid (insE l x = q) := ⟨_, rfl⟩
  obtain ⟨QL, hQL⟩ : ∃ q, Hid (insL l x = q) := ⟨_, rfl⟩
  rw [hQL.out] at hQl
  have HQl := Lib.hid (show QL.length * 88 ≤ 140737488355328 by omega)
  clear hQl
  go_enter Tryd.func11, Tryd.ntmps11
  go_upto_region 1 with fail
  refine two_blocks _ _ _ _ _ (fun W => Code.wp _ _ _ _ W) (fun W hk1 hk2 hsz hbW => ?_)
  clear hsz
  have hzW := hbW.size
  have g0 := hk1.cell 0
  simp at g0
  go_wp2_with fail
  refine (dagCopy_any _ l _ (hl.mono RCrt.mono (vle_below hbW))).mono ?_
  rintro e w1 ⟨v1, rfl, hb1, o1⟩
  have hbl1 := hbW.trans (hb1.mono hzW)
  have hz1 := hbl1.size
  obtain ⟨A1, c1, rfl⟩ := o1.form
  have r1 : RCrts w1.cell? _ l := RCrts.of_own o1 hlen
  have hk11 := hk1.kept hb1
  have hk21 := hk2.kept hb1
  clear o1 g0
  go_upto_region 2 with fail
  refine one_block _ _ _ (fun W => Code.wp _ _ _ _ W) (fun W2 h5 hs5 hb5 => ?_)
  clear hs5
  have hbl2 := hbl1.trans (hb5.mono hz1)
  have hz2 := hbl2.size
  have hk12 := hk11.kept hb5
  have hk22 := hk21.kept hb5
  have r2 := r1.mono RCrt.mono (vle_below hb5)
  have hB2 := hb.mono RDig.mono (vle_below hbl2)
  have hP2 := hp.mono RDig.mono (vle_below hbl2)
  have hV2 := hv.mono (vle_below hbl2)
  have hT2 := hT.mono (vle_below hbl2)
  clear hk11 hk21 r1
  go_cut [6, 7] (fun p e w' => ∃ gb A5 c5, p = .pointer (some ⟨gb, 0, none⟩) ∧ e = .int .i64 QE ∧ Blk w' gb 53 #[.slice A5 QL.length c5] ∧ RCrts w'.cell? (.slice A5 QL.length c5) QL ∧ Below W2.heap.size W2 w' ∧ W2.heap.size ≤ gb)
  case first =>
    refine wp_region_pl (fun w' => Below W2.heap.size W2 w') [9] (.q 0 (.q 1 (.alt 2 (.alt 3 (.q 4 (.q 5 (.q 6 (.l 7 (.l 8 (.qc 9 .nil)))))) 7 (.l 3 (.q 4 (.q 5 (.q 6 (.l 8 (.qc 9 .nil))))))) 7 (.l 2 (.l 3 (.q 4 (.q 5 (.q 6 (.l 8 (.qc 9 .nil)))))))))) (by kernel_rfl) (by kernel_rfl) (fun _ _ d _ _ h => by cases d <;> exact h) rfl (by kernel_rfl) ?_ ?_
    · exact below_drew _
    intro W3 hS3
    repeat (first
      | (refine pl_q (by assumption) rfl rfl ?_; apply Exists.intro; refine ⟨fun w' hS => ?_, ?_⟩; (· (have hq := h5.kept hS; have h0 := hq.cell 0; have hh := hk22.kept hS; have p0 := hh.cell 0; have p1 := hh.cell 1; have p2 := hh.cell 2; have p3 := hh.cell 3; have p4 := hh.cell 4; simp at h0 p0 p1 p2 p3 p4; go_simp; exact rfl)); simp only [List.getElem_toArray, List.getElem_cons_zero, List.getElem_cons_succ, Act.put, List.setIfInBounds_toArray, List.set_cons_zero, List.set_cons_succ])
      | (refine pl_qc rfl rfl ?_; apply Exists.intro; refine ⟨fun w' _ => ?_, ?_⟩; (· (go_simp; exact rfl)); simp only [List.getElem_toArray, List.getElem_cons_zero, List.getElem_cons_succ, Act.put, List.setIfInBounds_toArray, List.set_cons_zero, List.set_cons_succ])
      | (refine pl_skip (by assumption) rfl rfl ?_; simp only [List.getElem_toArray, List.getElem_cons_zero, List.getElem_cons_succ, Act.put, List.setIfInBounds_toArray, List.set_cons_zero, List.set_cons_succ])
      | (refine pl_skipl (by assumption) rfl rfl ?_; simp only [List.getElem_toArray, List.getElem_cons_zero, List.getElem_cons_succ, Act.put, List.setIfInBounds_toArray, List.set_cons_zero, List.set_cons_succ]))
    refine pl_alt ?_ ?_
    · first
        | refine pl_do rfl rfl (fun K hK => ?_)
        | refine op_do rfl rfl (fun K hK => ?_)
      try simp only [List.getElem_toArray, List.getElem_cons_zero, List.getElem_cons_succ]
      go_simp
      refine (certCopy_any _ _ _ _ _ x.hdr.batches x.hdr.parents x.voters _ (hB2.mono RDig.mono (vle_below hS3)) (hP2.mono RDig.mono (vle_below hS3)) (hV2.mono (vle_below hS3))).mono ?_
      rintro e w4 ⟨ub, up, uv, rfl, hb4, s1, s2, s3⟩
      have hS4 := hS3.trans (hb4.mono hS3.size)
      have t1 := s1.mono RDig.mono (View.from_le _ _)
      have t2 := s2.mono RDig.mono (View.from_le _ _)
      have t3 := s3.mono (View.from_le _ _)
      clear s1 s2 s3
      obtain ⟨B1, d1, rfl, hg1⟩ := id t1
      obtain ⟨B2, d2, rfl, hg2⟩ := id t2
      obtain ⟨B3, d3, rfl, hg3⟩ := id t3
      clear hg1 hg2 hg3
      refine hK.out _ _ (hS4) (fun hS => ?_)
      clear hK K
      try simp only [List.getElem_toArray, List.getElem_cons_zero, List.getElem_cons_succ, Act.put, List.setIfInBounds_toArray, List.set_cons_zero, List.set_cons_succ]
      repeat (first
        | (refine pl_q (by assumption) rfl rfl ?_; apply Exists.intro; refine ⟨fun w' hS => ?_, ?_⟩; (· (skip; go_simp; exact rfl)); simp only [List.getElem_toArray, List.getElem_cons_zero, List.getElem_cons_succ, Act.put, List.setIfInBounds_toArray, List.set_cons_zero, List.set_cons_succ])
        | (refine pl_qc rfl rfl ?_; apply Exists.intro; refine ⟨fun w' _ => ?_, ?_⟩; (· (go_simp; exact rfl)); simp only [List.getElem_toArray, List.getElem_cons_zero, List.getElem_cons_succ, Act.put, List.setIfInBounds_toArray, List.set_cons_zero, List.set_cons_succ])
        | (refine pl_skip (by assumption) rfl rfl ?_; simp only [List.getElem_toArray, List.getElem_cons_zero, List.getElem_cons_succ, Act.put, List.setIfInBounds_toArray, List.set_cons_zero, List.set_cons_succ])
        | (refine pl_skipl (by assumption) rfl rfl ?_; simp only [List.getElem_toArray, List.getElem_cons_zero, List.getElem_cons_succ, Act.put, List.setIfInBounds_toArray, List.set_cons_zero, List.set_cons_succ]))
      refine pl_alt ?_ ?_
      · first
          | refine pl_do rfl rfl (fun K hK => ?_)
          | refine op_do rfl rfl (fun K hK => ?_)
        try simp only [List.getElem_toArray, List.getElem_cons_zero, List.getElem_cons_succ]
        go_simp
        refine (dagInsert_any _ l x _ _ _ _ (r2.mono RCrt.mono (vle_below hS4)) t1 t2 t3 (hT2.mono (vle_below hS4))).mono ?_
        rintro e w5 ⟨d5, rfl, hb6, o5⟩
        rw [hQE.out]
        rw [hQL.out] at o5
        have hS5 := hS4.trans (hb6.mono hS4.size)
        have rd5 := RCrts.of_own o5 HQl.out
        obtain ⟨A5, c5, rfl⟩ := rd5.form
        clear o5
        refine hK.out _ _ (hS5) (fun hS => ?_)
        clear hK K
        try simp only [List.getElem_toArray, List.getElem_cons_zero, List.getElem_cons_succ, Act.put, List.setIfInBounds_toArray, List.set_cons_zero, List.set_cons_succ]
        repeat (first
          | (refine pl_q (by assumption) rfl rfl ?_; apply Exists.intro; refine ⟨fun w' hS => ?_, ?_⟩; (· (skip; go_simp; exact rfl)); simp only [List.getElem_toArray, List.getElem_cons_zero, List.getElem_cons_succ, Act.put, List.setIfInBounds_toArray, List.set_cons_zero, List.set_cons_succ])
          | (refine pl_qc rfl rfl ?_; apply Exists.intro; refine ⟨fun w' _ => ?_, ?_⟩; (· (go_simp; exact rfl)); simp only [List.getElem_toArray, List.getElem_cons_zero, List.getElem_cons_succ, Act.put, List.setIfInBounds_toArray, List.set_cons_zero, List.set_cons_succ])
          | (refine pl_skip (by assumption) rfl rfl ?_; simp only [List.getElem_toArray, List.getElem_cons_zero, List.getElem_cons_succ, Act.put, List.setIfInBounds_toArray, List.set_cons_zero, List.set_cons_succ])
          | (refine pl_skipl (by assumption) rfl rfl ?_; simp only [List.getElem_toArray, List.getElem_cons_zero, List.getElem_cons_succ, Act.put, List.setIfInBounds_toArray, List.set_cons_zero, List.set_cons_succ]))
        first
          | refine pl_do rfl rfl (fun K hK => ?_)
          | refine op_do rfl rfl (fun K hK => ?_)
        try simp only [List.getElem_toArray, List.getElem_cons_zero, List.getElem_cons_succ]
        go_simp
        have hn6 := Blk.new w5 53 #[.slice none 0 0]
        have hb66 := below_one w5 (.cells #[.slice none 0 0] 53)
        have hS6 := hS5.trans (hb66.mono hS5.size)
        have hgbW := hS5.size
        refine hK.out _ _ (hS6) (fun hS => ?_)
        clear hK K
        try simp only [List.getElem_toArray, List.getElem_cons_zero, List.getElem_cons_succ, Act.put, List.setIfInBounds_toArray, List.set_cons_zero, List.set_cons_succ]
        first
          | refine pl_do rfl rfl (fun K hK => ?_)
          | refine op_do rfl rfl (fun K hK => ?_)
        try simp only [List.getElem_toArray, List.getElem_cons_zero, List.getElem_cons_succ]
        refine wp_store_whole (n := 1) rfl rfl rfl (by kernel_rfl) rfl hn6 rfl rfl ?_
        intro w7 hB7 hg7
        have hS7 : Below W2.heap.size W2 w7 := below_grownBy hS6 hS6.size hg7 (by intro k e; injection e; omega)
        have rd7 := rd5.mono RCrt.mono ((vle_below_but hb66 (Nat.le_refl _)).trans (vle_grown hg7))
        refine hK.out _ _ (hS7) (fun hS => ?_)
        clear hK K
        try simp only [List.getElem_toArray, List.getElem_cons_zero, List.getElem_cons_succ, Act.put, List.setIfInBounds_toArray, List.set_cons_zero, List.set_cons_succ]
        repeat (first
          | (refine pl_q (by assumption) rfl rfl ?_; apply Exists.intro; refine ⟨fun w' hS => ?_, ?_⟩; (· (skip; go_simp; exact rfl)); simp only [List.getElem_toArray, List.getElem_cons_zero, List.getElem_cons_succ, Act.put, List.setIfInBounds_toArray, List.set_cons_zero, List.set_cons_succ])
          | (refine pl_qc rfl rfl ?_; apply Exists.intro; refine ⟨fun w' _ => ?_, ?_⟩; (· (go_simp; exact rfl)); simp only [List.getElem_toArray, List.getElem_cons_zero, List.getElem_cons_succ, Act.put, List.setIfInBounds_toArray, List.set_cons_zero, List.set_cons_succ])
          | (refine pl_skip (by assumption) rfl rfl ?_; simp only [List.getElem_toArray, List.getElem_cons_zero, List.getElem_cons_succ, Act.put, List.setIfInBounds_toArray, List.set_cons_zero, List.set_cons_succ])
          | (refine pl_skipl (by assumption) rfl rfl ?_; simp only [List.getElem_toArray, List.getElem_cons_zero, List.getElem_cons_succ, Act.put, List.setIfInBounds_toArray, List.set_cons_zero, List.set_cons_succ]))
        refine pl_nil ?_
        go_wp2_with fail
        go_meet
        exact ⟨_, _, _, rfl, rfl, hB7, rd7, hS7, hgbW⟩
      · first
          | refine pl_do rfl rfl (fun K hK => ?_)
          | refine op_do rfl rfl (fun K hK => ?_)
        try simp only [List.getElem_toArray, List.getElem_cons_zero, List.getElem_cons_succ]
        go_simp
        have hn6 := Blk.new w4 53 #[.slice none 0 0]
        have hb66 := below_one w4 (.cells #[.slice none 0 0] 53)
        have hS6 := hS4.trans (hb66.mono hS4.size)
        have hgbW := hS4.size
        have vq := vle_below hb66
        refine hK.out _ _ (hS6) (fun hS => ?_)
        clear hK K
        try simp only [List.getElem_toArray, List.getElem_cons_zero, List.getElem_cons_succ, Act.put, List.setIfInBounds_toArray, List.set_cons_zero, List.set_cons_succ]
        first
          | refine pl_do rfl rfl (fun K hK => ?_)
          | refine op_do rfl rfl (fun K hK => ?_)
        try simp only [List.getElem_toArray, List.getElem_cons_zero, List.getElem_cons_succ]
        go_simp
        refine (dagInsert_any _ l x _ _ _ _ (r2.mono RCrt.mono (vle_below hS6)) (t1.mono RDig.mono vq) (t2.mono RDig.mono vq) (t3.mono vq) (hT2.mono (vle_below hS6))).mono ?_
        rintro e w5 ⟨d5, rfl, hb6, o5⟩
        rw [hQE.out]
        rw [hQL.out] at o5
        have hS5 := hS6.trans (hb6.mono hS6.size)
        have rd5 := o5.reads_from RCrt.mono HQl.out
        obtain ⟨A5, c5, rfl⟩ := RCrts.form rd5
        clear o5
        refine hK.out _ _ (hS5) (fun hS => ?_)
        clear hK K
        try simp only [List.getElem_toArray, List.getElem_cons_zero, List.getElem_cons_succ, Act.put, List.setIfInBounds_toArray, List.set_cons_zero, List.set_cons_succ]
        repeat (first
          | (refine pl_q (by assumption) rfl rfl ?_; apply Exists.intro; refine ⟨fun w' hS => ?_, ?_⟩; (· (skip; go_simp; exact rfl)); simp only [List.getElem_toArray, List.getElem_cons_zero, List.getElem_cons_succ, Act.put, List.setIfInBounds_toArray, List.set_cons_zero, List.set_cons_succ])
          | (refine pl_qc rfl rfl ?_; apply Exists.intro; refine ⟨fun w' _ => ?_, ?_⟩; (· (go_simp; exact rfl)); simp only [List.getElem_toArray, List.getElem_cons_zero, List.getElem_cons_succ, Act.put, List.setIfInBounds_toArray, List.set_cons_zero, List.set_cons_succ])
          | (refine pl_skip (by assumption) rfl rfl ?_; simp only [List.getElem_toArray, List.getElem_cons_zero, List.getElem_cons_succ, Act.put, List.setIfInBounds_toArray, List.set_cons_zero, List.set_cons_succ])
          | (refine pl_skipl (by assumption) rfl rfl ?_; simp only [List.getElem_toArray, List.getElem_cons_zero, List.getElem_cons_succ, Act.put, List.setIfInBounds_toArray, List.set_cons_zero, List.set_cons_succ]))
        first
          | refine pl_do rfl rfl (fun K hK => ?_)
          | refine op_do rfl rfl (fun K hK => ?_)
        try simp only [List.getElem_toArray, List.getElem_cons_zero, List.getElem_cons_succ]
        refine wp_store_whole (n := 1) rfl rfl rfl (by kernel_rfl) rfl (hn6.kept hb6) rfl rfl ?_
        intro w7 hB7 hg7
        have hS7 : Below W2.heap.size W2 w7 := below_grownBy hS5 hS5.size hg7 (by intro k e; injection e; omega)
        have rd7 := rd5.mono RCrt.mono ((from_but (by simp)).trans (vle_grown hg7))
        refine hK.out _ _ (hS7) (fun hS => ?_)
        clear hK K
        try simp only [List.getElem_toArray, List.getElem_cons_zero, List.getElem_cons_succ, Act.put, List.setIfInBounds_toArray, List.set_cons_zero, List.set_cons_succ]
        repeat (first
          | (refine pl_q (by assumption) rfl rfl ?_; apply Exists.intro; refine ⟨fun w' hS => ?_, ?_⟩; (· (skip; go_simp; exact rfl)); simp only [List.getElem_toArray, List.getElem_cons_zero, List.getElem_cons_succ, Act.put, List.setIfInBounds_toArray, List.set_cons_zero, List.set_cons_succ])
          | (refine pl_qc rfl rfl ?_; apply Exists.intro; refine ⟨fun w' _ => ?_, ?_⟩; (· (go_simp; exact rfl)); simp only [List.getElem_toArray, List.getElem_cons_zero, List.getElem_cons_succ, Act.put, List.setIfInBounds_toArray, List.set_cons_zero, List.set_cons_succ])
          | (refine pl_skip (by assumption) rfl rfl ?_; simp only [List.getElem_toArray, List.getElem_cons_zero, List.getElem_cons_succ, Act.put, List.setIfInBounds_toArray, List.set_cons_zero, List.set_cons_succ])
          | (refine pl_skipl (by assumption) rfl rfl ?_; simp only [List.getElem_toArray, List.getElem_cons_zero, List.getElem_cons_succ, Act.put, List.setIfInBounds_toArray, List.set_cons_zero, List.set_cons_succ]))
        refine pl_nil ?_
        go_wp2_with fail
        go_meet
        exact ⟨_, _, _, rfl, rfl, hB7, rd7, hS7, hgbW⟩
    · first
        | refine pl_do rfl rfl (fun K hK => ?_)
        | refine op_do rfl rfl (fun K hK => ?_)
      try simp only [List.getElem_toArray, List.getElem_cons_zero, List.getElem_cons_succ]
      go_simp
      have hn6 := Blk.new W3 53 #[.slice none 0 0]
      have hb66 := below_one W3 (.cells #[.slice none 0 0] 53)
      have hS6 := hS3.trans (hb66.mono hS3.size)
      have hgbW := hS3.size
      refine hK.out _ _ (hS6) (fun hS => ?_)
      clear hK K
      try simp only [List.getElem_toArray, List.getElem_cons_zero, List.getElem_cons_succ, Act.put, List.setIfInBounds_toArray, List.set_cons_zero, List.set_cons_succ]
      first
        | refine pl_do rfl rfl (fun K hK => ?_)
        | refine op_do rfl rfl (fun K hK => ?_)
      try simp only [List.getElem_toArray, List.getElem_cons_zero, List.getElem_cons_succ]
      go_simp
      refine (certCopy_any _ _ _ _ _ x.hdr.batches x.hdr.parents x.voters _ (hB2.mono RDig.mono (vle_below hS6)) (hP2.mono RDig.mono (vle_below hS6)) (hV2.mono (vle_below hS6))).mono ?_
      rintro e w4 ⟨ub, up, uv, rfl, hb4, s1, s2, s3⟩
      have hS4 := hS6.trans (hb4.mono hS6.size)
      have t1 := s1.mono RDig.mono (View.from_le _ _)
      have t2 := s2.mono RDig.mono (View.from_le _ _)
      have t3 := s3.mono (View.from_le _ _)
      clear s1 s2 s3
      obtain ⟨B1, d1, rfl, hg1⟩ := id t1
      obtain ⟨B2, d2, rfl, hg2⟩ := id t2
      obtain ⟨B3, d3, rfl, hg3⟩ := id t3
      clear hg1 hg2 hg3
      refine hK.out _ _ (hS4) (fun hS => ?_)
      clear hK K
      try simp only [List.getElem_toArray, List.getElem_cons_zero, List.getElem_cons_succ, Act.put, List.setIfInBounds_toArray, List.set_cons_zero, List.set_cons_succ]
      repeat (first
        | (refine pl_q (by assumption) rfl rfl ?_; apply Exists.intro; refine ⟨fun w' hS => ?_, ?_⟩; (· (skip; go_simp; exact rfl)); simp only [List.getElem_toArray, List.getElem_cons_zero, List.getElem_cons_succ, Act.put, List.setIfInBounds_toArray, List.set_cons_zero, List.set_cons_succ])
        | (refine pl_qc rfl rfl ?_; apply Exists.intro; refine ⟨fun w' _ => ?_, ?_⟩; (· (go_simp; exact rfl)); simp only [List.getElem_toArray, List.getElem_cons_zero, List.getElem_cons_succ, Act.put, List.setIfInBounds_toArray, List.set_cons_zero, List.set_cons_succ])
        | (refine pl_skip (by assumption) rfl rfl ?_; simp only [List.getElem_toArray, List.getElem_cons_zero, List.getElem_cons_succ, Act.put, List.setIfInBounds_toArray, List.set_cons_zero, List.set_cons_succ])
        | (refine pl_skipl (by assumption) rfl rfl ?_; simp only [List.getElem_toArray, List.getElem_cons_zero, List.getElem_cons_succ, Act.put, List.setIfInBounds_toArray, List.set_cons_zero, List.set_cons_succ]))
      first
        | refine pl_do rfl rfl (fun K hK => ?_)
        | refine op_do rfl rfl (fun K hK => ?_)
      try simp only [List.getElem_toArray, List.getElem_cons_zero, List.getElem_cons_succ]
      go_simp
      refine (dagInsert_any _ l x _ _ _ _ (r2.mono RCrt.mono (vle_below hS4)) t1 t2 t3 (hT2.mono (vle_below hS4))).mono ?_
      rintro e w5 ⟨d5, rfl, hb6, o5⟩
      rw [hQE.out]
      rw [hQL.out] at o5
      have hS5 := hS4.trans (hb6.mono hS4.size)
      have rd5 := o5.reads_from RCrt.mono HQl.out
      obtain ⟨A5, c5, rfl⟩ := RCrts.form rd5
      clear o5
      refine hK.out _ _ (hS5) (fun hS => ?_)
      clear hK K
      try simp only [List.getElem_toArray, List.getElem_cons_zero, List.getElem_cons_succ, Act.put, List.setIfInBounds_toArray, List.set_cons_zero, List.set_cons_succ]
      repeat (first
        | (refine pl_q (by assumption) rfl rfl ?_; apply Exists.intro; refine ⟨fun w' hS => ?_, ?_⟩; (· (skip; go_simp; exact rfl)); simp only [List.getElem_toArray, List.getElem_cons_zero, List.getElem_cons_succ, Act.put, List.setIfInBounds_toArray, List.set_cons_zero, List.set_cons_succ])
        | (refine pl_qc rfl rfl ?_; apply Exists.intro; refine ⟨fun w' _ => ?_, ?_⟩; (· (go_simp; exact rfl)); simp only [List.getElem_toArray, List.getElem_cons_zero, List.getElem_cons_succ, Act.put, List.setIfInBounds_toArray, List.set_cons_zero, List.set_cons_succ])
        | (refine pl_skip (by assumption) rfl rfl ?_; simp only [List.getElem_toArray, List.getElem_cons_zero, List.getElem_cons_succ, Act.put, List.setIfInBounds_toArray, List.set_cons_zero, List.set_cons_succ])
        | (refine pl_skipl (by assumption) rfl rfl ?_; simp only [List.getElem_toArray, List.getElem_cons_zero, List.getElem_cons_succ, Act.put, List.setIfInBounds_toArray, List.set_cons_zero, List.set_cons_succ]))
      first
        | refine pl_do rfl rfl (fun K hK => ?_)
        | refine op_do rfl rfl (fun K hK => ?_)
      try simp only [List.getElem_toArray, List.getElem_cons_zero, List.getElem_cons_succ]
      refine wp_store_whole (n := 1) rfl rfl rfl (by kernel_rfl) rfl ((hn6.kept hb4).kept hb6) rfl rfl ?_
      intro w7 hB7 hg7
      have hS7 : Below W2.heap.size W2 w7 := below_grownBy hS5 hS5.size hg7 (by intro k e; injection e; omega)
      have rd7 := rd5.mono RCrt.mono ((from_but (by have := hb4.size; simp at this; omega)).trans (vle_grown hg7))
      refine hK.out _ _ (hS7) (fun hS => ?_)
      clear hK K
      try simp only [List.getElem_toArray, List.getElem_cons_zero, List.getElem_cons_succ, Act.put, List.setIfInBounds_toArray, List.set_cons_zero, List.set_cons_succ]
      repeat (first
        | (refine pl_q (by assumption) rfl rfl ?_; apply Exists.intro; refine ⟨fun w' hS => ?_, ?_⟩; (· (skip; go_simp; exact rfl)); simp only [List.getElem_toArray, List.getElem_cons_zero, List.getElem_cons_succ, Act.put, List.setIfInBounds_toArray, List.set_cons_zero, List.set_cons_succ])
        | (refine pl_qc rfl rfl ?_; apply Exists.intro; refine ⟨fun w' _ => ?_, ?_⟩; (· (go_simp; exact rfl)); simp only [List.getElem_toArray, List.getElem_cons_zero, List.getElem_cons_succ, Act.put, List.setIfInBounds_toArray, List.set_cons_zero, List.set_cons_succ])
        | (refine pl_skip (by assumption) rfl rfl ?_; simp only [List.getElem_toArray, List.getElem_cons_zero, List.getElem_cons_succ, Act.put, List.setIfInBounds_toArray, List.set_cons_zero, List.set_cons_succ])
        | (refine pl_skipl (by assumption) rfl rfl ?_; simp only [List.getElem_toArray, List.getElem_cons_zero, List.getElem_cons_succ, Act.put, List.setIfInBounds_toArray, List.set_cons_zero, List.set_cons_succ]))
      refine pl_nil ?_
      go_wp2_with fail
      go_meet
      exact ⟨_, _, _, rfl, rfl, hB7, rd7, hS7, hgbW⟩
  case rest =>
    obtain ⟨gb, A5, c5, rfl, rfl, hB7, rd7, hS7, hgb⟩ := hcut
    have hk17 := hk12.kept hS7
    have hk27 := hk22.kept hS7
    have h57 := h5.kept hS7
    have hbl7 := hbl2.trans (hS7.mono hz2)
    have r57 := r2.mono RCrt.mono (vle_below hS7)
    have q7 := vle_below hbl7
    clear hk12 hk22 h5 hB2 hP2 hV2 hT2
    have g0 := hk17.cell 0
    have p0 := hk27.cell 0; have p1 := hk27.cell 1; have p2 := hk27.cell 2; have p3 := hk27.cell 3; have p4 := hk27.cell 4
    simp at g0 p0 p1 p2 p3 p4
    go_wp2_with fail
    refine (insertedIn_any _ l x _ _ _ _ (hl.mono RCrt.mono q7) (hb.mono RDig.mono q7) (hp.mono RDig.mono q7) (hv.mono q7)).mono ?_
    rintro e w8 ⟨d8, rfl, hb8, o8⟩
    rw [hQE.out]
    rw [hQL.out] at o8
    have rd8 := RCrts.of_own o8 HQl.out
    obtain ⟨A8, c8, rfl⟩ := rd8.form
    clear o8 g0 p0 p1 p2 p3 p4
    have hbl8 := hbl7.trans (hb8.mono hbl7.size)
    have hz8 := hbl8.size
    have hB8 := hB7.kept hb8
    have h58 := h57.kept hb8
    have hk18 := hk17.kept hb8
    have rd78 := rd7.mono RCrt.mono (vle_below hb8)
    have r58 := r57.mono RCrt.mono (vle_below hb8)
    clear hB7 h57 hk17 rd7 r57
    go_upto_region 4 with fail
    refine one_block _ _ _ (fun W => Code.wp _ _ _ _ W) (fun W9 h9 hs9 hb9 => ?_)
    clear hs9
    have hbl9 := hbl8.trans (hb9.mono hz8)
    have hz9 := hbl9.size
    have hB9 := hB8.kept hb9
    have h59 := h58.kept hb9
    have hk19 := hk18.kept hb9
    have x0 := hB9.cell 0; have y0 := h9.cell 0
    simp at x0 y0
    have rx := rd78.mono RCrt.mono (vle_below hb9)
    have ry := rd8.mono RCrt.mono (vle_below hb9)
    go_wp2_with fail
    refine (sameCerts_same _ _ QL _ rx ry).mono ?_
    rintro e w10 ⟨rfl, hb10⟩
    have hbl10 := hbl9.trans (hb10.mono hz9)
    have h510 := h59.kept hb10
    have hk110 := hk19.kept hb10
    have z0 := h510.cell 0; have g0 := hk110.cell 0
    simp at z0 g0
    clear x0 y0 rx ry hB8 hB9 h58 h59 hk18 hk19
    go_wp2_with fail
    refine (sameCerts_same _ _ l _ ((r58.mono RCrt.mono (vle_below hb9)).mono RCrt.mono (vle_below hb10)) (hl.mono RCrt.mono (vle_below hbl10))).mono ?_
    rintro e w11 ⟨rfl, hb11⟩
    clear z0 g0
    go_wp2
    go_ret
    exact ⟨rfl, hbl10.trans (hb11.mono hbl10.size)⟩
set_option maxHeartbeats 1000000 in
set_option maxRecDepth 100000 in
theorem dagInserts_open {H : Type} {enc : TypeId × Value → H} (W : World) (hT : Tabs W.cell?) {base : Nat} {v v1 : Value} {d d1 : DataW H} {p p1 : List MemPlace} (hval : Value.okWide Tryd.prog W .any base 53 v) (h : DataW.Trod enc Tryd.prog W 0 (fun _ => true) true 53 v d p)
    (hw : ∀ n ∈ DataW.weights Tryd.prog 53 d, n ≤ reachBytes) (hval1 : Value.okWide Tryd.prog W .any base 60 v1) (h1 : DataW.Trod enc Tryd.prog W 0 (fun _ => true) true 60 v1 d1 p1)
    (hw1 : ∀ n ∈ DataW.weights Tryd.prog 60 d1, n ≤ reachBytes) : Calls Tryd.prog 11 #[v, v1] W fun e w' => e = .returned (.bool true) ∧ Below W.heap.size W w' := by
  obtain ⟨l, y, rfl, hl⟩ := open_dag hval h hw
  obtain ⟨x, vb, vp, vv, rfl, hb, hp, hv⟩ := open_crt hval1 h1 hw1
  exact dagInserts_any _ l x _ _ _ _ hl hb hp hv hT
set_option maxRecDepth 100000 in
theorem dagInserts_lifted (os : Os) (started : os.Started) (H : Type) (enc : TypeId × Value → H) :
    ReturnsInHanded {} Tryd.checked os 11 .any (fun w args => (Rows.dagInsertsSpec.pre enc Tryd.prog Tryd.f11 [] false w args ∧ laidMetH Tryd.prog laid3 w) ∧ sizedMet enc Tryd.prog Tryd.f11 (OpenSpec.ofChange Rows.dagInsertsSpec) false w args) (Rows.dagInsertsSpec.post enc Tryd.prog Tryd.f11 false true false false) := by
  refine returnsInHanded_of_change_and (C := Tryd.checked) (X := fun w _ => laidMetH Tryd.prog laid3 w) (fun _ _ _ hh h => h.of_heap hh) own_ started (by kernel_rfl) Tryd.func11
    (ChangeSpec.witness_shaped (enc := enc) (C := Tryd.checked) (os := os) (X := fun w _ => laidMetH Tryd.prog laid3 w) false (World.doorLaid Tryd.prog 400 os) #[.agg #[.slice none 0 0], .agg #[.int .i64 0, .int .i64 0, .slice none 0 0, .slice none 0 0, .slice none 0 0]] 8 rfl (World.shaped_of_RefB (by kernel_rfl) (by kernel_rfl)) (by kernel_rfl) (by kernel_rfl) (by kernel_rfl) (door_met os _)) ?_
  intro W base args ds gs before hval0 hW _ hsz hL _
  have hval : ∀ (j : Nat) t v, Tryd.f11.params[j]? = some t → args[j]? = some v → Value.okWide Tryd.prog W .any base t v := hval0
  have hW' := hW
  obtain ⟨p, q, hA, hV, rfl, hfz, hnd⟩ := hW
  obtain ⟨rfl, rfl⟩ := trodVars_none hV
  have hA : DataW.TrodAll enc Tryd.prog W 0 (fun _ => true) true Tryd.f11.params.toList args.toList ds p := hA
  rw [Tryd.params11] at hA hval hsz
  obtain ⟨v0, v1, d0, d1, p0, p1, rfl, rfl, rfl, h0, h1⟩ := trodAll_two hA
  have hs0 : ∀ n ∈ DataW.weights Tryd.prog _ d0, n ≤ reachBytes := fun n hn => by simpa using List.all_eq_true.1 hsz n (DataW.weights_mem_each (j := 0) rfl rfl n hn)
  have hs1 : ∀ n ∈ DataW.weights Tryd.prog _ d1, n ≤ reachBytes := fun n hn => by simpa using List.all_eq_true.1 hsz n (DataW.weights_mem_each (j := 1) rfl rfl n hn)
  refine (dagInserts_open W (of_laid hL) (hval 0 _ _ rfl rfl) h0 hs0 (hval 1 _ _ rfl rfl) h1 hs1).mono fun e W' ⟨he, hb⟩ => ?_
  exact law_close laidOut (b := 4) rfl Tryd.underlying4 rfl (readables _ (by kernel_rfl)) rfl hW' he hb
theorem dagInserts_holds : Rows.DagInsertsSaid :=
  OpenClaim.holds_of_wide 11 Tryd.f11 rfl rfl rfl rfl rfl rfl rfl ⟨rfl, rfl, rfl, rfl, rfl⟩ rfl rfl rfl rfl rfl (by kernel_rfl) Tryd.func11 (by kernel_rfl)
    (of_decide_eq_true (by kernel_rfl)) (by unfold Func.isWrapper; first | (rw [if_pos (by decide +kernel)]; kernel_rfl) | (rw [if_neg (by decide +kernel)]; exact ⟨rfl, rfl⟩))
    (fun os started H enc _ => dagInserts_lifted os started H enc)
theorem dagInserts_card : Rows.DagInsertsCardSaid :=
  Claim7.holds_tied_plain_at .later [] [.widerDeep, .data, .data] true Rows.dagInsertsCard.stood.harness false
    dagInserts_holds (fun _ h => by cases h) (by kernel_rfl) (fun _ h => by cases h) dagInserts_row_tie rfl ⟨rfl, rfl⟩ (by kernel_rfl) rfl
    (fun f fn hf hfn => by
      obtain rfl : f = 11 := Option.some.inj ((show Tryd.prog.funcNamed "sheaves/sheaveslaw.DagInserts" = some 11 by kernel_rfl).symm.trans hf) |>.symm
      obtain rfl : fn = Tryd.f11 := (Option.some.inj (Tryd.func11.symm.trans hfn)).symm
      exact ⟨by kernel_rfl, fun j t ht => by
        have hall : (Tryd.f11.params.toList.all fun u => !Tryd.prog.wantsStandIn u) = true := by kernel_rfl
        have := List.all_eq_true.1 hall t (by simpa using Array.mem_of_getElem? ht)
        exact (show Tryd.prog.wantsStandIn t = false by simpa using this)⟩)
    (by kernel_rfl)
end Go.Proofs.YtedealljhmokoaaDoor
