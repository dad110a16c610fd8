/- The law BallotCasts: ballot.Cast answers what the document says, at every argument, and changes none of them: no condition; its card: the tables tied to the text of the program. -/
import Derived.Test.YtedealljhmokoaaDoorOpenCert
import Derived.Test.YtedealljhmokoaaDoorCopy
import Derived.WalkSpells
import Derived.Test.YtedealljhmokoaaDoorCert
import Derived.Test.YtedealljhmokoaaDoorDig2
import Derived.Shelf.Abstract
import Derived.Test.YtedealljhmokoaaDoorSame
import Derived.Test.YtedealljhmokoaaDoorOwn
import Derived.Test.YtedealljhmokoaaDoorNum
import Derived.Test.YtedealljhmokoaaDoorStr
import Derived.Deep.DeepCutAuto
import Derived.Deep.CutBlock
import Derived.Test.YtedealljhmokoaaDoorOpen
import Derived.Test.YtedealljhmokoaaDoorLaid
import Derived.Test.YtedealljhmokoaaDoorCards
import Derived.Test.YtedealljhmokoaaDoorTie
import Derived.SevenTiedAt
import Derived.Test.YtedealljhmokoaaDoorBallotCastsAllA
namespace Go.Proofs.YtedealljhmokoaaDoor
open Go.ChangeShapes Go.WideShapes Go.ChangeAt Go.RowKit
set_option linter.unusedVariables false
set_option linter.unusedSimpArgs false
set_option maxHeartbeats 2000000 in
set_option maxRecDepth 100000 in
theorem slotsCopyF_any (v : Value) (l : List Slot) (w : World) (hv : RSlots w.cell? v l) :
    Calls Tryd.prog 25 #[v] w fun e w' => ∃ v', e = .returned v' ∧ Below w.heap.size w w' ∧ OwnSl 3 (RFrom w.heap.size RSlot) 45 w' w.heap.size v' l := by
  obtain ⟨A, c, rfl, _⟩ := id hv
  obtain ⟨_, hcap, hlen, hel⟩ := hv.at
  have Hel := Lib.hid hel
  clear hel hv
  go_enter Tryd.func25, Tryd.ntmps25
  go_wp2
  go_loopw [3, 4] (fun v i wr => ∃ k : Nat, k ≤ l.length ∧ i = .int .i64 k ∧ OwnSl 3 (RFrom w.heap.size RSlot) 45 wr w.heap.size v (l.take k) ∧ Below w.heap.size w wr) (fun _ i _ => l.length - (intOf i).toNat)
  case atStart => exact ⟨0, Nat.zero_le _, rfl, OwnSl.nil _ _ _ _ _, Below.refl _ _⟩
  case round =>
    obtain ⟨k, hk, rfl, hown, hbl⟩ := hrel
    have hbs := hbl.size
    by_cases hlt : k < l.length
    · obtain ⟨b0, o0, d, rfl, e0, e1, e2, hd⟩ := Hel.out k hlt
      have c0 := vle_below hbl _ _ e0
      have c1 := vle_below hbl _ _ e1
      have c2 := vle_below hbl _ _ e2
      have hd' := hd.mono (vle_below hbl)
      have Hlk := Lib.hid (show (l.take k).length = k by simp; omega)
      have hdl := Lib.hid (show l[k].digest.length * 1 ≤ 140737488355328 by obtain ⟨_, _, _, _, _, h, _⟩ := hd; exact h)
      clear e0 e1 e2 hd
      go_wp2_with fail
      refine (slotCopy_any _ _ _ _ _ hd').mono ?_
      rintro e w1 ⟨d', rfl, hb1, o1⟩
      have hown1 := (hown.kept (RFrom.mono RSlot.mono) hb1).kept (RFrom.mono RSlot.mono) (below_one w1 (.cells #[.int .i64 l[k].author, .int .i64 l[k].round, d'] 45))
      have hbl1 : Below w.heap.size w (w1.alloc (.cells #[.int .i64 l[k].author, .int .i64 l[k].round, d'] 45)) := (hbl.trans (hb1.mono hbs)).alloc (Nat.le_trans hbs hb1.size) _
      have hR : RFrom w.heap.size RSlot (View.but (w1.alloc (.cells #[.int .i64 l[k].author, .int .i64 l[k].round, d'] 45)).cell? u3.ownBlock) [.int .i64 l[k].author, .int .i64 l[k].round, d'] l[k] :=
        ⟨d', rfl, (o1.alloc _).reads_from hdl.out hbs (fun g hg => (hown.lt g hg).2)⟩
      have hs1 := hb1.size
      obtain ⟨A', c', rfl⟩ := o1.form
      clear c0 c1 c2 hd'
      go_wp2_with (at_builtin; go_loud (refine wpList_append_sl1 (n := 140737488355328) (RFrom.mono RSlot.mono) l[k] [.int .i64 l[k].author, .int .i64 l[k].round, .slice A' l[k].digest.length c'] elemSlot _ _ rfl rfl rfl hown1 hbl1 (le_alloc _ (Nat.le_trans hbs hs1)) rfl (by simp) rfl rfl hR (Nat.le_refl _) (by rw [Hlk.out]; omega) (by rw [Hlk.out]; omega) ?_))
      intro v' w2 ho hbl2 _
      have ho' : OwnSl 3 (RFrom w.heap.size RSlot) 45 w2 w.heap.size v' (l.take (k + 1)) := by first | exact ho | (rw [List.take_succ_eq_append_getElem hlt]; exact ho)
      clear ho hown hown1
      go_wp2
      go_roundw
      case rel => exact ⟨k + 1, by omega, by go_num, ho', hbl2⟩
      case measure => simp [intOf]; omega
    · have : k = l.length := by omega
      subst this
      go_wp2
      go_ret
      exact ⟨_, rfl, hbl, by simpa using hown⟩
set_option maxHeartbeats 4000000 in
set_option maxRecDepth 100000 in
theorem castFor_any (vl : Value) (l : List Slot) (h : Hdr) (vb vp : Value) (w : World) (hl : RSlots w.cell? vl l) (hb : RDigs w.cell? vb h.batches) (hp : RDigs w.cell? vp h.parents) :
    Calls Tryd.prog 27 #[vl, .agg #[.int .i64 h.author, .int .i64 h.round, vb, vp]] w fun e w' => ∃ d sd, e = .returned (.tuple #[d, .agg #[.int .i64 (castS l h).author, .int .i64 (castS l h).round, sd], .int .i64 (castE l h)]) ∧ Below w.heap.size w w' ∧ RSlots w'.cell? d (castL l h) ∧ RBytes w'.cell? sd (castS l h).digest := by
  obtain ⟨A, c, rfl, hf0⟩ := id hl
  obtain ⟨bA, bc, rfl, hf1⟩ := id hb
  obtain ⟨pA, pc, rfl, hf2⟩ := id hp
  clear hf0 hf1 hf2
  obtain ⟨QE, hQE⟩ : ∃ q, Hid (castE l h = q) := ⟨_, rfl⟩
  obtain ⟨QL, hQL⟩ : ∃ q, Hid (castL l h = q) := ⟨_, rfl⟩
  obtain ⟨QS, hQS⟩ : ∃ q, Hid (castS l h = q) := ⟨_, rfl⟩
  have hE0 : Hid (QE = if tableF l ≠ 0 then tableF l else if hF h ≠ 0 then hF h else if 0 ≤ slotAt l h.author h.round then (match l[(slotAt l h.author h.round).toNat]? with | some s => if s.digest == hD h then 0 else 7 | none => 7) else if 400 ≤ l.length then 6 else 0) := hQE.out.symm
  have hL0 : Hid (QL = if QE = 0 then (if 0 ≤ slotAt l h.author h.round then l else l ++ [slotH h]) else []) := by show _ = _; rw [← hQL.out]; unfold castL; rw [hQE.out]
  have hS0 : Hid (QS = if QE = 0 then slotH h else ⟨0, 0, []⟩) := by show _ = _; rw [← hQS.out]; unfold castS; rw [hQE.out]
  have htab : Hid (tableF l = 0 → l.length ≤ 400) := table_len
  have hsl : Hid ((slotH h).author = h.author ∧ (slotH h).round = h.round ∧ (slotH h).digest = hD h) := ⟨rfl, rfl, rfl⟩
  rw [hQE.out, hQL.out, hQS.out]
  clear hQE hQL hQS
  obtain ⟨E1, hE1⟩ : ∃ q, Hid (tableF l = q) := ⟨_, rfl⟩
  obtain ⟨E2, hE2⟩ : ∃ q, Hid (hF h = q) := ⟨_, rfl⟩
  rw [hE1.out, hE2.out] at hE0
  rw [hE1.out] at htab
  have bad : ∀ (w1 : World) (v : Int) (hne : v ≠ 0) (hE : Hid (QE = v)) (hbl : Below w.heap.size w w1), Hid (∃ d sd, Ending.returned (.tuple #[.slice none 0 0, .agg #[.int .i64 0, .int .i64 0, .slice none 0 0], .int .i64 v]) = Ending.returned (.tuple #[d, .agg #[.int .i64 QS.author, .int .i64 QS.round, sd], .int .i64 QE]) ∧ Below w.heap.size w w1 ∧ RSlots w1.cell? d QL ∧ RBytes w1.cell? sd QS.digest) := fun w1 v hne hE hbl => by
    have h1 : QS = ⟨0, 0, []⟩ := by rw [hS0.out, if_neg (by rw [hE.out]; exact hne)]
    have h2 : QL = [] := by rw [hL0.out, if_neg (by rw [hE.out]; exact hne)]
    refine ⟨.slice none 0 0, .slice none 0 0, ?_, hbl, ?_, ?_⟩
    · rw [hE.out, h1]
    · rw [h2]; exact ⟨none, 0, rfl, Nat.le_refl _, Nat.zero_le _, by simp, fun _ => rfl, fun h => by simp at h⟩
    · rw [h1]; exact RVec.nil _ _ _
  go_enter Tryd.func27, Tryd.ntmps27
  go_upto_region 1 with fail
  refine two_blocks _ _ _ _ _ (fun W => Code.wp _ _ _ _ W) (fun W hk1 hk2 hsz hbW => ?_)
  have hszI : w.heap.size + 2 ≤ W.heap.size := by omega
  clear hsz
  have hzW := hbW.size
  go_wp2_with fail
  refine (tableFault_any _ l _ (hl.mono RSlot.mono (vle_below hbW))).mono ?_
  rintro e w1 ⟨rfl, hb1⟩
  rw [hE1.out]
  have hbl1 := hbW.trans (hb1.mono hzW)
  have hk11 := hk1.kept hb1
  have hk21 := hk2.kept hb1
  have hz1 := hbl1.size
  by_cases h1 : E1 = 0
  rotate_left
  · have HE : Hid (QE = E1) := by show _ = _; rw [hE0.out]; simp [h1]
    go_upto_region 5 with fail
    go_wp2_with (refine wpList_store_whole (n := 3) rfl rfl rfl rfl (by kernel_rfl) rfl hk21 rfl rfl ?_)
    intro wz hBz hgz
    have hfin := bad wz E1 h1 HE (below_grownBy hbl1 hz1 hgz (by intro k e; injection e; omega))
    clear hE0 hL0 hS0 bad
    go_wp2
    refine bodyPost_ret (results_tmp_blk_tmp rfl rfl (by kernel_rfl) (by kernel_rfl) hBz rfl) rfl ?_
    exact hfin.out
  have htl := Lib.hid (htab.out h1)
  replace hE0 : Hid (QE = if E2 ≠ 0 then E2 else if 0 ≤ slotAt l h.author h.round then (match l[(slotAt l h.author h.round).toNat]? with | some s => if s.digest == hD h then 0 else 7 | none => 7) else if 400 ≤ l.length then 6 else 0) := by show _ = _; rw [hE0.out]; simp [h1]
  clear htab hE1 hk1 hk2
  subst h1
  have q1 := vle_below hbl1
  have g0 := hk11.cell 0; have g1 := hk11.cell 1; have g2 := hk11.cell 2; have g3 := hk11.cell 3
  simp at g0 g1 g2 g3
  go_wp2_with fail
  refine (headerFault_any _ _ _ _ h.batches h.parents _ (hb.mono RDig.mono q1) (hp.mono RDig.mono q1)).mono ?_
  rintro e w2 ⟨rfl, hb2⟩
  rw [show headF h.author h.round h.batches h.parents = E2 from hE2.out]
  have hbl2 := hbl1.trans (hb2.mono hz1)
  have hk12 := hk11.kept hb2
  have hk22 := hk21.kept hb2
  have hz2 := hbl2.size
  have hsz2 : w.heap.size + 2 ≤ w2.heap.size := by have := hb1.size; have := hb2.size; omega
  clear g0 g1 g2 g3 q1 hk11 hk21
  by_cases h2 : E2 = 0
  rotate_left
  · have HE : Hid (QE = E2) := by show _ = _; rw [hE0.out]; simp [h2]
    go_upto_region 5 with fail
    go_wp2_with (refine wpList_store_whole (n := 3) rfl rfl rfl rfl (by kernel_rfl) rfl hk22 rfl rfl ?_)
    intro wz hBz hgz
    have hfin := bad wz E2 h2 HE (below_grownBy hbl2 hz2 hgz (by intro k e; injection e; omega))
    clear hE0 hL0 hS0 bad
    go_wp2
    refine bodyPost_ret (results_tmp_blk_tmp rfl rfl (by kernel_rfl) (by kernel_rfl) hBz rfl) rfl ?_
    exact hfin.out
  have H4 := Lib.hid (headF_zero4 (show headF h.author h.round h.batches h.parents = 0 from hE2.out.trans h2))
  have hdig : Hid (hdrD h.author h.round h.batches h.parents = (slotH h).digest) := rfl
  replace hE0 : Hid (QE = if 0 ≤ slotAt l h.author h.round then (match l[(slotAt l h.author h.round).toNat]? with | some s => if s.digest == (slotH h).digest then 0 else 7 | none => 7) else if 400 ≤ l.length then 6 else 0) := by show _ = _; rw [hE0.out, if_neg (by simp [h2])]; rfl
  clear hE2
  subst h2
  generalize slotH h = S at *
  have hb2' := hb.mono RDig.mono (vle_below hbl2)
  have hp2' := hp.mono RDig.mono (vle_below hbl2)
  go_wp2_with fail
  go_cut [8] (fun p w' => ∃ gb A5 c5, p = .pointer (some ⟨gb, 0, none⟩) ∧ w2.heap.size ≤ gb ∧ Blk w' gb 45 #[.int .i64 S.author, .int .i64 S.round, .slice A5 S.digest.length c5] ∧ RBytes (View.from w'.cell? w2.heap.size) (.slice A5 S.digest.length c5) S.digest ∧ Below w2.heap.size w2 w')
  case first =>
    refine wp_region_pl (fun w' => Below w2.heap.size w2 w') [8] (.q 0 (.q 1 (.q 2 (.q 3 (.q 4 (.alt 5 (.q 6 (.l 7 (.l 8 .nil))) 7 (.l 5 (.q 6 (.l 8 .nil))))))))) (by kernel_rfl) (by kernel_rfl) (fun _ _ d _ _ h => by cases d <;> exact h) rfl (by kernel_rfl) ?_ ?_
    · exact below_drew _
    intro W5 hS5
    repeat (first
      | (refine pl_q (by assumption) rfl rfl ?_; apply Exists.intro; refine ⟨fun w' hS => ?_, ?_⟩; (· (have hq := hk12.kept hS; have h0 := hq.cell 0; have h1 := hq.cell 1; have h2 := hq.cell 2; have h3 := hq.cell 3; simp at h0 h1 h2 h3; go_simp; exact rfl)); simp only [List.getElem_toArray, List.getElem_cons_zero, List.getElem_cons_succ, Act.put, List.setIfInBounds_toArray, List.set_cons_zero, List.set_cons_succ])
      | (refine pl_qc rfl rfl ?_; apply Exists.intro; refine ⟨fun w' _ => ?_, ?_⟩; (· (go_simp; exact rfl)); simp only [List.getElem_toArray, List.getElem_cons_zero, List.getElem_cons_succ, Act.put, List.setIfInBounds_toArray, List.set_cons_zero, List.set_cons_succ])
      | (refine pl_skip (by assumption) rfl rfl ?_; simp only [List.getElem_toArray, List.getElem_cons_zero, List.getElem_cons_succ, Act.put, List.setIfInBounds_toArray, List.set_cons_zero, List.set_cons_succ])
      | (refine pl_skipl (by assumption) rfl rfl ?_; simp only [List.getElem_toArray, List.getElem_cons_zero, List.getElem_cons_succ, Act.put, List.setIfInBounds_toArray, List.set_cons_zero, List.set_cons_succ]))
    refine pl_alt ?_ ?_
    · first
        | refine pl_do rfl rfl (fun K hK => ?_)
        | refine op_do rfl rfl (fun K hK => ?_)
      try simp only [List.getElem_toArray, List.getElem_cons_zero, List.getElem_cons_succ]
      go_simp
      refine (headerDigestR_any _ _ _ _ h.batches h.parents _ (by have := H4.out; omega) (by have := H4.out; omega) (hb2'.mono RDig.mono (vle_below hS5)) (hp2'.mono RDig.mono (vle_below hS5)) (by have := H4.out; omega)).mono ?_
      rintro e w6 ⟨d6, rfl, hb6, r6⟩
      rw [hdig.out] at r6
      have hS6 := hS5.trans (hb6.mono hS5.size)
      obtain ⟨A6, c6, rfl, hf6⟩ := id r6
      clear hf6
      refine hK.out _ _ (hS6) (fun hS => ?_)
      clear hK K
      try simp only [List.getElem_toArray, List.getElem_cons_zero, List.getElem_cons_succ, Act.put, List.setIfInBounds_toArray, List.set_cons_zero, List.set_cons_succ]
      repeat (first
        | (refine pl_q (by assumption) rfl rfl ?_; apply Exists.intro; refine ⟨fun w' hS => ?_, ?_⟩; (· (have hq := hk12.kept hS; have h0 := hq.cell 0; have h1 := hq.cell 1; simp at h0 h1; go_simp; exact rfl)); simp only [List.getElem_toArray, List.getElem_cons_zero, List.getElem_cons_succ, Act.put, List.setIfInBounds_toArray, List.set_cons_zero, List.set_cons_succ])
        | (refine pl_qc rfl rfl ?_; apply Exists.intro; refine ⟨fun w' _ => ?_, ?_⟩; (· (go_simp; exact rfl)); simp only [List.getElem_toArray, List.getElem_cons_zero, List.getElem_cons_succ, Act.put, List.setIfInBounds_toArray, List.set_cons_zero, List.set_cons_succ])
        | (refine pl_skip (by assumption) rfl rfl ?_; simp only [List.getElem_toArray, List.getElem_cons_zero, List.getElem_cons_succ, Act.put, List.setIfInBounds_toArray, List.set_cons_zero, List.set_cons_succ])
        | (refine pl_skipl (by assumption) rfl rfl ?_; simp only [List.getElem_toArray, List.getElem_cons_zero, List.getElem_cons_succ, Act.put, List.setIfInBounds_toArray, List.set_cons_zero, List.set_cons_succ]))
      first
        | refine pl_do rfl rfl (fun K hK => ?_)
        | refine op_do rfl rfl (fun K hK => ?_)
      try simp only [List.getElem_toArray, List.getElem_cons_zero, List.getElem_cons_succ]
      go_simp
      have hn7 := Blk.new w6 45 #[.int .i64 0, .int .i64 0, .slice none 0 0]
      have hb7 := below_one w6 (.cells #[.int .i64 0, .int .i64 0, .slice none 0 0] 45)
      have hS7 := hS6.trans (hb7.mono hS6.size)
      have hz6 := hS6.size
      have hz5 := hS5.size
      refine hK.out _ _ (hS7) (fun hS => ?_)
      clear hK K
      try simp only [List.getElem_toArray, List.getElem_cons_zero, List.getElem_cons_succ, Act.put, List.setIfInBounds_toArray, List.set_cons_zero, List.set_cons_succ]
      first
        | refine pl_do rfl rfl (fun K hK => ?_)
        | refine op_do rfl rfl (fun K hK => ?_)
      try simp only [List.getElem_toArray, List.getElem_cons_zero, List.getElem_cons_succ]
      refine wp_store_whole (n := 3) rfl rfl rfl (by kernel_rfl) rfl hn7 rfl rfl ?_
      intro w8 hB8 hg8
      have hB8 : Blk w8 w6.heap.size 45 #[.int .i64 h.author, .int .i64 h.round, .slice A6 S.digest.length c6] := hB8
      rw [← hsl.out.1, ← hsl.out.2.1] at hB8
      have hS8 : Below w2.heap.size w2 w8 := below_grownBy hS7 hS7.size hg8 (by intro k e; injection e; omega)
      have r8 := r6.mono ((from_from (b' := w2.heap.size) (by omega)).trans (vle_from _ ((vle_below_but hb7 (Nat.le_refl _)).trans (vle_grown hg8))))
      refine hK.out _ _ (hS8) (fun hS => ?_)
      clear hK K
      try simp only [List.getElem_toArray, List.getElem_cons_zero, List.getElem_cons_succ, Act.put, List.setIfInBounds_toArray, List.set_cons_zero, List.set_cons_succ]
      repeat (first
        | (refine pl_q (by assumption) rfl rfl ?_; apply Exists.intro; refine ⟨fun w' hS => ?_, ?_⟩; (· (skip; go_simp; exact rfl)); simp only [List.getElem_toArray, List.getElem_cons_zero, List.getElem_cons_succ, Act.put, List.setIfInBounds_toArray, List.set_cons_zero, List.set_cons_succ])
        | (refine pl_qc rfl rfl ?_; apply Exists.intro; refine ⟨fun w' _ => ?_, ?_⟩; (· (go_simp; exact rfl)); simp only [List.getElem_toArray, List.getElem_cons_zero, List.getElem_cons_succ, Act.put, List.setIfInBounds_toArray, List.set_cons_zero, List.set_cons_succ])
        | (refine pl_skip (by assumption) rfl rfl ?_; simp only [List.getElem_toArray, List.getElem_cons_zero, List.getElem_cons_succ, Act.put, List.setIfInBounds_toArray, List.set_cons_zero, List.set_cons_succ])
        | (refine pl_skipl (by assumption) rfl rfl ?_; simp only [List.getElem_toArray, List.getElem_cons_zero, List.getElem_cons_succ, Act.put, List.setIfInBounds_toArray, List.set_cons_zero, List.set_cons_succ]))
      refine pl_nil ?_
      go_wp2_with fail
      go_meet
      exact ⟨_, _, _, rfl, hz6, hB8, r8, hS8⟩
    · first
        | refine pl_do rfl rfl (fun K hK => ?_)
        | refine op_do rfl rfl (fun K hK => ?_)
      try simp only [List.getElem_toArray, List.getElem_cons_zero, List.getElem_cons_succ]
      go_simp
      have hn7 := Blk.new W5 45 #[.int .i64 0, .int .i64 0, .slice none 0 0]
      have hb7 := below_one W5 (.cells #[.int .i64 0, .int .i64 0, .slice none 0 0] 45)
      have hS7 := hS5.trans (hb7.mono hS5.size)
      have hz5 := hS5.size
      refine hK.out _ _ (hS7) (fun hS => ?_)
      clear hK K
      try simp only [List.getElem_toArray, List.getElem_cons_zero, List.getElem_cons_succ, Act.put, List.setIfInBounds_toArray, List.set_cons_zero, List.set_cons_succ]
      repeat (first
        | (refine pl_q (by assumption) rfl rfl ?_; apply Exists.intro; refine ⟨fun w' hS => ?_, ?_⟩; (· (have hq := hk12.kept hS; have h0 := hq.cell 0; have h1 := hq.cell 1; have h2 := hq.cell 2; have h3 := hq.cell 3; simp at h0 h1 h2 h3; go_simp; exact rfl)); simp only [List.getElem_toArray, List.getElem_cons_zero, List.getElem_cons_succ, Act.put, List.setIfInBounds_toArray, List.set_cons_zero, List.set_cons_succ])
        | (refine pl_qc rfl rfl ?_; apply Exists.intro; refine ⟨fun w' _ => ?_, ?_⟩; (· (go_simp; exact rfl)); simp only [List.getElem_toArray, List.getElem_cons_zero, List.getElem_cons_succ, Act.put, List.setIfInBounds_toArray, List.set_cons_zero, List.set_cons_succ])
        | (refine pl_skip (by assumption) rfl rfl ?_; simp only [List.getElem_toArray, List.getElem_cons_zero, List.getElem_cons_succ, Act.put, List.setIfInBounds_toArray, List.set_cons_zero, List.set_cons_succ])
        | (refine pl_skipl (by assumption) rfl rfl ?_; simp only [List.getElem_toArray, List.getElem_cons_zero, List.getElem_cons_succ, Act.put, List.setIfInBounds_toArray, List.set_cons_zero, List.set_cons_succ]))
      first
        | refine pl_do rfl rfl (fun K hK => ?_)
        | refine op_do rfl rfl (fun K hK => ?_)
      try simp only [List.getElem_toArray, List.getElem_cons_zero, List.getElem_cons_succ]
      go_simp
      refine (headerDigestR_any _ _ _ _ h.batches h.parents _ (by have := H4.out; omega) (by have := H4.out; omega) (hb2'.mono RDig.mono (vle_below hS7)) (hp2'.mono RDig.mono (vle_below hS7)) (by have := H4.out; omega)).mono ?_
      rintro e w6 ⟨d6, rfl, hb6, r6⟩
      rw [hdig.out] at r6
      have hS6 := hS7.trans (hb6.mono hS7.size)
      obtain ⟨A6, c6, rfl, hf6⟩ := id r6
      clear hf6
      refine hK.out _ _ (hS6) (fun hS => ?_)
      clear hK K
      try simp only [List.getElem_toArray, List.getElem_cons_zero, List.getElem_cons_succ, Act.put, List.setIfInBounds_toArray, List.set_cons_zero, List.set_cons_succ]
      repeat (first
        | (refine pl_q (by assumption) rfl rfl ?_; apply Exists.intro; refine ⟨fun w' hS => ?_, ?_⟩; (· (have hq := hk12.kept hS; have h0 := hq.cell 0; have h1 := hq.cell 1; simp at h0 h1; go_simp; exact rfl)); simp only [List.getElem_toArray, List.getElem_cons_zero, List.getElem_cons_succ, Act.put, List.setIfInBounds_toArray, List.set_cons_zero, List.set_cons_succ])
        | (refine pl_qc rfl rfl ?_; apply Exists.intro; refine ⟨fun w' _ => ?_, ?_⟩; (· (go_simp; exact rfl)); simp only [List.getElem_toArray, List.getElem_cons_zero, List.getElem_cons_succ, Act.put, List.setIfInBounds_toArray, List.set_cons_zero, List.set_cons_succ])
        | (refine pl_skip (by assumption) rfl rfl ?_; simp only [List.getElem_toArray, List.getElem_cons_zero, List.getElem_cons_succ, Act.put, List.setIfInBounds_toArray, List.set_cons_zero, List.set_cons_succ])
        | (refine pl_skipl (by assumption) rfl rfl ?_; simp only [List.getElem_toArray, List.getElem_cons_zero, List.getElem_cons_succ, Act.put, List.setIfInBounds_toArray, List.set_cons_zero, List.set_cons_succ]))
      first
        | refine pl_do rfl rfl (fun K hK => ?_)
        | refine op_do rfl rfl (fun K hK => ?_)
      try simp only [List.getElem_toArray, List.getElem_cons_zero, List.getElem_cons_succ]
      refine wp_store_whole (n := 3) rfl rfl rfl (by kernel_rfl) rfl (hn7.kept hb6) rfl rfl ?_
      intro w8 hB8 hg8
      have hB8 : Blk w8 W5.heap.size 45 #[.int .i64 h.author, .int .i64 h.round, .slice A6 S.digest.length c6] := hB8
      rw [← hsl.out.1, ← hsl.out.2.1] at hB8
      have hS8 : Below w2.heap.size w2 w8 := below_grownBy hS6 hS6.size hg8 (by intro k e; injection e; omega)
      have r8 := r6.mono (from_le_from (b := W5.heap.size + 1) (b' := w2.heap.size) (by omega) (from_from (by simp)) hg8 (by omega))
      refine hK.out _ _ (hS8) (fun hS => ?_)
      clear hK K
      try simp only [List.getElem_toArray, List.getElem_cons_zero, List.getElem_cons_succ, Act.put, List.setIfInBounds_toArray, List.set_cons_zero, List.set_cons_succ]
      repeat (first
        | (refine pl_q (by assumption) rfl rfl ?_; apply Exists.intro; refine ⟨fun w' hS => ?_, ?_⟩; (· (skip; go_simp; exact rfl)); simp only [List.getElem_toArray, List.getElem_cons_zero, List.getElem_cons_succ, Act.put, List.setIfInBounds_toArray, List.set_cons_zero, List.set_cons_succ])
        | (refine pl_qc rfl rfl ?_; apply Exists.intro; refine ⟨fun w' _ => ?_, ?_⟩; (· (go_simp; exact rfl)); simp only [List.getElem_toArray, List.getElem_cons_zero, List.getElem_cons_succ, Act.put, List.setIfInBounds_toArray, List.set_cons_zero, List.set_cons_succ])
        | (refine pl_skip (by assumption) rfl rfl ?_; simp only [List.getElem_toArray, List.getElem_cons_zero, List.getElem_cons_succ, Act.put, List.setIfInBounds_toArray, List.set_cons_zero, List.set_cons_succ])
        | (refine pl_skipl (by assumption) rfl rfl ?_; simp only [List.getElem_toArray, List.getElem_cons_zero, List.getElem_cons_succ, Act.put, List.setIfInBounds_toArray, List.set_cons_zero, List.set_cons_succ]))
      refine pl_nil ?_
      go_wp2_with fail
      go_meet
      exact ⟨_, _, _, rfl, hz5, hB8, r8, hS8⟩
  case rest =>
    obtain ⟨gb, dA, dc, rfl, hgb, hB, rd, hbc⟩ := hcut
    obtain ⟨w3, hw3⟩ : ∃ w3 : World, w3 = wc := ⟨_, rfl⟩
    subst hw3
    have hbl3 := hbl2.trans (hbc.mono hz2)
    have hz3 := hbl3.size
    have hk13 := hk12.kept hbc
    have hk23 := hk22.kept hbc
    have hl3 := hl.mono RSlot.mono (vle_below hbl3)
    have hgblt := hB.lt
    obtain ⟨_, hn1, hn2, hel⟩ := RSlots.at hl3
    have Hel := Lib.hid hel
    clear hel hk12 hk22 hb2' hp2' hdig H4
    have HS1 := hsl.out.1
    have HS2 := hsl.out.2.1
    rw [← HS1, ← HS2] at hk13 hE0 hL0
    clear HS1 HS2
    have g0 := hk13.cell 0; have g1 := hk13.cell 1
    simp at g0 g1
    go_wp2_with fail
    refine (slotAt_any _ l S.author S.round _ hl3).mono ?_
    rintro e w' ⟨rfl, rfl⟩
    clear g0 g1
    rcases slotAt_cases l S.author S.round with hneg | ⟨j, hj, hpos⟩
    · rw [hneg]
      replace hE0 : Hid (QE = if 400 ≤ l.length then 6 else 0) := by show _ = _; rw [hE0.out, hneg]; rfl
      replace hL0 : Hid (QL = if QE = 0 then l ++ [S] else []) := by show _ = _; rw [hL0.out, hneg]; rfl
      clear hneg
      by_cases hful : (400 : Int) ≤ l.length
      · have HE : Hid (QE = 6) := by show _ = _; rw [hE0.out, if_pos (by omega)]
        go_upto_region 13 with fail
        go_wp2_with (refine wpList_store_whole (n := 3) rfl rfl rfl rfl (by kernel_rfl) rfl hk23 rfl rfl ?_)
        intro wz hBz hgz
        have hfin := bad wz 6 (by decide) HE (below_grownBy hbl3 hz3 hgz (by intro k e; injection e; omega))
        clear hE0 hL0 hS0 bad
        go_wp2
        refine bodyPost_ret (results_tmp_blk_tmp rfl rfl (by kernel_rfl) (by kernel_rfl) hBz rfl) rfl ?_
        exact hfin.out
      have HE : Hid (QE = 0) := by show _ = _; rw [hE0.out, if_neg (by omega)]
      have HL : Hid (QL = l ++ [S]) := by show _ = _; rw [hL0.out, if_pos HE.out]
      have HQ : Hid (QS = S) := by show _ = _; rw [hS0.out, if_pos HE.out]
      clear hE0 hL0 hS0 bad
      go_upto_region 14 with fail
      refine wp_region_pl0 (fun w' => Below w3.heap.size w3 w') (fun w' => Blk w' gb 45 #[.int .i64 S.author, .int .i64 S.round, .slice dA S.digest.length dc]) [8, 9] (.q 0 (.q 2 (.q 6 (.l 1 (.l 3 (.l 4 (.l 5 (.q 7 (.l 8 (.qc 9 .nil)))))))))) (by kernel_rfl) (by kernel_rfl) (fun _ _ d _ _ h => by cases d <;> exact h) rfl (by kernel_rfl) ?_ ?_
      · exact ⟨below_drew _, hB.kept (below_drew _)⟩
      intro W3 hS3 hS0
      repeat (first
        | (refine pl_q (by assumption) rfl rfl ?_; apply Exists.intro; refine ⟨fun w' hS => ?_, ?_⟩; (· (have hx := hS; have x0 := hx.cell 0; have x1 := hx.cell 1; have x2 := hx.cell 2; simp at x0 x1 x2; go_simp; exact rfl)); simp only [List.getElem_toArray, List.getElem_cons_zero, List.getElem_cons_succ, Act.put, List.setIfInBounds_toArray, List.set_cons_zero, List.set_cons_succ])
        | (refine pl_qc rfl rfl ?_; apply Exists.intro; refine ⟨fun w' _ => ?_, ?_⟩; (· (go_simp; exact rfl)); simp only [List.getElem_toArray, List.getElem_cons_zero, List.getElem_cons_succ, Act.put, List.setIfInBounds_toArray, List.set_cons_zero, List.set_cons_succ])
        | (refine pl_skip (by assumption) rfl rfl ?_; simp only [List.getElem_toArray, List.getElem_cons_zero, List.getElem_cons_succ, Act.put, List.setIfInBounds_toArray, List.set_cons_zero, List.set_cons_succ])
        | (refine pl_skipl (by assumption) rfl rfl ?_; simp only [List.getElem_toArray, List.getElem_cons_zero, List.getElem_cons_succ, Act.put, List.setIfInBounds_toArray, List.set_cons_zero, List.set_cons_succ]))
      first
        | refine pl_do rfl rfl (fun K hK => ?_)
        | refine op_do rfl rfl (fun K hK => ?_)
      try simp only [List.getElem_toArray, List.getElem_cons_zero, List.getElem_cons_succ]
      go_simp
      refine (slotsCopyF_any _ l _ (hl3.mono RSlot.mono (vle_below hS3))).mono ?_
      rintro e w5 ⟨v5, rfl, hb5, o5⟩
      have hS5 := hS3.trans (hb5.mono hS3.size)
      have hlto := o5.lt
      obtain ⟨nA, nc, rfl⟩ := o5.form
      refine hK.out _ _ (hB.kept hS5) (fun hS => ?_)
      clear hK K
      try simp only [List.getElem_toArray, List.getElem_cons_zero, List.getElem_cons_succ, Act.put, List.setIfInBounds_toArray, List.set_cons_zero, List.set_cons_succ]
      repeat (first
        | (refine pl_q (by assumption) rfl rfl ?_; apply Exists.intro; refine ⟨fun w' hS => ?_, ?_⟩; (· (have hx := hS; have x0 := hx.cell 0; have x1 := hx.cell 1; have x2 := hx.cell 2; simp at x0 x1 x2; go_simp; exact rfl)); simp only [List.getElem_toArray, List.getElem_cons_zero, List.getElem_cons_succ, Act.put, List.setIfInBounds_toArray, List.set_cons_zero, List.set_cons_succ])
        | (refine pl_qc rfl rfl ?_; apply Exists.intro; refine ⟨fun w' _ => ?_, ?_⟩; (· (go_simp; exact rfl)); simp only [List.getElem_toArray, List.getElem_cons_zero, List.getElem_cons_succ, Act.put, List.setIfInBounds_toArray, List.set_cons_zero, List.set_cons_succ])
        | (refine pl_skip (by assumption) rfl rfl ?_; simp only [List.getElem_toArray, List.getElem_cons_zero, List.getElem_cons_succ, Act.put, List.setIfInBounds_toArray, List.set_cons_zero, List.set_cons_succ])
        | (refine pl_skipl (by assumption) rfl rfl ?_; simp only [List.getElem_toArray, List.getElem_cons_zero, List.getElem_cons_succ, Act.put, List.setIfInBounds_toArray, List.set_cons_zero, List.set_cons_succ]))
      first
        | refine pl_do rfl rfl (fun K hK => ?_)
        | refine op_do rfl rfl (fun K hK => ?_)
      try simp only [List.getElem_toArray, List.getElem_cons_zero, List.getElem_cons_succ]
      go_simp
      have rd5 := (rd.mono (View.from_le _ _)).mono (vle_below hS5)
      refine (slotCopy_any _ _ _ S.digest _ rd5).mono ?_
      rintro e w6 ⟨td, rfl, hb6, o6⟩
      have hS6 := hS5.trans (hb6.mono hS5.size)
      have o56 := o5.kept (RFrom.mono RSlot.mono) hb6
      have hB6 := hB.kept hS6
      have hz33 := hS3.size
      have hz5 := hS5.size
      have hz55 := hb5.size
      have hz6 := hb6.size
      have hdl := Lib.hid (show S.digest.length * 1 ≤ 140737488355328 from rd5.len)
      have rR : RFrom W3.heap.size RSlot (View.but w6.cell? (Value.slice nA l.length nc).ownBlock) [.int .i64 S.author, .int .i64 S.round, td] S :=
        ⟨_, rfl, o6.reads_from hdl.out (by omega) (fun g hg => (hlto g hg).2)⟩
      obtain ⟨A1, c1', rfl⟩ := o6.form
      clear o6 rd5
      refine hK.out _ _ (hB6) (fun hS => ?_)
      clear hK K
      try simp only [List.getElem_toArray, List.getElem_cons_zero, List.getElem_cons_succ, Act.put, List.setIfInBounds_toArray, List.set_cons_zero, List.set_cons_succ]
      repeat (first
        | (refine pl_q (by assumption) rfl rfl ?_; apply Exists.intro; refine ⟨fun w' hS => ?_, ?_⟩; (· (skip; go_simp; exact rfl)); simp only [List.getElem_toArray, List.getElem_cons_zero, List.getElem_cons_succ, Act.put, List.setIfInBounds_toArray, List.set_cons_zero, List.set_cons_succ])
        | (refine pl_qc rfl rfl ?_; apply Exists.intro; refine ⟨fun w' _ => ?_, ?_⟩; (· (go_simp; exact rfl)); simp only [List.getElem_toArray, List.getElem_cons_zero, List.getElem_cons_succ, Act.put, List.setIfInBounds_toArray, List.set_cons_zero, List.set_cons_succ])
        | (refine pl_skip (by assumption) rfl rfl ?_; simp only [List.getElem_toArray, List.getElem_cons_zero, List.getElem_cons_succ, Act.put, List.setIfInBounds_toArray, List.set_cons_zero, List.set_cons_succ])
        | (refine pl_skipl (by assumption) rfl rfl ?_; simp only [List.getElem_toArray, List.getElem_cons_zero, List.getElem_cons_succ, Act.put, List.setIfInBounds_toArray, List.set_cons_zero, List.set_cons_succ]))
      first
        | refine pl_do rfl rfl (fun K hK => ?_)
        | refine op_do rfl rfl (fun K hK => ?_)
      try simp only [List.getElem_toArray, List.getElem_cons_zero, List.getElem_cons_succ]
      go_simp
      have hb7 := below_one w6 (.cells #[.int .i64 S.author, .int .i64 S.round, .slice A1 S.digest.length c1'] 45)
      refine hK.out _ _ (hB6.kept hb7) (fun hS => ?_)
      clear hK K
      try simp only [List.getElem_toArray, List.getElem_cons_zero, List.getElem_cons_succ, Act.put, List.setIfInBounds_toArray, List.set_cons_zero, List.set_cons_succ]
      repeat (first
        | (refine pl_q (by assumption) rfl rfl ?_; apply Exists.intro; refine ⟨fun w' hS => ?_, ?_⟩; (· (skip; go_simp; exact rfl)); simp only [List.getElem_toArray, List.getElem_cons_zero, List.getElem_cons_succ, Act.put, List.setIfInBounds_toArray, List.set_cons_zero, List.set_cons_succ])
        | (refine pl_qc rfl rfl ?_; apply Exists.intro; refine ⟨fun w' _ => ?_, ?_⟩; (· (go_simp; exact rfl)); simp only [List.getElem_toArray, List.getElem_cons_zero, List.getElem_cons_succ, Act.put, List.setIfInBounds_toArray, List.set_cons_zero, List.set_cons_succ])
        | (refine pl_skip (by assumption) rfl rfl ?_; simp only [List.getElem_toArray, List.getElem_cons_zero, List.getElem_cons_succ, Act.put, List.setIfInBounds_toArray, List.set_cons_zero, List.set_cons_succ])
        | (refine pl_skipl (by assumption) rfl rfl ?_; simp only [List.getElem_toArray, List.getElem_cons_zero, List.getElem_cons_succ, Act.put, List.setIfInBounds_toArray, List.set_cons_zero, List.set_cons_succ]))
      first
        | refine pl_do rfl rfl (fun K hK => ?_)
        | refine op_do rfl rfl (fun K hK => ?_)
      try simp only [List.getElem_toArray, List.getElem_cons_zero, List.getElem_cons_succ]
      refine wp_append_sl1 (n := 140737488355328) (RFrom.mono RSlot.mono) S [.int .i64 S.author, .int .i64 S.round, .slice A1 S.digest.length c1'] elemSlot _ _ rfl rfl o56 (W := w6) (Below.refl _ _) (by omega) rfl rfl rfl rfl rR (Nat.le_refl _) (by have := htl.out; omega) (by have := htl.out; omega) (fun v2 w8 ho8 hb8 hg8 => ?_)
      have hB8 := hB6.grown hg8 (fun e => by have := (hlto _ e.symm).1; omega)
      have hk28 := (hk23.kept hS6).grown hg8 (fun e => by have := (hlto _ e.symm).1; omega)
      have hbl8 : Below w.heap.size w w8 := below_grownBy (hbl3.trans (hS6.mono hz3)) (by omega) hg8 (fun q hq => by have := (hlto q hq).1; omega)
      have hbl38 : Below w3.heap.size w3 w8 := below_grownBy hS6 (by omega) hg8 (fun q hq => by have := (hlto q hq).1; omega)
      obtain ⟨N, hN⟩ : ∃ N, Hid ((l ++ [S]).length = N) := ⟨_, rfl⟩
      have hNl : (l ++ [S]).length * 40 ≤ 140737488355328 := by have := htl.out; simp; omega
      obtain ⟨mA, mc, hv2⟩ := ho8.form
      rw [hN.out] at hv2
      subst hv2
      refine hK.out _ _ (hB8) (fun hS => ?_)
      clear hK K
      try simp only [List.getElem_toArray, List.getElem_cons_zero, List.getElem_cons_succ, Act.put, List.setIfInBounds_toArray, List.set_cons_zero, List.set_cons_succ]
      repeat (first
        | (refine pl_q (by assumption) rfl rfl ?_; apply Exists.intro; refine ⟨fun w' hS => ?_, ?_⟩; (· (have hx := hS; have x0 := hx.cell 0; have x1 := hx.cell 1; have x2 := hx.cell 2; simp at x0 x1 x2; go_simp; exact rfl)); simp only [List.getElem_toArray, List.getElem_cons_zero, List.getElem_cons_succ, Act.put, List.setIfInBounds_toArray, List.set_cons_zero, List.set_cons_succ])
        | (refine pl_qc rfl rfl ?_; apply Exists.intro; refine ⟨fun w' _ => ?_, ?_⟩; (· (go_simp; exact rfl)); simp only [List.getElem_toArray, List.getElem_cons_zero, List.getElem_cons_succ, Act.put, List.setIfInBounds_toArray, List.set_cons_zero, List.set_cons_succ])
        | (refine pl_skip (by assumption) rfl rfl ?_; simp only [List.getElem_toArray, List.getElem_cons_zero, List.getElem_cons_succ, Act.put, List.setIfInBounds_toArray, List.set_cons_zero, List.set_cons_succ])
        | (refine pl_skipl (by assumption) rfl rfl ?_; simp only [List.getElem_toArray, List.getElem_cons_zero, List.getElem_cons_succ, Act.put, List.setIfInBounds_toArray, List.set_cons_zero, List.set_cons_succ]))
      first
        | refine pl_close rfl rfl rfl (fun K hK => ?_)
        | refine op_close rfl rfl rfl (fun K hK => ?_)
      try simp only [List.getElem_toArray, List.getElem_cons_zero, List.getElem_cons_succ]
      refine wp_store_whole (n := 3) rfl rfl rfl (by kernel_rfl) rfl hk28 rfl rfl ?_
      intro w10 hB10 hg10
      have hB10 : Blk w10 (w.heap.size + 1) 45 #[.int .i64 S.author, .int .i64 S.round, .slice dA S.digest.length dc] := hB10
      have ho10 := ho8.low RSlot.mono hg10 (by omega)
      have hbl10 : Below w.heap.size w w10 := below_grownBy hbl8 hbl8.size hg10 (by intro k e; injection e; omega)
      have rd10 := (rd.mono (vle_from _ (vle_below hbl38))).mono ((from_but (by omega)).trans (vle_grown hg10))
      have rl10 := RSl.weak (R' := RSlot) (bs := 40) (fun h cs x hr => RSlot.mono _ _ _ _ hr (View.from_le _ _)) (ho10.reads (RFrom.mono RSlot.mono) hNl)
      refine hK.out _ _ ?_
      clear hK K
      try simp only [List.getElem_toArray, List.getElem_cons_zero, List.getElem_cons_succ, Act.put, List.setIfInBounds_toArray, List.set_cons_zero, List.set_cons_succ]
      repeat (first
        | (refine pl_q (by assumption) rfl rfl ?_; apply Exists.intro; refine ⟨fun w' hS => ?_, ?_⟩; (· (skip; go_simp; exact rfl)); simp only [List.getElem_toArray, List.getElem_cons_zero, List.getElem_cons_succ, Act.put, List.setIfInBounds_toArray, List.set_cons_zero, List.set_cons_succ])
        | (refine pl_qc rfl rfl ?_; apply Exists.intro; refine ⟨fun w' _ => ?_, ?_⟩; (· (go_simp; exact rfl)); simp only [List.getElem_toArray, List.getElem_cons_zero, List.getElem_cons_succ, Act.put, List.setIfInBounds_toArray, List.set_cons_zero, List.set_cons_succ])
        | (refine pl_skip (by assumption) rfl rfl ?_; simp only [List.getElem_toArray, List.getElem_cons_zero, List.getElem_cons_succ, Act.put, List.setIfInBounds_toArray, List.set_cons_zero, List.set_cons_succ])
        | (refine pl_skipl (by assumption) rfl rfl ?_; simp only [List.getElem_toArray, List.getElem_cons_zero, List.getElem_cons_succ, Act.put, List.setIfInBounds_toArray, List.set_cons_zero, List.set_cons_succ]))
      refine pl_nil ?_
      clear rd ho10 ho8 o56 rR
      go_wp2
      refine bodyPost_ret (results_tmp_blk_tmp rfl rfl (by kernel_rfl) (by kernel_rfl) hB10 rfl) rfl ?_
      exact ⟨_, _, by rw [HE.out, HQ.out] <;> rfl, hbl10, by rw [HL.out]; exact rl10, by rw [HQ.out]; exact rd10⟩
    · rw [hpos]
      have hjl' : (j : Int) < (l.length : Int) := by omega
      obtain ⟨b0, o0, vd, rfl, q0, q1, q2, rj⟩ := Hel.out j hj
      replace hE0 : Hid (QE = if l[j].digest == S.digest then 0 else 7) := by
        show _ = _
        rw [hE0.out, hpos, if_pos (by omega)]
        simp [List.getElem?_eq_getElem hj]
      replace hL0 : Hid (QL = if QE = 0 then l else []) := by show _ = _; rw [hL0.out, hpos]; simp
      clear hpos q0 q1
      obtain ⟨DE, hDE⟩ : ∃ z, Hid ((l[j].digest == S.digest) = z) := ⟨_, Lib.hid rfl⟩
      rw [hDE.out] at hE0
      go_wp2_with fail
      refine wp_region_pl (fun w' => Below w3.heap.size w3 w') [] (.q 0 (.q 1 (.q 2 (.q 3 (.q 4 (.q 5 (.q 6 (.l 7 (.q 8 .nil))))))))) (by kernel_rfl) (by kernel_rfl) (fun _ _ d _ _ h => by cases d <;> exact h) rfl (by kernel_rfl) ?_ ?_
      · exact below_drew _
      intro W3 hS3
      repeat (first
        | (refine pl_q (by assumption) rfl rfl ?_; apply Exists.intro; refine ⟨fun w' hS => ?_, ?_⟩; (· (have hx := hB.kept hS; have x0 := hx.cell 0; have x1 := hx.cell 1; have x2 := hx.cell 2; simp at x0 x1 x2; have a2 := vle_below hS _ _ q2; go_simp; exact rfl)); simp only [List.getElem_toArray, List.getElem_cons_zero, List.getElem_cons_succ, Act.put, List.setIfInBounds_toArray, List.set_cons_zero, List.set_cons_succ])
        | (refine pl_qc rfl rfl ?_; apply Exists.intro; refine ⟨fun w' _ => ?_, ?_⟩; (· (go_simp; exact rfl)); simp only [List.getElem_toArray, List.getElem_cons_zero, List.getElem_cons_succ, Act.put, List.setIfInBounds_toArray, List.set_cons_zero, List.set_cons_succ])
        | (refine pl_skip (by assumption) rfl rfl ?_; simp only [List.getElem_toArray, List.getElem_cons_zero, List.getElem_cons_succ, Act.put, List.setIfInBounds_toArray, List.set_cons_zero, List.set_cons_succ])
        | (refine pl_skipl (by assumption) rfl rfl ?_; simp only [List.getElem_toArray, List.getElem_cons_zero, List.getElem_cons_succ, Act.put, List.setIfInBounds_toArray, List.set_cons_zero, List.set_cons_succ]))
      first
        | refine pl_do rfl rfl (fun K hK => ?_)
        | refine op_do rfl rfl (fun K hK => ?_)
      try simp only [List.getElem_toArray, List.getElem_cons_zero, List.getElem_cons_succ]
      go_simp
      refine (sameBytes_any _ _ _ _ _ (rj.mono (vle_below hS3)) ((rd.mono (View.from_le _ _)).mono (vle_below hS3))).mono ?_
      rintro e w' ⟨rfl, rfl⟩
      rw [hDE.out]
      have hbl4 := hbl3.trans (hS3.mono hz3)
      have hz4 := hbl4.size
      have hk24 := hk23.kept hS3
      have hB4 := hB.kept hS3
      have hl4 := hl3.mono RSlot.mono (vle_below hS3)
      have rd4 := rd.mono (vle_from _ (vle_below hS3))
      have hz34 := hS3.size
      clear q2 rj hk23 hB rd
      refine hK.out _ _ (hS3) (fun hS => ?_)
      clear hK K
      try simp only [List.getElem_toArray, List.getElem_cons_zero, List.getElem_cons_succ, Act.put, List.setIfInBounds_toArray, List.set_cons_zero, List.set_cons_succ]
      repeat (first
        | (refine pl_q (by assumption) rfl rfl ?_; apply Exists.intro; refine ⟨fun w' hS => ?_, ?_⟩; (· (skip; go_simp; exact rfl)); simp only [List.getElem_toArray, List.getElem_cons_zero, List.getElem_cons_succ, Act.put, List.setIfInBounds_toArray, List.set_cons_zero, List.set_cons_succ])
        | (refine pl_qc rfl rfl ?_; apply Exists.intro; refine ⟨fun w' _ => ?_, ?_⟩; (· (go_simp; exact rfl)); simp only [List.getElem_toArray, List.getElem_cons_zero, List.getElem_cons_succ, Act.put, List.setIfInBounds_toArray, List.set_cons_zero, List.set_cons_succ])
        | (refine pl_skip (by assumption) rfl rfl ?_; simp only [List.getElem_toArray, List.getElem_cons_zero, List.getElem_cons_succ, Act.put, List.setIfInBounds_toArray, List.set_cons_zero, List.set_cons_succ])
        | (refine pl_skipl (by assumption) rfl rfl ?_; simp only [List.getElem_toArray, List.getElem_cons_zero, List.getElem_cons_succ, Act.put, List.setIfInBounds_toArray, List.set_cons_zero, List.set_cons_succ]))
      refine pl_nil ?_
      cases DE
      · have HE : Hid (QE = 7) := by show _ = _; rw [hE0.out]; rfl
        go_upto_region 10 with fail
        go_wp2_with (refine wpList_store_whole (n := 3) rfl rfl rfl rfl (by kernel_rfl) rfl hk24 rfl rfl ?_)
        intro wz hBz hgz
        have hfin := bad wz 7 (by decide) HE (below_grownBy hbl4 hz4 hgz (by intro k e; injection e; omega))
        clear hE0 hL0 hS0 bad
        go_wp2
        refine bodyPost_ret (results_tmp_blk_tmp rfl rfl (by kernel_rfl) (by kernel_rfl) hBz rfl) rfl ?_
        exact hfin.out
      · have HE : Hid (QE = 0) := by show _ = _; rw [hE0.out]; rfl
        have HL : Hid (QL = l) := by show _ = _; rw [hL0.out, if_pos HE.out]
        have HQ : Hid (QS = S) := by show _ = _; rw [hS0.out, if_pos HE.out]
        have hNl : l.length * 40 ≤ 140737488355328 := by have := htl.out; omega
        clear hE0 hL0 hS0 bad hDE
        go_upto_region 11 with fail
        refine wp_region_pl (fun w' => Below W3.heap.size W3 w') [4, 5] (.q 0 (.q 2 (.l 1 (.q 3 (.l 4 (.qc 5 .nil)))))) (by kernel_rfl) (by kernel_rfl) (fun _ _ d _ _ h => by cases d <;> exact h) rfl (by kernel_rfl) ?_ ?_
        · exact below_drew _
        intro W5 hS5
        repeat (first
          | (refine pl_q (by assumption) rfl rfl ?_; apply Exists.intro; refine ⟨fun w' hS => ?_, ?_⟩; (· (have hx := hB4.kept hS; have x0 := hx.cell 0; have x1 := hx.cell 1; have x2 := hx.cell 2; simp at x0 x1 x2; go_simp; exact rfl)); simp only [List.getElem_toArray, List.getElem_cons_zero, List.getElem_cons_succ, Act.put, List.setIfInBounds_toArray, List.set_cons_zero, List.set_cons_succ])
          | (refine pl_qc rfl rfl ?_; apply Exists.intro; refine ⟨fun w' _ => ?_, ?_⟩; (· (go_simp; exact rfl)); simp only [List.getElem_toArray, List.getElem_cons_zero, List.getElem_cons_succ, Act.put, List.setIfInBounds_toArray, List.set_cons_zero, List.set_cons_succ])
          | (refine pl_skip (by assumption) rfl rfl ?_; simp only [List.getElem_toArray, List.getElem_cons_zero, List.getElem_cons_succ, Act.put, List.setIfInBounds_toArray, List.set_cons_zero, List.set_cons_succ])
          | (refine pl_skipl (by assumption) rfl rfl ?_; simp only [List.getElem_toArray, List.getElem_cons_zero, List.getElem_cons_succ, Act.put, List.setIfInBounds_toArray, List.set_cons_zero, List.set_cons_succ]))
        first
          | refine pl_do rfl rfl (fun K hK => ?_)
          | refine op_do rfl rfl (fun K hK => ?_)
        try simp only [List.getElem_toArray, List.getElem_cons_zero, List.getElem_cons_succ]
        go_simp
        refine (slotsCopyF_any _ l _ (hl4.mono RSlot.mono (vle_below hS5))).mono ?_
        rintro e w6 ⟨v6, rfl, hb6, o6⟩
        have hS6 := hS5.trans (hb6.mono hS5.size)
        obtain ⟨nA, nc, rfl⟩ := o6.form
        have hz5 := hS5.size
        have hz6 := hS6.size
        refine hK.out _ _ (hS6) (fun hS => ?_)
        clear hK K
        try simp only [List.getElem_toArray, List.getElem_cons_zero, List.getElem_cons_succ, Act.put, List.setIfInBounds_toArray, List.set_cons_zero, List.set_cons_succ]
        repeat (first
          | (refine pl_q (by assumption) rfl rfl ?_; apply Exists.intro; refine ⟨fun w' hS => ?_, ?_⟩; (· (have hx := hB4.kept hS; have x0 := hx.cell 0; have x1 := hx.cell 1; have x2 := hx.cell 2; simp at x0 x1 x2; go_simp; exact rfl)); simp only [List.getElem_toArray, List.getElem_cons_zero, List.getElem_cons_succ, Act.put, List.setIfInBounds_toArray, List.set_cons_zero, List.set_cons_succ])
          | (refine pl_qc rfl rfl ?_; apply Exists.intro; refine ⟨fun w' _ => ?_, ?_⟩; (· (go_simp; exact rfl)); simp only [List.getElem_toArray, List.getElem_cons_zero, List.getElem_cons_succ, Act.put, List.setIfInBounds_toArray, List.set_cons_zero, List.set_cons_succ])
          | (refine pl_skip (by assumption) rfl rfl ?_; simp only [List.getElem_toArray, List.getElem_cons_zero, List.getElem_cons_succ, Act.put, List.setIfInBounds_toArray, List.set_cons_zero, List.set_cons_succ])
          | (refine pl_skipl (by assumption) rfl rfl ?_; simp only [List.getElem_toArray, List.getElem_cons_zero, List.getElem_cons_succ, Act.put, List.setIfInBounds_toArray, List.set_cons_zero, List.set_cons_succ]))
        first
          | refine pl_close rfl rfl rfl (fun K hK => ?_)
          | refine op_close rfl rfl rfl (fun K hK => ?_)
        try simp only [List.getElem_toArray, List.getElem_cons_zero, List.getElem_cons_succ]
        refine wp_store_whole (n := 3) rfl rfl rfl (by kernel_rfl) rfl (hk24.kept hS6) rfl rfl ?_
        intro w10 hB10 hg10
        have hB10 : Blk w10 (w.heap.size + 1) 45 #[.int .i64 S.author, .int .i64 S.round, .slice dA S.digest.length dc] := hB10
        have ho10 := o6.low RSlot.mono hg10 (by omega)
        have hbl9 := hbl4.trans (hS6.mono hz4)
        have hbl10 : Below w.heap.size w w10 := below_grownBy hbl9 hbl9.size hg10 (by intro k e; injection e; omega)
        have rd10 := (rd4.mono (vle_from _ (vle_below hS6))).mono ((from_but (by omega)).trans (vle_grown hg10))
        have rl10 := RSl.weak (R' := RSlot) (bs := 40) (fun h cs x hr => RSlot.mono _ _ _ _ hr (View.from_le _ _)) (ho10.reads (RFrom.mono RSlot.mono) hNl)
        refine hK.out _ _ ?_
        clear hK K
        try simp only [List.getElem_toArray, List.getElem_cons_zero, List.getElem_cons_succ, Act.put, List.setIfInBounds_toArray, List.set_cons_zero, List.set_cons_succ]
        repeat (first
          | (refine pl_q (by assumption) rfl rfl ?_; apply Exists.intro; refine ⟨fun w' hS => ?_, ?_⟩; (· (skip; go_simp; exact rfl)); simp only [List.getElem_toArray, List.getElem_cons_zero, List.getElem_cons_succ, Act.put, List.setIfInBounds_toArray, List.set_cons_zero, List.set_cons_succ])
          | (refine pl_qc rfl rfl ?_; apply Exists.intro; refine ⟨fun w' _ => ?_, ?_⟩; (· (go_simp; exact rfl)); simp only [List.getElem_toArray, List.getElem_cons_zero, List.getElem_cons_succ, Act.put, List.setIfInBounds_toArray, List.set_cons_zero, List.set_cons_succ])
          | (refine pl_skip (by assumption) rfl rfl ?_; simp only [List.getElem_toArray, List.getElem_cons_zero, List.getElem_cons_succ, Act.put, List.setIfInBounds_toArray, List.set_cons_zero, List.set_cons_succ])
          | (refine pl_skipl (by assumption) rfl rfl ?_; simp only [List.getElem_toArray, List.getElem_cons_zero, List.getElem_cons_succ, Act.put, List.setIfInBounds_toArray, List.set_cons_zero, List.set_cons_succ]))
        refine pl_nil ?_
        clear rd4 ho10 o6
        go_wp2
        refine bodyPost_ret (results_tmp_blk_tmp rfl rfl (by kernel_rfl) (by kernel_rfl) hB10 rfl) rfl ?_
        exact ⟨_, _, by rw [HE.out, HQ.out] <;> rfl, hbl10, by rw [HL.out]; exact rl10, by rw [HQ.out]; exact rd10⟩
end Go.Proofs.YtedealljhmokoaaDoor

namespace Go.Proofs.YtedealljhmokoaaDoor
open Go.ChangeShapes Go.WideShapes Go.ChangeAt Go.RowKit
set_option linter.unusedVariables false
set_option maxHeartbeats 1000000 in
set_option maxRecDepth 100000 in
theorem opens_slot : OpensTo Tryd.prog 45 RSlot := by
  intro H enc w fuel cs x h hw
  obtain ⟨hl, hf⟩ := opens_fields Tryd.underlying45 h hw
  obtain ⟨a, ha, _⟩ := hf 0 3 0 1 rfl (by kernel_rfl) opens_i
  obtain ⟨r, hr, _⟩ := hf 1 3 1 1 rfl (by kernel_rfl) opens_i
  obtain ⟨d, v, hd, hb⟩ := hf 2 25 2 1 rfl (by kernel_rfl) opens_bytes
  have hl' : cs.length = 3 := hl.trans (by kernel_rfl)
  match cs, hl' with
  | [c0, c1, c2], _ =>
    simp at ha hr hd
    subst ha hr hd
    exact ⟨⟨a, r, d⟩, _, rfl, hb⟩
theorem opens_slots : OpensTo Tryd.prog 42 (fun h cs (xs : List Slot) => ∃ v, cs = [v] ∧ RSl 3 RSlot 40 h v xs) :=
  opens_sl Tryd.underlying42 (by kernel_rfl) (by decide) (by kernel_rfl) opens_slot
/-- an argument that is one cell -/
theorem open_cell {P : Program} {H : Type} {enc : TypeId × Value → H} {W : World} {t e : TypeId} {base : Nat} {v : Value} {d : DataW H} {p : List MemPlace} {α : Type} {R : View → Value → α → Prop} (ht : P.underlying t = some (.slice e)) (hval : Value.okWide P W .any base t v)
    (h : DataW.Trod enc P W 0 (fun _ => true) true t v d p) (hw : ∀ n ∈ DataW.weights P t d, n ≤ reachBytes) (ho : OpensTo P t (fun h cs x => ∃ v, cs = [v] ∧ R h v x)) : ∃ x, R W.cell? v x := by
  obtain ⟨fuel, h⟩ := h
  obtain ⟨x, v', hc, hr⟩ := ho H enc W fuel _ _ h hw
  obtain ⟨a, n, c, rfl⟩ := okWide_slice ht hval
  obtain rfl : Value.slice a n c = v' := by simpa [Value.cells] using hc
  exact ⟨x, hr⟩
end Go.Proofs.YtedealljhmokoaaDoor

namespace Go.Proofs.YtedealljhmokoaaDoor
open Go.ChangeShapes Go.WideShapes Go.ChangeAt Go.RowKit
set_option linter.unusedVariables false
set_option linter.unusedSimpArgs false
theorem castL_len (l : List Slot) (h : Hdr) : (castL l h).length ≤ l.length + 1 := by
  unfold castL
  split
  · split
    · omega
    · simp
  · simp
theorem castL_small (l : List Slot) (h : Hdr) : (castL l h).length ≤ 401 := by
  unfold castL
  split
  · rename_i h0
    have h1 : tableF l = 0 := by
      unfold castE at h0
      split at h0
      · rename_i h2; exact absurd h0 h2
      · rename_i h2; exact Decidable.not_not.1 h2
    have := table_len h1
    split
    · omega
    · simp; omega
  · simp
set_option maxHeartbeats 4000000 in
set_option maxRecDepth 100000 in
theorem sameSlots_same (va vb : Value) (l : List Slot) (w : World) (ha : RSlots w.cell? va l) (hb : RSlots w.cell? vb l) :
    Calls Tryd.prog 28 #[va, vb] w fun e w' => e = .returned (.bool true) ∧ Below w.heap.size w w' := by
  obtain ⟨A, c, rfl, hf1⟩ := id ha
  obtain ⟨B, d, rfl, hf2⟩ := id hb
  obtain ⟨_, _, hlen, hel⟩ := RSlots.at ha
  obtain ⟨_, _, _, hel2⟩ := RSlots.at hb
  have Hel := Lib.hid hel
  have Hel2 := Lib.hid hel2
  clear hel hel2 ha hb hf1 hf2
  go_enter Tryd.func28, Tryd.ntmps28
  go_wp2
  go_loopw [5] (fun i wr => ∃ k : Nat, k ≤ l.length ∧ i = .int .i64 k ∧ Below w.heap.size w wr) (fun i _ => l.length - (intOf i).toNat)
  case atStart => exact ⟨0, Nat.zero_le _, rfl, Below.refl _ _⟩
  case round =>
    obtain ⟨k, hk, rfl, hbl⟩ := hrel
    have hz := hbl.size
    by_cases hlt : k < l.length
    · obtain ⟨b0, o0, xd, rfl, e0, e1, e2, r1⟩ := Hel.out k hlt
      obtain ⟨b1, o1, yd, rfl, f0, f1, f2, s1⟩ := Hel2.out k hlt
      have c0 := vle_below hbl _ _ e0; have c1 := vle_below hbl _ _ e1; have c2 := vle_below hbl _ _ e2
      have g0 := vle_below hbl _ _ f0; have g1 := vle_below hbl _ _ f1; have g2 := vle_below hbl _ _ f2
      clear e0 e1 e2 f0 f1 f2
      generalize l[k] = x at *
      go_wp2
      refine wp_region_pl (fun w' => Below wr.heap.size wr w') [] (.q 0 (.q 1 (.q 2 (.q 3 (.q 4 (.q 5 (.q 6 (.q 7 (.l 8 (.q 9 .nil)))))))))) (by kernel_rfl) (by kernel_rfl) (fun _ _ d _ _ h => by cases d <;> exact h) rfl (by kernel_rfl) ?_ ?_
      · exact below_drew _
      intro W hS
      repeat (first
        | (refine pl_q (by assumption) rfl rfl ?_; apply Exists.intro; refine ⟨fun w' hS => ?_, ?_⟩; (· (have q := vle_below hS; have a0 := q _ _ c0; have a1 := q _ _ c1; have a2 := q _ _ c2; have b0 := q _ _ g0; have b1 := q _ _ g1; have b2 := q _ _ g2; go_simp; exact rfl)); simp only [List.getElem_toArray, List.getElem_cons_zero, List.getElem_cons_succ, Act.put, List.setIfInBounds_toArray, List.set_cons_zero, List.set_cons_succ])
        | (refine pl_qc rfl rfl ?_; apply Exists.intro; refine ⟨fun w' _ => ?_, ?_⟩; (· (go_simp; exact rfl)); simp only [List.getElem_toArray, List.getElem_cons_zero, List.getElem_cons_succ, Act.put, List.setIfInBounds_toArray, List.set_cons_zero, List.set_cons_succ])
        | (refine pl_skip (by assumption) rfl rfl ?_; simp only [List.getElem_toArray, List.getElem_cons_zero, List.getElem_cons_succ, Act.put, List.setIfInBounds_toArray, List.set_cons_zero, List.set_cons_succ])
        | (refine pl_skipl (by assumption) rfl rfl ?_; simp only [List.getElem_toArray, List.getElem_cons_zero, List.getElem_cons_succ, Act.put, List.setIfInBounds_toArray, List.set_cons_zero, List.set_cons_succ]))
      first
        | refine pl_do rfl rfl (fun K hK => ?_)
        | refine op_do rfl rfl (fun K hK => ?_)
      try simp only [List.getElem_toArray, List.getElem_cons_zero, List.getElem_cons_succ]
      go_simp
      have qq := vle_below (hbl.trans (hS.mono hz))
      refine (sameSlot_same _ _ _ _ x.digest _ (r1.mono qq) (s1.mono qq)).mono ?_
      rintro e w2 ⟨rfl, hb2⟩
      refine hK.out _ _ (hS.trans (hb2.mono hS.size)) (fun hS => ?_)
      clear hK K
      try simp only [List.getElem_toArray, List.getElem_cons_zero, List.getElem_cons_succ, Act.put, List.setIfInBounds_toArray, List.set_cons_zero, List.set_cons_succ]
      repeat (first
        | (refine pl_q (by assumption) rfl rfl ?_; apply Exists.intro; refine ⟨fun w' hS => ?_, ?_⟩; (· (skip; go_simp; exact rfl)); simp only [List.getElem_toArray, List.getElem_cons_zero, List.getElem_cons_succ, Act.put, List.setIfInBounds_toArray, List.set_cons_zero, List.set_cons_succ])
        | (refine pl_qc rfl rfl ?_; apply Exists.intro; refine ⟨fun w' _ => ?_, ?_⟩; (· (go_simp; exact rfl)); simp only [List.getElem_toArray, List.getElem_cons_zero, List.getElem_cons_succ, Act.put, List.setIfInBounds_toArray, List.set_cons_zero, List.set_cons_succ])
        | (refine pl_skip (by assumption) rfl rfl ?_; simp only [List.getElem_toArray, List.getElem_cons_zero, List.getElem_cons_succ, Act.put, List.setIfInBounds_toArray, List.set_cons_zero, List.set_cons_succ])
        | (refine pl_skipl (by assumption) rfl rfl ?_; simp only [List.getElem_toArray, List.getElem_cons_zero, List.getElem_cons_succ, Act.put, List.setIfInBounds_toArray, List.set_cons_zero, List.set_cons_succ]))
      refine pl_nil ?_
      go_wp2
      go_roundw
      case rel => exact ⟨k + 1, by omega, by go_num, hbl.trans (hS.mono hz)⟩
      case measure => simp [intOf]; omega
    · go_wp2
      go_ret
      exact ⟨rfl, hbl⟩
set_option maxHeartbeats 4000000 in
set_option maxRecDepth 100000 in
theorem ballotCasts_any (vl : Value) (l : List Slot) (h : Hdr) (vb vp : Value) (w : World) (hl : RSlots w.cell? vl l) (hb : RDigs w.cell? vb h.batches) (hp : RDigs w.cell? vp h.parents) (hT : Tabs w.cell?) :
    Calls Tryd.prog 6 #[vl, .agg #[.int .i64 h.author, .int .i64 h.round, vb, vp]] w fun e w' => e = .returned (.bool true) ∧ Below w.heap.size w w' := by
  obtain ⟨A, c, rfl, hf0⟩ := id hl
  obtain ⟨bA, bc, rfl, hf1⟩ := id hb
  obtain ⟨pA, pc, rfl, hf2⟩ := id hp
  clear hf0 hf1 hf2
  have Hlen := Lib.hid (show l.length * 40 ≤ 140737488355328 by obtain ⟨_, _, _, _, _, h, _⟩ := hl; exact h)
  obtain ⟨QE, hQE⟩ : ∃ q, Hid (castE l h = q) := ⟨_, rfl⟩
  obtain ⟨QL, hQL⟩ : ∃ q, Hid (castL l h = q) := ⟨_, rfl⟩
  obtain ⟨QS, hQS⟩ : ∃ q, Hid (castS l h = q) := ⟨_, rfl⟩
  go_enter Tryd.func6, Tryd.ntmps6
  go_upto_region 1 with fail
  refine one_block _ _ _ (fun W => Code.wp _ _ _ _ W) (fun W hk hsz hbW => ?_)
  clear hsz
  have hzW := hbW.size
  go_wp2_with fail
  refine (slotsCopy_any _ l _ (hl.mono RSlot.mono (vle_below hbW))).mono ?_
  rintro e w1 ⟨v1, rfl, hb1, o1⟩
  have hbl1 := hbW.trans (hb1.mono hzW)
  have hz1 := hbl1.size
  obtain ⟨A1, c1, rfl⟩ := o1.form
  have r1 : RSlots w1.cell? _ l := o1.reads RSlot.mono Hlen.out
  have hk1 := hk.kept hb1
  have q1 := vle_below hbl1
  have g0 := hk1.cell 0; have g1 := hk1.cell 1; have g2 := hk1.cell 2; have g3 := hk1.cell 3
  simp at g0 g1 g2 g3
  clear o1
  go_wp2_with fail
  refine (headerCopy_any _ _ _ _ h.batches h.parents _ (hb.mono RDig.mono q1) (hp.mono RDig.mono q1)).mono ?_
  rintro e w2 ⟨ub, up, rfl, hb2, s1, s2⟩
  have hbl2 := hbl1.trans (hb2.mono hz1)
  have hz2 := hbl2.size
  have t1 := s1.mono RDig.mono (View.from_le _ _)
  have t2 := s2.mono RDig.mono (View.from_le _ _)
  have hk2 := hk1.kept hb2
  have r2 := r1.mono RSlot.mono (vle_below hb2)
  obtain ⟨B1, d1, rfl, hg1⟩ := id t1
  obtain ⟨B2, d2, rfl, hg2⟩ := id t2
  clear s1 s2 hg1 hg2 g0 g1 g2 g3 q1 r1 hk1
  go_wp2_with fail
  refine (cast_any _ l h _ _ _ r2 t1 t2 (hT.mono (vle_below hbl2))).mono ?_
  rintro e w3 ⟨v3, sd3, rfl, hb3, rl3, rs3⟩
  rw [hQE.out, hQS.out]
  rw [hQL.out] at rl3
  rw [hQS.out] at rs3
  have hbl3 := hbl2.trans (hb3.mono hz2)
  have hz3 := hbl3.size
  have hk3 := hk2.kept hb3
  have r3 := r2.mono RSlot.mono (vle_below hb3)
  obtain ⟨A3, c3, rfl⟩ := RSlots.form rl3
  obtain ⟨D3, e3, rfl, hf⟩ := id rs3
  clear hf t1 t2 r2 hk2
  go_upto_region 3 with fail
  refine one_block _ _ _ (fun W => Code.wp _ _ _ _ W) (fun W4 h4 hs4 hb4 => ?_)
  clear hs4
  have hbl4 := hbl3.trans (hb4.mono hz3)
  have hz4 := hbl4.size
  have hk4 := hk3.kept hb4
  have r4 := r3.mono RSlot.mono (vle_below hb4)
  have rl4 := rl3.mono RSlot.mono (vle_below hb4)
  have rs4 := rs3.mono (vle_below hb4)
  have q4 := vle_below hbl4
  have g0 := hk4.cell 0; have g1 := hk4.cell 1; have g2 := hk4.cell 2; have g3 := hk4.cell 3
  simp at g0 g1 g2 g3
  clear r3 rl3 rs3 hk3
  go_wp2_with fail
  refine (castFor_any _ l h _ _ _ (hl.mono RSlot.mono q4) (hb.mono RDig.mono q4) (hp.mono RDig.mono q4)).mono ?_
  rintro e w5 ⟨v5, sd5, rfl, hb5, rl5, rs5⟩
  rw [hQE.out, hQS.out]
  rw [hQL.out] at rl5
  rw [hQS.out] at rs5
  have hbl5 := hbl4.trans (hb5.mono hz4)
  have hz5 := hbl5.size
  have h45 := h4.kept hb5
  have r5 := r4.mono RSlot.mono (vle_below hb5)
  have rl45 := rl4.mono RSlot.mono (vle_below hb5)
  have rs45 := rs4.mono (vle_below hb5)
  obtain ⟨A5, c5, rfl⟩ := RSlots.form rl5
  obtain ⟨D5, e5, rfl, hf⟩ := id rs5
  clear hf r4 rl4 rs4 hk4 h4 g0 g1 g2 g3 q4
  go_upto_region 4 with fail
  refine one_block _ _ _ (fun W => Code.wp _ _ _ _ W) (fun W6 h6 hs6 hb6 => ?_)
  clear hs6
  have hbl6 := hbl5.trans (hb6.mono hz5)
  have hz6 := hbl6.size
  have h46 := h45.kept hb6
  have q6 := vle_below hb6
  have x0 := h46.cell 0; have x1 := h46.cell 1; have x2 := h46.cell 2
  have y0 := h6.cell 0; have y1 := h6.cell 1; have y2 := h6.cell 2
  simp at x0 x1 x2 y0 y1 y2
  go_wp2_with fail
  refine (sameSlots_same _ _ QL _ (rl45.mono RSlot.mono q6) (rl5.mono RSlot.mono q6)).mono ?_
  rintro e w7 ⟨rfl, hb7⟩
  have q7 := vle_below hb7
  have x0' := q7 _ _ x0; have x1' := q7 _ _ x1; have x2' := q7 _ _ x2; have y0' := q7 _ _ y0; have y1' := q7 _ _ y1; have y2' := q7 _ _ y2
  clear x0 x1 x2 y0 y1 y2
  have hbl7 := hbl6.trans (hb7.mono hz6)
  go_wp2_with fail
  refine (sameSlot_same _ _ _ _ QS.digest _ ((rs45.mono q6).mono q7) ((rs5.mono q6).mono q7)).mono ?_
  rintro e w8 ⟨rfl, hb8⟩
  have hbl8 := hbl7.trans (hb8.mono hbl7.size)
  clear x0' x1' x2' y0' y1' y2'
  go_wp2_with fail
  refine (sameSlots_same _ _ l _ (((r5.mono RSlot.mono q6).mono RSlot.mono q7).mono RSlot.mono (vle_below hb8)) (hl.mono RSlot.mono (vle_below hbl8))).mono ?_
  rintro e w9 ⟨rfl, hb9⟩
  go_wp2
  go_ret
  exact ⟨rfl, hbl8.trans (hb9.mono hbl8.size)⟩
set_option maxHeartbeats 1000000 in
set_option maxRecDepth 100000 in
theorem ballotCasts_open {H : Type} {enc : TypeId × Value → H} (W : World) (hT : Tabs W.cell?) {base : Nat} {v v1 : Value} {d d1 : DataW H} {p p1 : List MemPlace} (hval : Value.okWide Tryd.prog W .any base 42 v) (h : DataW.Trod enc Tryd.prog W 0 (fun _ => true) true 42 v d p)
    (hw : ∀ n ∈ DataW.weights Tryd.prog 42 d, n ≤ reachBytes) (hval1 : Value.okWide Tryd.prog W .any base 37 v1) (h1 : DataW.Trod enc Tryd.prog W 0 (fun _ => true) true 37 v1 d1 p1)
    (hw1 : ∀ n ∈ DataW.weights Tryd.prog 37 d1, n ≤ reachBytes) : Calls Tryd.prog 6 #[v, v1] W fun e w' => e = .returned (.bool true) ∧ Below W.heap.size W w' := by
  obtain ⟨l, hr⟩ := open_cell (R := RSl 3 RSlot 40) Tryd.underlying42 hval h hw opens_slots
  obtain ⟨x, vb, vp, rfl, hb, hp⟩ := open_hdr hval1 h1 hw1
  exact ballotCasts_any _ l x _ _ _ hr hb hp hT
set_option maxRecDepth 100000 in
theorem ballotCasts_lifted (os : Os) (started : os.Started) (H : Type) (enc : TypeId × Value → H) :
    ReturnsInHanded {} Tryd.checked os 6 .any (fun w args => (Rows.ballotCastsSpec.pre enc Tryd.prog Tryd.f6 [] false w args ∧ laidMetH Tryd.prog laid3 w) ∧ sizedMet enc Tryd.prog Tryd.f6 (OpenSpec.ofChange Rows.ballotCastsSpec) false w args) (Rows.ballotCastsSpec.post enc Tryd.prog Tryd.f6 false true false false) := by
  refine returnsInHanded_of_change_and (C := Tryd.checked) (X := fun w _ => laidMetH Tryd.prog laid3 w) (fun _ _ _ hh h => h.of_heap hh) own_ started (by kernel_rfl) Tryd.func6
    (ChangeSpec.witness_shaped (enc := enc) (C := Tryd.checked) (os := os) (X := fun w _ => laidMetH Tryd.prog laid3 w) false (World.doorLaid Tryd.prog 400 os) #[.slice none 0 0, .agg #[.int .i64 0, .int .i64 0, .slice none 0 0, .slice none 0 0]] 8 rfl (World.shaped_of_RefB (by kernel_rfl) (by kernel_rfl)) (by kernel_rfl) (by kernel_rfl) (by kernel_rfl) (door_met os _)) ?_
  intro W base args ds gs before hval0 hW _ hsz hL _
  have hval : ∀ (j : Nat) t v, Tryd.f6.params[j]? = some t → args[j]? = some v → Value.okWide Tryd.prog W .any base t v := hval0
  have hW' := hW
  obtain ⟨p, q, hA, hV, rfl, hfz, hnd⟩ := hW
  obtain ⟨rfl, rfl⟩ := trodVars_none hV
  have hA : DataW.TrodAll enc Tryd.prog W 0 (fun _ => true) true Tryd.f6.params.toList args.toList ds p := hA
  rw [Tryd.params6] at hA hval hsz
  obtain ⟨v0, v1, d0, d1, p0, p1, rfl, rfl, rfl, h0, h1⟩ := trodAll_two hA
  have hs0 : ∀ n ∈ DataW.weights Tryd.prog _ d0, n ≤ reachBytes := fun n hn => by simpa using List.all_eq_true.1 hsz n (DataW.weights_mem_each (j := 0) rfl rfl n hn)
  have hs1 : ∀ n ∈ DataW.weights Tryd.prog _ d1, n ≤ reachBytes := fun n hn => by simpa using List.all_eq_true.1 hsz n (DataW.weights_mem_each (j := 1) rfl rfl n hn)
  refine (ballotCasts_open W (of_laid hL) (hval 0 _ _ rfl rfl) h0 hs0 (hval 1 _ _ rfl rfl) h1 hs1).mono fun e W' ⟨he, hb⟩ => ?_
  exact law_close laidOut (b := 4) rfl Tryd.underlying4 rfl (readables _ (by kernel_rfl)) rfl hW' he hb
theorem ballotCasts_holds : Rows.BallotCastsSaid :=
  OpenClaim.holds_of_wide 6 Tryd.f6 rfl rfl rfl rfl rfl rfl rfl ⟨rfl, rfl, rfl, rfl, rfl⟩ rfl rfl rfl rfl rfl (by kernel_rfl) Tryd.func6 (by kernel_rfl)
    (of_decide_eq_true (by kernel_rfl)) (by unfold Func.isWrapper; first | (rw [if_pos (by decide +kernel)]; kernel_rfl) | (rw [if_neg (by decide +kernel)]; exact ⟨rfl, rfl⟩))
    (fun os started H enc _ => ballotCasts_lifted os started H enc)
theorem ballotCasts_card : Rows.BallotCastsCardSaid :=
  Claim7.holds_tied_plain_at .later [] [.widerDeep, .data, .data] true Rows.ballotCastsCard.stood.harness false
    ballotCasts_holds (fun _ h => by cases h) (by kernel_rfl) (fun _ h => by cases h) ballotCasts_row_tie rfl ⟨rfl, rfl⟩ (by kernel_rfl) rfl
    (fun f fn hf hfn => by
      obtain rfl : f = 6 := Option.some.inj ((show Tryd.prog.funcNamed "sheaves/sheaveslaw.BallotCasts" = some 6 by kernel_rfl).symm.trans hf) |>.symm
      obtain rfl : fn = Tryd.f6 := (Option.some.inj (Tryd.func6.symm.trans hfn)).symm
      exact ⟨by kernel_rfl, fun j t ht => by
        have hall : (Tryd.f6.params.toList.all fun u => !Tryd.prog.wantsStandIn u) = true := by kernel_rfl
        have := List.all_eq_true.1 hall t (by simpa using Array.mem_of_getElem? ht)
        exact (show Tryd.prog.wantsStandIn t = false by simpa using this)⟩)
    (by kernel_rfl)
end Go.Proofs.YtedealljhmokoaaDoor
