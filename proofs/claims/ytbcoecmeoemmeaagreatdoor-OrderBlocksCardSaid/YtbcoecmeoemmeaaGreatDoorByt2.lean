/- headerBytes, the document's. -/
import Derived.Test.YtbcoecmeoemmeaaGreatDoorByt
namespace Go.Proofs.YtbcoecmeoemmeaaGreatDoor
open Go.ChangeShapes Go.WideShapes Go.ChangeAt Go.RowKit
set_option linter.unusedVariables false
set_option linter.unusedSimpArgs false
set_option maxHeartbeats 4000000 in
set_option maxRecDepth 100000 in
theorem headerBytes_any (a n : Int) (vb vp : Value) (b p : List (List UInt8)) (w : World) (hr0 : 0 ≤ n) (hr1 : n ≤ 140737488355328) (hb : RDigs w.cell? vb b) (hp : RDigs w.cell? vp p) (hsz : 6 + b.flatten.length + p.flatten.length ≤ 140737488355328) :
    Calls Tryz.prog 140 #[.agg #[.int .i64 a, .int .i64 n, vb, vp]] w fun e w' => ∃ v', e = .returned v' ∧ Below w.heap.size w w' ∧ OwnB w' w.heap.size v' (headerB a n b p) := by
  obtain ⟨bA, bc, rfl, _⟩ := id hb
  obtain ⟨pA, pc, rfl, _⟩ := id hp
  obtain ⟨_, hbcap, hblen, hbel⟩ := hb.at
  obtain ⟨_, hpcap, hplen, hpel⟩ := hp.at
  have Hbl := Lib.hid hbel
  have Hpl := Lib.hid hpel
  clear hbel hpel hb hp
  have e0 := byteI_wrap a
  have e1 := byteI_wrap b.length
  have e2 := byteI_wrap p.length
  have hD : Hid (headerB a n b p = ((byteI a :: wideB n) ++ (byteI b.length :: b.flatten)) ++ (byteI p.length :: p.flatten)) := rfl
  generalize byteI a = U0 at e0 hD
  generalize byteI b.length = U1 at e1 hD
  generalize byteI p.length = U2 at e2 hD
  generalize headerB a n b p = Db at hD ⊢
  have hwl : (wideB n).length = 3 := rfl
  generalize hWr : wideB n = Wr at hwl hD
  obtain ⟨Y, hY⟩ : ∃ Y, Hid ([U0] ++ Wr ++ [U1] = Y) := ⟨_, rfl⟩
  have hYl : Y.length = 5 := by rw [← hY.out]; simp only [List.length_append, List.length_cons, List.length_nil]; omega
  obtain ⟨nb, hnb⟩ : ∃ n, Hid (b.flatten.length = n) := ⟨_, rfl⟩
  obtain ⟨np, hnp⟩ : ∃ n, Hid (p.flatten.length = n) := ⟨_, rfl⟩
  have hsz : 6 + nb + np ≤ 140737488355328 := by rw [← hnb.out, ← hnp.out]; exact hsz
  go_enter Tryz.func140, Tryz.ntmps140
  go_upto_region 1 with fail
  refine one_block _ _ _ (fun W => Code.wp _ _ _ _ W) (fun W hk hszW hblW0 => ?_)
  clear hszW
  go_cut [3] (fun v w' => OwnB w' W.heap.size v ([U0] ++ Wr) ∧ Below W.heap.size W w')
  case first =>
    refine wp_region_pl (fun w' => Below W.heap.size W w') [8] (.q 0 (.q 1 (.q 2 (.q 4 (.q 5 (.alt 3 (.l 6 (.l 7 (.qc 8 .nil))) 6 (.l 3 (.l 7 (.qc 8 .nil))))))))) (by kernel_rfl) (by kernel_rfl) (fun _ _ d _ _ h => by cases d <;> exact h) rfl (by kernel_rfl) ?_ ?_
    · exact below_drew _
    intro W1 hS
    repeat (first
      | (refine pl_q (by assumption) rfl rfl ?_; apply Exists.intro; refine ⟨fun w' hS => ?_, ?_⟩; (· (have hq := hk.kept hS; have h0 := hq.cell 0; have h1 := hq.cell 1; have h2 := hq.cell 2; have h3 := hq.cell 3; simp at h0 h1 h2 h3; go_simp; exact rfl)); simp only [List.getElem_toArray, List.getElem_cons_zero, List.getElem_cons_succ, Act.put, List.setIfInBounds_toArray, List.set_cons_zero, List.set_cons_succ])
      | (refine pl_qc rfl rfl ?_; apply Exists.intro; refine ⟨fun w' _ => ?_, ?_⟩; (· (go_simp; exact rfl)); simp only [List.getElem_toArray, List.getElem_cons_zero, List.getElem_cons_succ, Act.put, List.setIfInBounds_toArray, List.set_cons_zero, List.set_cons_succ])
      | (refine pl_skip (by assumption) rfl rfl ?_; simp only [List.getElem_toArray, List.getElem_cons_zero, List.getElem_cons_succ, Act.put, List.setIfInBounds_toArray, List.set_cons_zero, List.set_cons_succ])
      | (refine pl_skipl (by assumption) rfl rfl ?_; simp only [List.getElem_toArray, List.getElem_cons_zero, List.getElem_cons_succ, Act.put, List.setIfInBounds_toArray, List.set_cons_zero, List.set_cons_succ]))
    refine pl_alt ?_ ?_
    · first
        | refine pl_do rfl rfl (fun K hK => ?_)
        | refine op_do rfl rfl (fun K hK => ?_)
      try simp only [List.getElem_toArray, List.getElem_cons_zero, List.getElem_cons_succ]
      go_simp
      refine byte_alloc _ U0 (fun W => K _ W) (fun w2 cA _ b2 => ?_)
      have b2 := hS.trans (b2.mono hS.size)
      refine hK.out _ _ (b2) (fun hS => ?_)
      clear hK K
      try simp only [List.getElem_toArray, List.getElem_cons_zero, List.getElem_cons_succ, Act.put, List.setIfInBounds_toArray, List.set_cons_zero, List.set_cons_succ]
      repeat (first
        | (refine pl_q (by assumption) rfl rfl ?_; apply Exists.intro; refine ⟨fun w' hS => ?_, ?_⟩; (· (have hq := hk.kept hS; have h0 := hq.cell 0; have h1 := hq.cell 1; have h2 := hq.cell 2; have h3 := hq.cell 3; simp at h0 h1 h2 h3; go_simp; exact rfl)); simp only [List.getElem_toArray, List.getElem_cons_zero, List.getElem_cons_succ, Act.put, List.setIfInBounds_toArray, List.set_cons_zero, List.set_cons_succ])
        | (refine pl_qc rfl rfl ?_; apply Exists.intro; refine ⟨fun w' _ => ?_, ?_⟩; (· (go_simp; exact rfl)); simp only [List.getElem_toArray, List.getElem_cons_zero, List.getElem_cons_succ, Act.put, List.setIfInBounds_toArray, List.set_cons_zero, List.set_cons_succ])
        | (refine pl_skip (by assumption) rfl rfl ?_; simp only [List.getElem_toArray, List.getElem_cons_zero, List.getElem_cons_succ, Act.put, List.setIfInBounds_toArray, List.set_cons_zero, List.set_cons_succ])
        | (refine pl_skipl (by assumption) rfl rfl ?_; simp only [List.getElem_toArray, List.getElem_cons_zero, List.getElem_cons_succ, Act.put, List.setIfInBounds_toArray, List.set_cons_zero, List.set_cons_succ]))
      first
        | refine pl_do rfl rfl (fun K hK => ?_)
        | refine op_do rfl rfl (fun K hK => ?_)
      try simp only [List.getElem_toArray, List.getElem_cons_zero, List.getElem_cons_succ]
      go_simp
      refine (three_any n _ hr0 hr1).mono ?_
      rintro e w3 ⟨v3, rfl, b3, o3⟩
      rw [hWr] at o3
      have cA := vle_below b3 _ _ cA
      have b3 := b2.trans (b3.mono b2.size)
      refine hK.out _ _ (b3) (fun hS => ?_)
      clear hK K
      try simp only [List.getElem_toArray, List.getElem_cons_zero, List.getElem_cons_succ, Act.put, List.setIfInBounds_toArray, List.set_cons_zero, List.set_cons_succ]
      repeat (first
        | (refine pl_q (by assumption) rfl rfl ?_; apply Exists.intro; refine ⟨fun w' hS => ?_, ?_⟩; (· (have hq := hk.kept hS; have h0 := hq.cell 0; have h1 := hq.cell 1; have h2 := hq.cell 2; have h3 := hq.cell 3; simp at h0 h1 h2 h3; go_simp; exact rfl)); simp only [List.getElem_toArray, List.getElem_cons_zero, List.getElem_cons_succ, Act.put, List.setIfInBounds_toArray, List.set_cons_zero, List.set_cons_succ])
        | (refine pl_qc rfl rfl ?_; apply Exists.intro; refine ⟨fun w' _ => ?_, ?_⟩; (· (go_simp; exact rfl)); simp only [List.getElem_toArray, List.getElem_cons_zero, List.getElem_cons_succ, Act.put, List.setIfInBounds_toArray, List.set_cons_zero, List.set_cons_succ])
        | (refine pl_skip (by assumption) rfl rfl ?_; simp only [List.getElem_toArray, List.getElem_cons_zero, List.getElem_cons_succ, Act.put, List.setIfInBounds_toArray, List.set_cons_zero, List.set_cons_succ])
        | (refine pl_skipl (by assumption) rfl rfl ?_; simp only [List.getElem_toArray, List.getElem_cons_zero, List.getElem_cons_succ, Act.put, List.setIfInBounds_toArray, List.set_cons_zero, List.set_cons_succ]))
      first
        | refine pl_do rfl rfl (fun K hK => ?_)
        | refine op_do rfl rfl (fun K hK => ?_)
      try simp only [List.getElem_toArray, List.getElem_cons_zero, List.getElem_cons_succ]
      go_simp
      refine (joined_any _ _ [U0] Wr _ (one_cell cA) (o3.reads (by rw [hwl]; decide)) 140737488355328 (Nat.le_refl _) (by rw [hwl]; simp)).mono ?_
      rintro e w4 ⟨v4, rfl, b4, o4⟩
      have b5 := b3.trans (b4.mono b3.size)
      refine hK.out _ _ (b5) (fun hS => ?_)
      clear hK K
      try simp only [List.getElem_toArray, List.getElem_cons_zero, List.getElem_cons_succ, Act.put, List.setIfInBounds_toArray, List.set_cons_zero, List.set_cons_succ]
      repeat (first
        | (refine pl_q (by assumption) rfl rfl ?_; apply Exists.intro; refine ⟨fun w' hS => ?_, ?_⟩; (· (skip; go_simp; exact rfl)); simp only [List.getElem_toArray, List.getElem_cons_zero, List.getElem_cons_succ, Act.put, List.setIfInBounds_toArray, List.set_cons_zero, List.set_cons_succ])
        | (refine pl_qc rfl rfl ?_; apply Exists.intro; refine ⟨fun w' _ => ?_, ?_⟩; (· (go_simp; exact rfl)); simp only [List.getElem_toArray, List.getElem_cons_zero, List.getElem_cons_succ, Act.put, List.setIfInBounds_toArray, List.set_cons_zero, List.set_cons_succ])
        | (refine pl_skip (by assumption) rfl rfl ?_; simp only [List.getElem_toArray, List.getElem_cons_zero, List.getElem_cons_succ, Act.put, List.setIfInBounds_toArray, List.set_cons_zero, List.set_cons_succ])
        | (refine pl_skipl (by assumption) rfl rfl ?_; simp only [List.getElem_toArray, List.getElem_cons_zero, List.getElem_cons_succ, Act.put, List.setIfInBounds_toArray, List.set_cons_zero, List.set_cons_succ]))
      refine pl_nil ?_
      go_wp2
      go_meet
      exact ⟨o4.base b3.size, b5⟩
    · first
        | refine pl_do rfl rfl (fun K hK => ?_)
        | refine op_do rfl rfl (fun K hK => ?_)
      try simp only [List.getElem_toArray, List.getElem_cons_zero, List.getElem_cons_succ]
      go_simp
      refine (three_any n _ hr0 hr1).mono ?_
      rintro e w2 ⟨v3, rfl, b2, o3⟩
      rw [hWr] at o3
      have b2 := hS.trans (b2.mono hS.size)
      refine hK.out _ _ (b2) (fun hS => ?_)
      clear hK K
      try simp only [List.getElem_toArray, List.getElem_cons_zero, List.getElem_cons_succ, Act.put, List.setIfInBounds_toArray, List.set_cons_zero, List.set_cons_succ]
      repeat (first
        | (refine pl_q (by assumption) rfl rfl ?_; apply Exists.intro; refine ⟨fun w' hS => ?_, ?_⟩; (· (have hq := hk.kept hS; have h0 := hq.cell 0; have h1 := hq.cell 1; have h2 := hq.cell 2; have h3 := hq.cell 3; simp at h0 h1 h2 h3; go_simp; exact rfl)); simp only [List.getElem_toArray, List.getElem_cons_zero, List.getElem_cons_succ, Act.put, List.setIfInBounds_toArray, List.set_cons_zero, List.set_cons_succ])
        | (refine pl_qc rfl rfl ?_; apply Exists.intro; refine ⟨fun w' _ => ?_, ?_⟩; (· (go_simp; exact rfl)); simp only [List.getElem_toArray, List.getElem_cons_zero, List.getElem_cons_succ, Act.put, List.setIfInBounds_toArray, List.set_cons_zero, List.set_cons_succ])
        | (refine pl_skip (by assumption) rfl rfl ?_; simp only [List.getElem_toArray, List.getElem_cons_zero, List.getElem_cons_succ, Act.put, List.setIfInBounds_toArray, List.set_cons_zero, List.set_cons_succ])
        | (refine pl_skipl (by assumption) rfl rfl ?_; simp only [List.getElem_toArray, List.getElem_cons_zero, List.getElem_cons_succ, Act.put, List.setIfInBounds_toArray, List.set_cons_zero, List.set_cons_succ]))
      first
        | refine pl_do rfl rfl (fun K hK => ?_)
        | refine op_do rfl rfl (fun K hK => ?_)
      try simp only [List.getElem_toArray, List.getElem_cons_zero, List.getElem_cons_succ]
      go_simp
      refine byte_alloc _ U0 (fun W => K _ W) (fun w3 cA _ b3 => ?_)
      have o3 := o3.kept b3
      have b3 := b2.trans (b3.mono b2.size)
      refine hK.out _ _ (b3) (fun hS => ?_)
      clear hK K
      try simp only [List.getElem_toArray, List.getElem_cons_zero, List.getElem_cons_succ, Act.put, List.setIfInBounds_toArray, List.set_cons_zero, List.set_cons_succ]
      repeat (first
        | (refine pl_q (by assumption) rfl rfl ?_; apply Exists.intro; refine ⟨fun w' hS => ?_, ?_⟩; (· (have hq := hk.kept hS; have h0 := hq.cell 0; have h1 := hq.cell 1; have h2 := hq.cell 2; have h3 := hq.cell 3; simp at h0 h1 h2 h3; go_simp; exact rfl)); simp only [List.getElem_toArray, List.getElem_cons_zero, List.getElem_cons_succ, Act.put, List.setIfInBounds_toArray, List.set_cons_zero, List.set_cons_succ])
        | (refine pl_qc rfl rfl ?_; apply Exists.intro; refine ⟨fun w' _ => ?_, ?_⟩; (· (go_simp; exact rfl)); simp only [List.getElem_toArray, List.getElem_cons_zero, List.getElem_cons_succ, Act.put, List.setIfInBounds_toArray, List.set_cons_zero, List.set_cons_succ])
        | (refine pl_skip (by assumption) rfl rfl ?_; simp only [List.getElem_toArray, List.getElem_cons_zero, List.getElem_cons_succ, Act.put, List.setIfInBounds_toArray, List.set_cons_zero, List.set_cons_succ])
        | (refine pl_skipl (by assumption) rfl rfl ?_; simp only [List.getElem_toArray, List.getElem_cons_zero, List.getElem_cons_succ, Act.put, List.setIfInBounds_toArray, List.set_cons_zero, List.set_cons_succ]))
      first
        | refine pl_do rfl rfl (fun K hK => ?_)
        | refine op_do rfl rfl (fun K hK => ?_)
      try simp only [List.getElem_toArray, List.getElem_cons_zero, List.getElem_cons_succ]
      go_simp
      refine (joined_any _ _ [U0] Wr _ (one_cell cA) (o3.reads (by rw [hwl]; decide)) 140737488355328 (Nat.le_refl _) (by rw [hwl]; simp)).mono ?_
      rintro e w4 ⟨v4, rfl, b4, o4⟩
      have b5 := b3.trans (b4.mono b3.size)
      refine hK.out _ _ (b5) (fun hS => ?_)
      clear hK K
      try simp only [List.getElem_toArray, List.getElem_cons_zero, List.getElem_cons_succ, Act.put, List.setIfInBounds_toArray, List.set_cons_zero, List.set_cons_succ]
      repeat (first
        | (refine pl_q (by assumption) rfl rfl ?_; apply Exists.intro; refine ⟨fun w' hS => ?_, ?_⟩; (· (skip; go_simp; exact rfl)); simp only [List.getElem_toArray, List.getElem_cons_zero, List.getElem_cons_succ, Act.put, List.setIfInBounds_toArray, List.set_cons_zero, List.set_cons_succ])
        | (refine pl_qc rfl rfl ?_; apply Exists.intro; refine ⟨fun w' _ => ?_, ?_⟩; (· (go_simp; exact rfl)); simp only [List.getElem_toArray, List.getElem_cons_zero, List.getElem_cons_succ, Act.put, List.setIfInBounds_toArray, List.set_cons_zero, List.set_cons_succ])
        | (refine pl_skip (by assumption) rfl rfl ?_; simp only [List.getElem_toArray, List.getElem_cons_zero, List.getElem_cons_succ, Act.put, List.setIfInBounds_toArray, List.set_cons_zero, List.set_cons_succ])
        | (refine pl_skipl (by assumption) rfl rfl ?_; simp only [List.getElem_toArray, List.getElem_cons_zero, List.getElem_cons_succ, Act.put, List.setIfInBounds_toArray, List.set_cons_zero, List.set_cons_succ]))
      refine pl_nil ?_
      go_wp2
      go_meet
      exact ⟨o4.base b3.size, b5⟩
  case rest =>
    obtain ⟨ho, hbl⟩ := hcut
    obtain ⟨yA, yc, rfl⟩ := ho.form
    have hz := hbl.size
    have c2 := (hk.kept hbl).cell 2
    simp at c2
    go_wp2_with (at_builtin; first
      | (refine wpList_append_vec (n := 140737488355328) (W := W) (ys := [U1]) elemByte encB_one _ _ rfl rfl rfl (ho.alloc _) (hbl.alloc hz _) (le_alloc _ hz) rfl (byBlk (xs := [U1]) (Blk.new _ _ _) (by simp) (by simp)) (by decide) (by simp [hwl]) (by simp [hwl]) ?_))
    intro v1 w1 o1 b1 g1
    clear g1 ho hbl hz c2
    have o1 : OwnB w1 W.heap.size v1 Y := by rw [← hY.out]; simpa using o1
    go_wp2
    go_loopw [3, 4] (fun v i wr => ∃ k : Nat, k ≤ b.length ∧ i = .int .i64 k ∧ OwnB wr W.heap.size v (Y ++ (b.take k).flatten) ∧ Below W.heap.size W wr) (fun _ i _ => b.length - (intOf i).toNat)
    case atStart => exact ⟨0, Nat.zero_le _, rfl, by simpa using o1, b1⟩
    case round =>
      clear o1 b1
      obtain ⟨k, hk', rfl, hown, hbl⟩ := hrel
      have hz := hbl.size
      have c2 := (hk.kept hbl).cell 2
      have c3 := (hk.kept hbl).cell 3
      simp at c2 c3
      by_cases hlt : k < b.length
      · obtain ⟨b0, o0, d, rfl, q0, hd⟩ := Hbl.out k hlt
        have q0 : W.cell? ⟨b0, o0 + k, none⟩ = some d := vle_below hblW0 _ _ q0
        have c0 := vle_below hbl _ _ q0
        obtain ⟨dA, dc, rfl, _⟩ := id hd
        obtain ⟨hn, hnl⟩ := flat_take b hlt
        have Hn := Lib.hid hn
        rw [hnb.out] at hnl
        have hd2 := (hd.mono (vle_below hblW0)).mono (vle_below hbl)
        clear hn hd
        generalize (b.take k).flatten = Z at hown Hn hnl
        generalize b[k] = x at Hn hnl c0 q0 hd2
        obtain ⟨F, hF⟩ : ∃ F, Hid (Y ++ Z = F) := ⟨_, rfl⟩
        have hFl : F.length = 5 + Z.length := by rw [← hF.out, List.length_append, hYl]
        rw [hF.out] at hown
        obtain ⟨xA, xc, rfl⟩ := hown.form
        have hr2 := hown.reads (bs := 1) (by omega)
        have hjl : F.length + x.length ≤ 140737488355328 := by omega
        rw [hFl] at hr2
        go_wp2_with fail
        refine (joined_any _ _ F x _ hr2 hd2 140737488355328 (Nat.le_refl _) hjl).mono ?_
        rintro e w3 ⟨v3, rfl, b3, o3⟩
        have o3 := o3.base hz
        have b3 := hbl.trans (b3.mono hz)
        go_wp2_with fail
        go_roundw
        case rel => exact ⟨k + 1, by omega, by go_num, by rw [Hn.out]; rw [← hF.out] at o3; simpa using o3, b3⟩
        case measure => simp [intOf]; omega
      · have hkl : k = b.length := by omega
        subst hkl
        rw [List.take_length] at hown
        obtain ⟨M, hM⟩ : ∃ M, Hid (Y ++ b.flatten = M) := ⟨_, rfl⟩
        have hMl : M.length = 5 + nb := by rw [← hM.out, List.length_append, hYl, hnb.out]
        rw [hM.out] at hown
        obtain ⟨xA, xc, rfl⟩ := hown.form
        go_wp2_with (at_builtin; first
          | (refine wpList_append_vec (n := 140737488355328) (W := W) (xs := M) (ys := [U2]) elemByte encB_one _ _ rfl rfl rfl (hown.alloc _) (hbl.alloc hz _) (le_alloc _ hz) rfl (byBlk (xs := [U2]) (Blk.new _ _ _) (by simp) (by simp)) (by decide) (by simp [hMl]; omega) (by simp [hMl]; omega) ?_))
        intro v4 w4 o4 b4 g4
        clear g4 hown hbl hz c2 c3
        obtain ⟨N, hN⟩ : ∃ N, Hid (M ++ [U2] = N) := ⟨_, rfl⟩
        have hNl : N.length = 6 + nb := by rw [← hN.out, List.length_append, hMl]; simp only [List.length_cons, List.length_nil]; omega
        rw [hN.out] at o4
        go_wp2
        go_loopw [3, 5] (fun v i wr => ∃ k : Nat, k ≤ p.length ∧ i = .int .i64 k ∧ OwnB wr W.heap.size v (N ++ (p.take k).flatten) ∧ Below W.heap.size W wr) (fun _ i _ => p.length - (intOf i).toNat)
        case atStart => exact ⟨0, Nat.zero_le _, rfl, by simpa using o4, b4⟩
        case round =>
          clear o4 b4
          obtain ⟨k, hk', rfl, hown, hbl⟩ := hrel
          have hz := hbl.size
          have c2 := (hk.kept hbl).cell 2
          have c3 := (hk.kept hbl).cell 3
          simp at c2 c3
          by_cases hlt : k < p.length
          · obtain ⟨b0, o0, d, rfl, q0, hd⟩ := Hpl.out k hlt
            have q0 : W.cell? ⟨b0, o0 + k, none⟩ = some d := vle_below hblW0 _ _ q0
            have c0 := vle_below hbl _ _ q0
            obtain ⟨dA, dc, rfl, _⟩ := id hd
            obtain ⟨hn, hnl⟩ := flat_take p hlt
            have Hn := Lib.hid hn
            rw [hnp.out] at hnl
            have hd2 := (hd.mono (vle_below hblW0)).mono (vle_below hbl)
            clear hn hd
            generalize (p.take k).flatten = Z at hown Hn hnl
            generalize p[k] = x at Hn hnl c0 q0 hd2
            obtain ⟨F, hF⟩ : ∃ F, Hid (N ++ Z = F) := ⟨_, rfl⟩
            have hFl : F.length = 6 + nb + Z.length := by rw [← hF.out, List.length_append, hNl]
            rw [hF.out] at hown
            obtain ⟨xA, xc, rfl⟩ := hown.form
            have hr2 := hown.reads (bs := 1) (by omega)
            have hjl : F.length + x.length ≤ 140737488355328 := by omega
            rw [hFl] at hr2
            go_wp2_with fail
            refine (joined_any _ _ F x _ hr2 hd2 140737488355328 (Nat.le_refl _) hjl).mono ?_
            rintro e w3 ⟨v3, rfl, b3, o3⟩
            have o3 := o3.base hz
            have b3 := hbl.trans (b3.mono hz)
            go_wp2_with fail
            go_roundw
            case rel => exact ⟨k + 1, by omega, by go_num, by rw [Hn.out]; rw [← hF.out] at o3; simpa using o3, b3⟩
            case measure => simp [intOf]; omega
          · have hkl : k = p.length := by omega
            subst hkl
            rw [List.take_length] at hown
            have hfin : OwnB wr W.heap.size u3 Db := by rw [hD.out]; rw [← hN.out, ← hM.out, ← hY.out] at hown; simpa using hown
            go_wp2
            go_ret
            exact ⟨_, rfl, hblW0.trans (hbl.mono hblW0.size), hfin.base hblW0.size⟩
end Go.Proofs.YtbcoecmeoemmeaaGreatDoor
