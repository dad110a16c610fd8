/- The document's bytes: three, batchBytes, headerBytes. -/
import Derived.Test.YtbcoecmeoemmeaaGreatDoorPut3
namespace Go.Proofs.YtbcoecmeoemmeaaGreatDoor
open Go.ChangeShapes Go.WideShapes Go.ChangeAt Go.RowKit
set_option linter.unusedVariables false
set_option linter.unusedSimpArgs false
theorem one_cell {h : View} {g : Nat} {u : UInt8} (hc : h ⟨g, 0, none⟩ = some (encB u)) : RBytes h (.slice (some ⟨g, 0, none⟩) 1 1) [u] :=
  ⟨_, _, rfl, by simp, by decide, by simp, (fun h => by cases h), fun _ => ⟨g, 0, rfl, fun i hi => by
    have : i = 0 := by simp at hi; exact hi
    subst this; simpa using hc⟩⟩
set_option maxHeartbeats 1000000 in
set_option maxRecDepth 100000 in
theorem three_any (n : Int) (w : World) (h0 : 0 ≤ n) (hn : n ≤ 140737488355328) :
    Calls Tryz.prog 103 #[.int .i64 n] w fun e w' => ∃ v', e = .returned v' ∧ Below w.heap.size w w' ∧ OwnB w' w.heap.size v' (wideB n) := by
  have d0 : Int.tdiv n 65536 = n / 65536 := Int.tdiv_eq_ediv_of_nonneg h0
  have d1 : Int.tdiv n 256 = n / 256 := Int.tdiv_eq_ediv_of_nonneg h0
  have d2 : Int.tmod (n / 256) 256 = (n / 256) % 256 := Int.tmod_eq_emod_of_nonneg (by omega)
  have d3 : Int.tmod n 256 = n % 256 := Int.tmod_eq_emod_of_nonneg h0
  have u0 := byteI_wrap (n / 65536)
  have u1 := byteI_wrap (n / 256 % 256)
  have u2 := byteI_wrap (n % 256)
  rw [byteI_mod] at u1 u2
  have hW : Hid (wideB n = [byteI (n / 65536), byteI (n / 256), byteI n]) := rfl
  generalize byteI (n / 65536) = U0 at u0 hW
  generalize byteI (n / 256) = U1 at u1 hW
  generalize byteI n = U2 at u2 hW
  generalize wideB n = Wb at hW ⊢
  go_enter Tryz.func103, Tryz.ntmps103
  go_wp2
  go_ret
  refine ⟨_, rfl, below_one _ _, ?_⟩
  rw [hW.out]
  exact OwnVec.lit (xs := [U0, U1, U2]) (Blk.new _ _ _) (Nat.le_refl _) rfl (by decide)
set_option maxHeartbeats 4000000 in
set_option maxRecDepth 100000 in
theorem batchBytes_any (a n : Int) (vl : Value) (l : List ByteArray) (w : World) (hr0 : 0 ≤ n) (hr1 : n ≤ 140737488355328) (hl : RTexts w.cell? vl l) (hsz : 5 + (textsB l).length ≤ 140737488355328) :
    Calls Tryz.prog 63 #[.agg #[.int .i64 a, .int .i64 n, vl]] w fun e w' => ∃ v', e = .returned v' ∧ Below w.heap.size w w' ∧ OwnB w' w.heap.size v' (batchB a n l) := by
  obtain ⟨A, c, rfl, hlen, hel⟩ := hl.form
  have Hel := Lib.hid hel
  clear hel hl
  have e0 := byteI_wrap a
  have e1 := byteI_wrap l.length
  have hD : Hid (batchB a n l = ((byteI a :: wideB n) ++ [byteI l.length]) ++ textsB l) := rfl
  generalize byteI a = U0 at e0 hD
  generalize byteI l.length = U1 at e1 hD
  generalize batchB a n l = Db at hD ⊢
  have hwl : (wideB n).length = 3 := rfl
  generalize hWr : wideB n = Wr at hwl hD
  obtain ⟨Y, hY⟩ : ∃ Y, Hid ([U0] ++ Wr ++ [U1] = Y) := ⟨_, rfl⟩
  have hYl : Y.length = 5 := by rw [← hY.out]; simp only [List.length_append, List.length_cons, List.length_nil]; omega
  go_enter Tryz.func63, Tryz.ntmps63
  go_upto_region 1 with fail
  refine one_block _ _ _ (fun W => Code.wp _ _ _ _ W) (fun W hk hszW hblW0 => ?_)
  clear hszW
  go_cut [3] (fun v w' => OwnB w' W.heap.size v ([U0] ++ Wr) ∧ Below W.heap.size W w')
  case first =>
    refine wp_region_pl (fun w' => Below W.heap.size W w') [8] (.q 0 (.q 1 (.q 2 (.q 4 (.q 5 (.alt 3 (.l 6 (.l 7 (.qc 8 .nil))) 6 (.l 3 (.l 7 (.qc 8 .nil))))))))) (by kernel_rfl) (by kernel_rfl) (fun _ _ d _ _ h => by cases d <;> exact h) rfl (by kernel_rfl) ?_ ?_
    · exact below_drew _
    intro W1 hS
    repeat (first
      | (refine pl_q (by assumption) rfl rfl ?_; apply Exists.intro; refine ⟨fun w' hS => ?_, ?_⟩; (· (have hq := hk.kept hS; have h0 := hq.cell 0; have h1 := hq.cell 1; have h2 := hq.cell 2; simp at h0 h1 h2; go_simp; exact rfl)); simp only [List.getElem_toArray, List.getElem_cons_zero, List.getElem_cons_succ, Act.put, List.setIfInBounds_toArray, List.set_cons_zero, List.set_cons_succ])
      | (refine pl_qc rfl rfl ?_; apply Exists.intro; refine ⟨fun w' _ => ?_, ?_⟩; (· (go_simp; exact rfl)); simp only [List.getElem_toArray, List.getElem_cons_zero, List.getElem_cons_succ, Act.put, List.setIfInBounds_toArray, List.set_cons_zero, List.set_cons_succ])
      | (refine pl_skip (by assumption) rfl rfl ?_; simp only [List.getElem_toArray, List.getElem_cons_zero, List.getElem_cons_succ, Act.put, List.setIfInBounds_toArray, List.set_cons_zero, List.set_cons_succ])
      | (refine pl_skipl (by assumption) rfl rfl ?_; simp only [List.getElem_toArray, List.getElem_cons_zero, List.getElem_cons_succ, Act.put, List.setIfInBounds_toArray, List.set_cons_zero, List.set_cons_succ]))
    refine pl_alt ?_ ?_
    · first
        | refine pl_do rfl rfl (fun K hK => ?_)
        | refine op_do rfl rfl (fun K hK => ?_)
      try simp only [List.getElem_toArray, List.getElem_cons_zero, List.getElem_cons_succ]
      go_simp
      refine byte_alloc _ U0 (fun W => K _ W) (fun w2 cA _ b2 => ?_)
      have b2 := hS.trans (b2.mono hS.size)
      refine hK.out _ _ (b2) (fun hS => ?_)
      clear hK K
      try simp only [List.getElem_toArray, List.getElem_cons_zero, List.getElem_cons_succ, Act.put, List.setIfInBounds_toArray, List.set_cons_zero, List.set_cons_succ]
      repeat (first
        | (refine pl_q (by assumption) rfl rfl ?_; apply Exists.intro; refine ⟨fun w' hS => ?_, ?_⟩; (· (have hq := hk.kept hS; have h0 := hq.cell 0; have h1 := hq.cell 1; have h2 := hq.cell 2; simp at h0 h1 h2; go_simp; exact rfl)); simp only [List.getElem_toArray, List.getElem_cons_zero, List.getElem_cons_succ, Act.put, List.setIfInBounds_toArray, List.set_cons_zero, List.set_cons_succ])
        | (refine pl_qc rfl rfl ?_; apply Exists.intro; refine ⟨fun w' _ => ?_, ?_⟩; (· (go_simp; exact rfl)); simp only [List.getElem_toArray, List.getElem_cons_zero, List.getElem_cons_succ, Act.put, List.setIfInBounds_toArray, List.set_cons_zero, List.set_cons_succ])
        | (refine pl_skip (by assumption) rfl rfl ?_; simp only [List.getElem_toArray, List.getElem_cons_zero, List.getElem_cons_succ, Act.put, List.setIfInBounds_toArray, List.set_cons_zero, List.set_cons_succ])
        | (refine pl_skipl (by assumption) rfl rfl ?_; simp only [List.getElem_toArray, List.getElem_cons_zero, List.getElem_cons_succ, Act.put, List.setIfInBounds_toArray, List.set_cons_zero, List.set_cons_succ]))
      first
        | refine pl_do rfl rfl (fun K hK => ?_)
        | refine op_do rfl rfl (fun K hK => ?_)
      try simp only [List.getElem_toArray, List.getElem_cons_zero, List.getElem_cons_succ]
      go_simp
      refine (three_any n _ hr0 hr1).mono ?_
      rintro e w3 ⟨v3, rfl, b3, o3⟩
      rw [hWr] at o3
      have cA := vle_below b3 _ _ cA
      have b3 := b2.trans (b3.mono b2.size)
      refine hK.out _ _ (b3) (fun hS => ?_)
      clear hK K
      try simp only [List.getElem_toArray, List.getElem_cons_zero, List.getElem_cons_succ, Act.put, List.setIfInBounds_toArray, List.set_cons_zero, List.set_cons_succ]
      repeat (first
        | (refine pl_q (by assumption) rfl rfl ?_; apply Exists.intro; refine ⟨fun w' hS => ?_, ?_⟩; (· (have hq := hk.kept hS; have h0 := hq.cell 0; have h1 := hq.cell 1; have h2 := hq.cell 2; simp at h0 h1 h2; go_simp; exact rfl)); simp only [List.getElem_toArray, List.getElem_cons_zero, List.getElem_cons_succ, Act.put, List.setIfInBounds_toArray, List.set_cons_zero, List.set_cons_succ])
        | (refine pl_qc rfl rfl ?_; apply Exists.intro; refine ⟨fun w' _ => ?_, ?_⟩; (· (go_simp; exact rfl)); simp only [List.getElem_toArray, List.getElem_cons_zero, List.getElem_cons_succ, Act.put, List.setIfInBounds_toArray, List.set_cons_zero, List.set_cons_succ])
        | (refine pl_skip (by assumption) rfl rfl ?_; simp only [List.getElem_toArray, List.getElem_cons_zero, List.getElem_cons_succ, Act.put, List.setIfInBounds_toArray, List.set_cons_zero, List.set_cons_succ])
        | (refine pl_skipl (by assumption) rfl rfl ?_; simp only [List.getElem_toArray, List.getElem_cons_zero, List.getElem_cons_succ, Act.put, List.setIfInBounds_toArray, List.set_cons_zero, List.set_cons_succ]))
      first
        | refine pl_do rfl rfl (fun K hK => ?_)
        | refine op_do rfl rfl (fun K hK => ?_)
      try simp only [List.getElem_toArray, List.getElem_cons_zero, List.getElem_cons_succ]
      go_simp
      refine (joined_any _ _ [U0] Wr _ (one_cell cA) (o3.reads (by rw [hwl]; decide)) 140737488355328 (Nat.le_refl _) (by rw [hwl]; simp)).mono ?_
      rintro e w4 ⟨v4, rfl, b4, o4⟩
      have b5 := b3.trans (b4.mono b3.size)
      refine hK.out _ _ (b5) (fun hS => ?_)
      clear hK K
      try simp only [List.getElem_toArray, List.getElem_cons_zero, List.getElem_cons_succ, Act.put, List.setIfInBounds_toArray, List.set_cons_zero, List.set_cons_succ]
      repeat (first
        | (refine pl_q (by assumption) rfl rfl ?_; apply Exists.intro; refine ⟨fun w' hS => ?_, ?_⟩; (· (skip; go_simp; exact rfl)); simp only [List.getElem_toArray, List.getElem_cons_zero, List.getElem_cons_succ, Act.put, List.setIfInBounds_toArray, List.set_cons_zero, List.set_cons_succ])
        | (refine pl_qc rfl rfl ?_; apply Exists.intro; refine ⟨fun w' _ => ?_, ?_⟩; (· (go_simp; exact rfl)); simp only [List.getElem_toArray, List.getElem_cons_zero, List.getElem_cons_succ, Act.put, List.setIfInBounds_toArray, List.set_cons_zero, List.set_cons_succ])
        | (refine pl_skip (by assumption) rfl rfl ?_; simp only [List.getElem_toArray, List.getElem_cons_zero, List.getElem_cons_succ, Act.put, List.setIfInBounds_toArray, List.set_cons_zero, List.set_cons_succ])
        | (refine pl_skipl (by assumption) rfl rfl ?_; simp only [List.getElem_toArray, List.getElem_cons_zero, List.getElem_cons_succ, Act.put, List.setIfInBounds_toArray, List.set_cons_zero, List.set_cons_succ]))
      refine pl_nil ?_
      go_wp2
      go_meet
      exact ⟨o4.base b3.size, b5⟩
    · first
        | refine pl_do rfl rfl (fun K hK => ?_)
        | refine op_do rfl rfl (fun K hK => ?_)
      try simp only [List.getElem_toArray, List.getElem_cons_zero, List.getElem_cons_succ]
      go_simp
      refine (three_any n _ hr0 hr1).mono ?_
      rintro e w2 ⟨v3, rfl, b2, o3⟩
      rw [hWr] at o3
      have b2 := hS.trans (b2.mono hS.size)
      refine hK.out _ _ (b2) (fun hS => ?_)
      clear hK K
      try simp only [List.getElem_toArray, List.getElem_cons_zero, List.getElem_cons_succ, Act.put, List.setIfInBounds_toArray, List.set_cons_zero, List.set_cons_succ]
      repeat (first
        | (refine pl_q (by assumption) rfl rfl ?_; apply Exists.intro; refine ⟨fun w' hS => ?_, ?_⟩; (· (have hq := hk.kept hS; have h0 := hq.cell 0; have h1 := hq.cell 1; have h2 := hq.cell 2; simp at h0 h1 h2; go_simp; exact rfl)); simp only [List.getElem_toArray, List.getElem_cons_zero, List.getElem_cons_succ, Act.put, List.setIfInBounds_toArray, List.set_cons_zero, List.set_cons_succ])
        | (refine pl_qc rfl rfl ?_; apply Exists.intro; refine ⟨fun w' _ => ?_, ?_⟩; (· (go_simp; exact rfl)); simp only [List.getElem_toArray, List.getElem_cons_zero, List.getElem_cons_succ, Act.put, List.setIfInBounds_toArray, List.set_cons_zero, List.set_cons_succ])
        | (refine pl_skip (by assumption) rfl rfl ?_; simp only [List.getElem_toArray, List.getElem_cons_zero, List.getElem_cons_succ, Act.put, List.setIfInBounds_toArray, List.set_cons_zero, List.set_cons_succ])
        | (refine pl_skipl (by assumption) rfl rfl ?_; simp only [List.getElem_toArray, List.getElem_cons_zero, List.getElem_cons_succ, Act.put, List.setIfInBounds_toArray, List.set_cons_zero, List.set_cons_succ]))
      first
        | refine pl_do rfl rfl (fun K hK => ?_)
        | refine op_do rfl rfl (fun K hK => ?_)
      try simp only [List.getElem_toArray, List.getElem_cons_zero, List.getElem_cons_succ]
      go_simp
      refine byte_alloc _ U0 (fun W => K _ W) (fun w3 cA _ b3 => ?_)
      have o3 := o3.kept b3
      have b3 := b2.trans (b3.mono b2.size)
      refine hK.out _ _ (b3) (fun hS => ?_)
      clear hK K
      try simp only [List.getElem_toArray, List.getElem_cons_zero, List.getElem_cons_succ, Act.put, List.setIfInBounds_toArray, List.set_cons_zero, List.set_cons_succ]
      repeat (first
        | (refine pl_q (by assumption) rfl rfl ?_; apply Exists.intro; refine ⟨fun w' hS => ?_, ?_⟩; (· (have hq := hk.kept hS; have h0 := hq.cell 0; have h1 := hq.cell 1; have h2 := hq.cell 2; simp at h0 h1 h2; go_simp; exact rfl)); simp only [List.getElem_toArray, List.getElem_cons_zero, List.getElem_cons_succ, Act.put, List.setIfInBounds_toArray, List.set_cons_zero, List.set_cons_succ])
        | (refine pl_qc rfl rfl ?_; apply Exists.intro; refine ⟨fun w' _ => ?_, ?_⟩; (· (go_simp; exact rfl)); simp only [List.getElem_toArray, List.getElem_cons_zero, List.getElem_cons_succ, Act.put, List.setIfInBounds_toArray, List.set_cons_zero, List.set_cons_succ])
        | (refine pl_skip (by assumption) rfl rfl ?_; simp only [List.getElem_toArray, List.getElem_cons_zero, List.getElem_cons_succ, Act.put, List.setIfInBounds_toArray, List.set_cons_zero, List.set_cons_succ])
        | (refine pl_skipl (by assumption) rfl rfl ?_; simp only [List.getElem_toArray, List.getElem_cons_zero, List.getElem_cons_succ, Act.put, List.setIfInBounds_toArray, List.set_cons_zero, List.set_cons_succ]))
      first
        | refine pl_do rfl rfl (fun K hK => ?_)
        | refine op_do rfl rfl (fun K hK => ?_)
      try simp only [List.getElem_toArray, List.getElem_cons_zero, List.getElem_cons_succ]
      go_simp
      refine (joined_any _ _ [U0] Wr _ (one_cell cA) (o3.reads (by rw [hwl]; decide)) 140737488355328 (Nat.le_refl _) (by rw [hwl]; simp)).mono ?_
      rintro e w4 ⟨v4, rfl, b4, o4⟩
      have b5 := b3.trans (b4.mono b3.size)
      refine hK.out _ _ (b5) (fun hS => ?_)
      clear hK K
      try simp only [List.getElem_toArray, List.getElem_cons_zero, List.getElem_cons_succ, Act.put, List.setIfInBounds_toArray, List.set_cons_zero, List.set_cons_succ]
      repeat (first
        | (refine pl_q (by assumption) rfl rfl ?_; apply Exists.intro; refine ⟨fun w' hS => ?_, ?_⟩; (· (skip; go_simp; exact rfl)); simp only [List.getElem_toArray, List.getElem_cons_zero, List.getElem_cons_succ, Act.put, List.setIfInBounds_toArray, List.set_cons_zero, List.set_cons_succ])
        | (refine pl_qc rfl rfl ?_; apply Exists.intro; refine ⟨fun w' _ => ?_, ?_⟩; (· (go_simp; exact rfl)); simp only [List.getElem_toArray, List.getElem_cons_zero, List.getElem_cons_succ, Act.put, List.setIfInBounds_toArray, List.set_cons_zero, List.set_cons_succ])
        | (refine pl_skip (by assumption) rfl rfl ?_; simp only [List.getElem_toArray, List.getElem_cons_zero, List.getElem_cons_succ, Act.put, List.setIfInBounds_toArray, List.set_cons_zero, List.set_cons_succ])
        | (refine pl_skipl (by assumption) rfl rfl ?_; simp only [List.getElem_toArray, List.getElem_cons_zero, List.getElem_cons_succ, Act.put, List.setIfInBounds_toArray, List.set_cons_zero, List.set_cons_succ]))
      refine pl_nil ?_
      go_wp2
      go_meet
      exact ⟨o4.base b3.size, b5⟩
  case rest =>
    obtain ⟨ho, hbl⟩ := hcut
    obtain ⟨yA, yc, rfl⟩ := ho.form
    have hz := hbl.size
    have c2 := (hk.kept hbl).cell 2
    simp at c2
    go_wp2_with (at_builtin; first
      | (refine wpList_append_vec (n := 140737488355328) (W := W) (ys := [U1]) elemByte encB_one _ _ rfl rfl rfl (ho.alloc _) (hbl.alloc hz _) (le_alloc _ hz) rfl (byBlk (xs := [U1]) (Blk.new _ _ _) (by simp) (by simp)) (by decide) (by simp [hwl]) (by simp [hwl]) ?_))
    intro v1 w1 o1 b1 g1
    clear g1 ho hbl hz c2
    have o1 : OwnB w1 W.heap.size v1 Y := by rw [← hY.out]; simpa using o1
    go_wp2
    go_loopw [3, 4] (fun v i wr => ∃ k : Nat, k ≤ l.length ∧ i = .int .i64 k ∧ OwnB wr W.heap.size v (Y ++ textsB (l.take k)) ∧ Below W.heap.size W wr) (fun _ i _ => l.length - (intOf i).toNat)
    case atStart => exact ⟨0, Nat.zero_le _, rfl, by simpa [textsB] using o1, b1⟩
    case round =>
      clear o1 b1
      obtain ⟨k, hk', rfl, hown, hbl⟩ := hrel
      have hz := hbl.size
      have c2 := (hk.kept hbl).cell 2
      simp at c2
      by_cases hlt : k < l.length
      · obtain ⟨b0, o0, rfl, q0⟩ := Hel.out k hlt
        have q0 : W.cell? ⟨b0, o0 + k, none⟩ = some (.string l[k]) := vle_below hblW0 _ _ q0
        have c0 := vle_below hbl _ _ q0
        have hnl := texts_len l hlt
        have Hn := Lib.hid (texts_take l hlt)
        have e2 := byteI_wrap l[k].size
        generalize byteI l[k].size = U2 at e2 Hn
        generalize textsB (l.take k) = Z at hown Hn hnl
        generalize l[k] = p at Hn hnl c0 e2 q0
        go_wp2_with (at_builtin; first
          | (refine wpList_append_vec (n := 140737488355328) (W := W) (ys := [U2]) elemByte encB_one _ _ rfl rfl rfl (hown.alloc _) (hbl.alloc hz _) (le_alloc _ hz) rfl (byBlk (xs := [U2]) (Blk.new _ _ _) (by simp) (by simp)) (by decide) (by simp; omega) (by simp; omega) ?_))
        intro v1 w1 o1 b1 g1
        have z1 := b1.size
        have d2 := (hk.kept b1).cell 2
        simp at d2
        have d0 := vle_below b1 _ _ q0
        obtain ⟨xA, xc, rfl⟩ := o1.form
        clear g1 hown c2 c0
        have hpn : p.size ≤ 140737488355328 := by omega
        go_wp2_with (refine wpList_convert_bytes p Tryz.underlying9 Tryz.underlying41 Tryz.underlying5 rfl _ rfl rfl hpn ?_)
        intro v2 w2 r2 b2
        have hxl : (Z ++ [U2]).length ≤ (textsB l).length := by simp only [List.length_append, List.length_cons, List.length_nil]; omega
        obtain ⟨F, hF⟩ : ∃ F, Hid (Y ++ (Z ++ [U2]) = F) := ⟨_, rfl⟩
        have hFl : F.length = 5 + (Z.length + 1) := by rw [← hF.out]; simp only [List.length_append, List.length_cons, List.length_nil]; omega
        have hsl := sbytes_len p
        have hr1 := (o1.kept b2)
        rw [hF.out] at hr1
        have hr2 := hr1.reads (bs := 1) (by omega)
        have hjl : F.length + (sbytes p).length ≤ 140737488355328 := by omega
        clear d0 d2 q0 hr1
        rw [hFl] at hr2
        go_wp2_with fail
        refine (joined_any _ _ F (sbytes p) _ hr2 r2 140737488355328 (Nat.le_refl _) hjl).mono ?_
        rintro e w3 ⟨v3, rfl, b3, o3⟩
        have b2 := b1.trans (b2.mono z1)
        have o3 := o3.base b2.size
        have b3 := b2.trans (b3.mono b2.size)
        go_wp2_with fail
        go_roundw
        case rel => exact ⟨k + 1, by omega, by go_num, by rw [Hn.out]; rw [← hF.out] at o3; simpa using o3, b3⟩
        case measure => simp [intOf]; omega
      · have hkl : k = l.length := by omega
        subst hkl
        rw [List.take_length] at hown
        have hfin : OwnB wr W.heap.size u3 Db := by rw [hD.out]; rw [← hY.out] at hown; simpa using hown
        go_wp2
        go_ret
        exact ⟨_, rfl, hblW0.trans (hbl.mono hblW0.size), hfin.base hblW0.size⟩
end Go.Proofs.YtbcoecmeoemmeaaGreatDoor
