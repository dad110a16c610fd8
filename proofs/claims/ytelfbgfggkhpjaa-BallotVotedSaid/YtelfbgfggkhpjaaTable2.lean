/- ballot.Check answers what TableFault answers; the law BallotChecks. -/
import Derived.Test.YtelfbgfggkhpjaaTable
namespace Go.Proofs.Ytelfbgfggkhpjaa
open Go.ChangeShapes Go.WideShapes Go.ChangeAt Go.RowKit
set_option linter.unusedVariables false
set_option maxHeartbeats 2000000 in
set_option maxRecDepth 100000 in
theorem tableCheck_any (v : Value) (l : List Slot) (w : World) (hv : RSlots w.cell? v l) :
    Calls Try.prog 36 #[v] w fun e w' => e = .returned (.int .i64 (tableF l)) ∧ Below w.heap.size w w' := by
  obtain ⟨A, c, rfl, _⟩ := id hv
  obtain ⟨_, hcap, hlen, hel⟩ := hv.at
  have Hel := Lib.hid hel
  have Hv := Lib.hid hv
  clear hel hv
  have hq : ∀ x, tableF l = x → Hid (tableF l = x) := fun x h => h
  by_cases hb : 400 < l.length
  · have Hq := hq 12 (by simp [tableF, hb])
    clear hq
    go_enter Try.func36, Try.ntmps36
    go_wp2
    go_ret
    exact ⟨ret_int Hq.out.symm, Below.refl _ _⟩
  have hq' : Hid (tableF l = if (List.range l.length).any (badSlot l) then 12 else 0) := by
    show _ = _
    simp only [tableF, if_neg hb]
  clear hq
  go_enter Try.func36, Try.ntmps36
  go_wp2
  go_loopw [10] (fun i wr => ∃ k : Nat, k ≤ l.length ∧ i = .int .i64 k ∧ Hid (∀ j, j < k → badSlot l j = false) ∧ Below w.heap.size w wr) (fun i _ => l.length - (intOf i).toNat)
  case atStart => exact ⟨0, Nat.zero_le _, rfl, fun j hj => by omega, Below.refl _ _⟩
  case round =>
    obtain ⟨k, hk, rfl, hok, hbl⟩ := hrel
    by_cases hlt : k < l.length
    · obtain ⟨b0, o0, d, rfl, e0, e1, e2, hd⟩ := Hel.out k hlt
      obtain ⟨dA, dc, rfl, _⟩ := id hd
      have c0 := vle_below hbl _ _ e0
      have c1 := vle_below hbl _ _ e1
      have c2 := vle_below hbl _ _ e2
      have Hsub := Lib.hid ((Hv.out.take (k := k) (by omega)).mono RSlot.mono (vle_below hbl))
      have Hbad := Lib.hid (badSlot_at hlt)
      have hkc : k ≤ c := by omega
      have hkc' : (k : Int) ≤ (c : Int) := by omega
      clear e0 e1 e2 hd
      cases ht : (slotF l[k].author l[k].round l[k].digest.length != 0)
      rotate_left
      · rw [ht, Bool.true_or] at Hbad
        go_wp2
        refine one_block _ _ _ (fun W => (Code.region _ _ _).wp _ _ _ W) (fun W hb1 hsz hbw => ?_)
        have hbl2 : Below w.heap.size w W := hbl.trans (hbw.mono hbl.size)
        refine wp_region_plan (fun w' => Below W.heap.size W w') [(0, true), (1, false), (2, true), (3, true), (4, true), (5, true), (6, true), (7, true), (8, true), (9, true), (10, true), (11, false), (12, true), (13, true)] (by kernel_rfl) (by kernel_rfl) (fun _ _ d _ _ h => by cases d <;> exact h) rfl (by kernel_rfl) ?_ ?_
        · exact below_drew _
        intro W1 hS
        repeat (first
          | (refine wpPlan_takes rfl rfl ?_; apply Exists.intro; refine ⟨fun w' hS => ?_, ?_⟩; (· (have hq := hb1.kept hS; have h0 := hq.cell 0; have h1 := hq.cell 1; have h2 := hq.cell 2; simp at h0 h1 h2; go_simp; exact rfl)); simp only [List.getElem_toArray, List.getElem_cons_zero, List.getElem_cons_succ, Act.put, List.setIfInBounds_toArray, List.set_cons_zero, List.set_cons_succ])
          | (refine wpPlan_skip (by assumption) rfl rfl ?_; simp only [List.getElem_toArray, List.getElem_cons_zero, List.getElem_cons_succ, Act.put, List.setIfInBounds_toArray, List.set_cons_zero, List.set_cons_succ]))
        refine wpPlan_do rfl rfl (fun K hK => ?_)
        try simp only [List.getElem_toArray, List.getElem_cons_zero, List.getElem_cons_succ]
        go_simp
        refine (checkSlot_any _ _ _ _ _ _).mono ?_
        rintro e w1 ⟨rfl, hb1'⟩
        refine hK.out _ _ (hS.trans (hb1'.mono hS.size)) (fun hS => ?_)
        clear hK K
        try simp only [List.getElem_toArray, List.getElem_cons_zero, List.getElem_cons_succ, Act.put, List.setIfInBounds_toArray, List.set_cons_zero, List.set_cons_succ]
        repeat (first
          | (refine wpPlan_takes rfl rfl ?_; apply Exists.intro; refine ⟨fun w' hS => ?_, ?_⟩; (· (skip; go_simp; exact rfl)); simp only [List.getElem_toArray, List.getElem_cons_zero, List.getElem_cons_succ, Act.put, List.setIfInBounds_toArray, List.set_cons_zero, List.set_cons_succ])
          | (refine wpPlan_skip (by assumption) rfl rfl ?_; simp only [List.getElem_toArray, List.getElem_cons_zero, List.getElem_cons_succ, Act.put, List.setIfInBounds_toArray, List.set_cons_zero, List.set_cons_succ]))
        refine wpPlan_nil ?_
        go_wp2
        go_ret
        exact ⟨ret_int (by rw [hq'.out, any_range_true hlt Hbad.out]; rfl), hbl2.trans (hS.mono hbl2.size)⟩
      · rw [ht, Bool.false_or] at Hbad
        cases ht2 : decide (0 ≤ slotAt (l.take k) l[k].author l[k].round)
        all_goals
          rw [ht2] at Hbad
          go_wp2
          refine one_block _ _ _ (fun W => (Code.region _ _ _).wp _ _ _ W) (fun W hb1 hsz hbw => ?_)
          have hbl2 : Below w.heap.size w W := hbl.trans (hbw.mono hbl.size)
          refine wp_region_plan (fun w' => Below W.heap.size W w') [(0, true), (1, false), (2, true), (3, true), (4, true), (5, true), (6, true), (7, true), (8, true), (9, true), (10, true), (11, false), (12, true), (13, true)] (by kernel_rfl) (by kernel_rfl) (fun _ _ d _ _ h => by cases d <;> exact h) rfl (by kernel_rfl) ?_ ?_
          · exact below_drew _
          intro W1 hS
          repeat (first
            | (refine wpPlan_takes rfl rfl ?_; apply Exists.intro; refine ⟨fun w' hS => ?_, ?_⟩; (· (have hq := hb1.kept hS; have h0 := hq.cell 0; have h1 := hq.cell 1; have h2 := hq.cell 2; simp at h0 h1 h2; go_simp; exact rfl)); simp only [List.getElem_toArray, List.getElem_cons_zero, List.getElem_cons_succ, Act.put, List.setIfInBounds_toArray, List.set_cons_zero, List.set_cons_succ])
            | (refine wpPlan_skip (by assumption) rfl rfl ?_; simp only [List.getElem_toArray, List.getElem_cons_zero, List.getElem_cons_succ, Act.put, List.setIfInBounds_toArray, List.set_cons_zero, List.set_cons_succ]))
          refine wpPlan_do rfl rfl (fun K hK => ?_)
          try simp only [List.getElem_toArray, List.getElem_cons_zero, List.getElem_cons_succ]
          go_simp
          refine (checkSlot_any _ _ _ _ _ _).mono ?_
          rintro e w1 ⟨rfl, hb1'⟩
          refine hK.out _ _ (hS.trans (hb1'.mono hS.size)) (fun hS => ?_)
          clear hK K
          try simp only [List.getElem_toArray, List.getElem_cons_zero, List.getElem_cons_succ, Act.put, List.setIfInBounds_toArray, List.set_cons_zero, List.set_cons_succ]
          repeat (first
            | (refine wpPlan_takes rfl rfl ?_; apply Exists.intro; refine ⟨fun w' hS => ?_, ?_⟩; (· (have hq := hb1.kept hS; have h0 := hq.cell 0; have h1 := hq.cell 1; have h2 := hq.cell 2; simp at h0 h1 h2; go_simp; exact rfl)); simp only [List.getElem_toArray, List.getElem_cons_zero, List.getElem_cons_succ, Act.put, List.setIfInBounds_toArray, List.set_cons_zero, List.set_cons_succ])
            | (refine wpPlan_skip (by assumption) rfl rfl ?_; simp only [List.getElem_toArray, List.getElem_cons_zero, List.getElem_cons_succ, Act.put, List.setIfInBounds_toArray, List.set_cons_zero, List.set_cons_succ]))
          refine wpPlan_do rfl rfl (fun K hK => ?_)
          try simp only [List.getElem_toArray, List.getElem_cons_zero, List.getElem_cons_succ]
          go_simp
          refine (find_any _ (l.take k) _ _ _ (Hsub.out.mono RSlot.mono (vle_below (hbw.trans (hS.mono (by omega)))))).mono ?_
          rintro e w' ⟨rfl, hb2'⟩
          refine hK.out _ _ (hS.trans (hb2'.mono hS.size)) (fun hS => ?_)
          clear hK K
          try simp only [List.getElem_toArray, List.getElem_cons_zero, List.getElem_cons_succ, Act.put, List.setIfInBounds_toArray, List.set_cons_zero, List.set_cons_succ]
          repeat (first
            | (refine wpPlan_takes rfl rfl ?_; apply Exists.intro; refine ⟨fun w' hS => ?_, ?_⟩; (· (skip; go_simp; exact rfl)); simp only [List.getElem_toArray, List.getElem_cons_zero, List.getElem_cons_succ, Act.put, List.setIfInBounds_toArray, List.set_cons_zero, List.set_cons_succ])
            | (refine wpPlan_skip (by assumption) rfl rfl ?_; simp only [List.getElem_toArray, List.getElem_cons_zero, List.getElem_cons_succ, Act.put, List.setIfInBounds_toArray, List.set_cons_zero, List.set_cons_succ]))
          refine wpPlan_nil ?_
          go_wp2
        · go_roundw
          case rel => exact ⟨k + 1, by omega, by go_num, upto_succ hok.out Hbad.out, hbl2.trans (hS.mono hbl2.size)⟩
          case measure => simp [intOf]; omega
        · go_ret
          exact ⟨ret_int (by rw [hq'.out, any_range_true hlt Hbad.out]; rfl), hbl2.trans (hS.mono hbl2.size)⟩
    · go_wp2
      go_ret
      exact ⟨ret_int (by rw [hq'.out, any_range_false (fun j hj => hok.out j (by omega))]; rfl), hbl⟩
end Go.Proofs.Ytelfbgfggkhpjaa
