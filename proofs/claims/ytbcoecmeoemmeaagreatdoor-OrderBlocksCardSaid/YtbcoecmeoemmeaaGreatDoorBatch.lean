/- Batches: CheckBatch and BatchFault answer one number; a batch copied. -/
import Derived.Test.YtbcoecmeoemmeaaGreatDoorCopy
import Derived.Test.YtbcoecmeoemmeaaGreatDoorBlk
import Derived.Test.YtbcoecmeoemmeaaGreatDoorNum
namespace Go.Proofs.YtbcoecmeoemmeaaGreatDoor
open Go.ChangeShapes Go.WideShapes Go.ChangeAt Go.RowKit
set_option linter.unusedVariables false
def txOk (s : ByteArray) : Bool := decide (1 ≤ s.size ∧ s.size ≤ 20)
def batchF (au nu : Int) (l : List ByteArray) : Int := if !inB au 0 3 || !inB nu 1 1048576 then 2 else if l.length < 1 ∨ 4 < l.length then 1 else if l.all txOk then 0 else 1
theorem RTexts.form {h : View} {v : Value} {xs : List ByteArray} (hr : RTexts h v xs) : ∃ A c, v = .slice A xs.length c ∧ xs.length * 16 ≤ 140737488355328 ∧ ∀ k (hk : k < xs.length), ∃ b o, A = some ⟨b, o, none⟩ ∧ h ⟨b, o + k, none⟩ = some (.string xs[k]) := by
  obtain ⟨A, c, e, _, _, h3, _, h5⟩ := hr
  refine ⟨A, c, e, h3, fun k hk => ?_⟩
  obtain ⟨b, o, ea, hc⟩ := h5 (by omega)
  exact ⟨b, o, ea, hc k hk⟩
theorem all_ok {l : List ByteArray} (h : ∀ j (hj : j < l.length), txOk l[j] = true) : l.all txOk = true := by
  rw [List.all_eq_true]
  intro x hx
  obtain ⟨i, hi, rfl⟩ := List.getElem_of_mem hx
  exact h i hi
theorem all_bad {l : List ByteArray} {k : Nat} (hk : k < l.length) (h : txOk l[k] = false) : l.all txOk = false := by
  rw [List.all_eq_false]
  exact ⟨l[k], List.getElem_mem hk, by simp [h]⟩
set_option maxHeartbeats 1000000 in
set_option maxRecDepth 100000 in
theorem batchFault_any (au nu : Int) (v : Value) (l : List ByteArray) (w : World) (hv : RTexts w.cell? v l) (hs : ∀ s ∈ l, s.size ≤ 140737488355328) :
    Calls Tryz.prog 62 #[.agg #[.int .i64 au, .int .i64 nu, v]] w fun e w' => e = .returned (.int .i64 (batchF au nu l)) ∧ Below w.heap.size w w' := by
  obtain ⟨A, c, rfl, hlen, hel⟩ := hv.form
  have Hel := Lib.hid hel
  have Hs := Lib.hid hs
  clear hel hv hs
  have hq : ∀ x, batchF au nu l = x → Hid (batchF au nu l = x) := fun x h => h
  cases ha : inB au 0 3
  · have Hq := hq 2 (by simp [batchF, ha])
    clear hq
    go_enter Tryz.func62, Tryz.ntmps62
    go_wp2_with (go_at_call 101; refine (in_any _ _ _ _).mono ?_; rintro e w' ⟨rfl, rfl⟩)
    go_ret
    exact ⟨ret_int Hq.out.symm, (Below.refl _ _).alloc (Nat.le_refl _) _⟩
  cases hb : inB nu 1 1048576
  · have Hq := hq 2 (by simp [batchF, ha, hb])
    clear hq
    go_enter Tryz.func62, Tryz.ntmps62
    go_wp2_with (go_at_call 101; refine (in_any _ _ _ _).mono ?_; rintro e w' ⟨rfl, rfl⟩)
    go_ret
    exact ⟨ret_int Hq.out.symm, (Below.refl _ _).alloc (Nat.le_refl _) _⟩
  cases hc : inB l.length 1 4
  · have hl0 : l.length < 1 ∨ 4 < l.length := by simp [inB] at hc; omega
    have Hq := hq 1 (by simp only [batchF, ha, hb]; rw [if_neg (by simp), if_pos hl0])
    clear hl0
    clear hq
    go_enter Tryz.func62, Tryz.ntmps62
    go_wp2_with (go_at_call 101; refine (in_any _ _ _ _).mono ?_; rintro e w' ⟨rfl, rfl⟩)
    go_ret
    exact ⟨ret_int Hq.out.symm, (Below.refl _ _).alloc (Nat.le_refl _) _⟩
  have hl4 : 1 ≤ l.length ∧ l.length ≤ 4 := by simp [inB] at hc; omega
  have hq' : Hid (batchF au nu l = if l.all txOk then 0 else 1) := by
    show _ = _
    simp only [batchF, ha, hb]
    rw [if_neg (by simp), if_neg (by omega)]
  clear hq
  go_enter Tryz.func62, Tryz.ntmps62
  go_wp2_with (go_at_call 101; refine (in_any _ _ _ _).mono ?_; rintro e w' ⟨rfl, rfl⟩)
  go_loop [3] (fun i => ∃ k : Nat, k ≤ l.length ∧ i = .int .i64 k ∧ Hid (∀ j (hj : j < l.length), j < k → txOk l[j] = true)) (fun i => l.length - (intOf i).toNat)
  case atStart => exact ⟨0, Nat.zero_le _, rfl, fun j _ hj => by omega⟩
  case round =>
    obtain ⟨k, hk, rfl, hok⟩ := hrel
    by_cases hlt : k < l.length
    · obtain ⟨b0, o0, rfl, hcell'⟩ := Hel.out k hlt
      have hcell := cell_alloc hcell'
      clear hcell'
      have hsk := Hs.out l[k] (List.getElem_mem hlt)
      cases ht : inB l[k].size 1 20
      · have hbad : txOk l[k] = false := by simp [inB] at ht; simp [txOk]; omega
        have Hbad := Lib.hid hbad
        clear hbad
        go_wp2_with (go_at_call 101; refine (in_any _ _ _ _).mono ?_; rintro e w' ⟨rfl, rfl⟩)
        go_ret
        exact ⟨ret_int (by rw [hq'.out, all_bad hlt Hbad.out]; rfl), (Below.refl _ _).alloc (Nat.le_refl _) _⟩
      · have hgood : txOk l[k] = true := by simp [inB] at ht; simp [txOk]; omega
        have Hgood := Lib.hid hgood
        clear hgood
        go_wp2_with (go_at_call 101; refine (in_any _ _ _ _).mono ?_; rintro e w' ⟨rfl, rfl⟩)
        go_round
        case rel => exact ⟨k + 1, by omega, by go_num, fun j hj hjk => by
          by_cases e : j = k
          · subst e; exact Hgood.out
          · exact hok.out j hj (by omega)⟩
        case measure => simp [intOf]; omega
    · go_wp2
      go_ret
      exact ⟨ret_int (by rw [hq'.out, all_ok (fun j hj => hok.out j hj (by omega))]; rfl), (Below.refl _ _).alloc (Nat.le_refl _) _⟩
set_option maxHeartbeats 1000000 in
set_option maxRecDepth 100000 in
theorem checkBatch_any (au nu : Int) (v : Value) (l : List ByteArray) (w : World) (hv : RTexts w.cell? v l) (hs : ∀ s ∈ l, s.size ≤ 140737488355328) :
    Calls Tryz.prog 50 #[.agg #[.int .i64 au, .int .i64 nu, v]] w fun e w' => e = .returned (.int .i64 (batchF au nu l)) ∧ Below w.heap.size w w' := by
  obtain ⟨A, c, rfl, hlen, hel⟩ := hv.form
  have Hel := Lib.hid hel
  have Hs := Lib.hid hs
  clear hel hv hs
  have hq : ∀ x, batchF au nu l = x → Hid (batchF au nu l = x) := fun x h => h
  cases ha : inB au 0 3
  · have Hq := hq 2 (by simp [batchF, ha])
    clear hq
    go_enter Tryz.func50, Tryz.ntmps50
    go_wp2_with (first | (go_at_call 92; refine (node_any _ _).mono ?_; rintro e w' ⟨rfl, rfl⟩) | (go_at_call 93; refine (count_any _ _).mono ?_; rintro e w' ⟨rfl, rfl⟩))
    go_ret
    exact ⟨ret_int Hq.out.symm, (Below.refl _ _).alloc (Nat.le_refl _) _⟩
  cases hb : inB nu 1 1048576
  · have Hq := hq 2 (by simp [batchF, ha, hb])
    clear hq
    go_enter Tryz.func50, Tryz.ntmps50
    go_wp2_with (first | (go_at_call 92; refine (node_any _ _).mono ?_; rintro e w' ⟨rfl, rfl⟩) | (go_at_call 93; refine (count_any _ _).mono ?_; rintro e w' ⟨rfl, rfl⟩))
    go_ret
    exact ⟨ret_int Hq.out.symm, (Below.refl _ _).alloc (Nat.le_refl _) _⟩
  by_cases hl1 : l.length < 1
  · have hl0 : l.length < 1 ∨ 4 < l.length := .inl hl1
    have Hq := hq 1 (by simp only [batchF, ha, hb]; rw [if_neg (by simp), if_pos hl0])
    clear hl0 hq
    have h0 : l.length = 0 := by omega
    rw [h0]
    clear hl1
    go_enter Tryz.func50, Tryz.ntmps50
    go_wp2_with (first | (go_at_call 92; refine (node_any _ _).mono ?_; rintro e w' ⟨rfl, rfl⟩) | (go_at_call 93; refine (count_any _ _).mono ?_; rintro e w' ⟨rfl, rfl⟩))
    go_ret
    exact ⟨ret_int Hq.out.symm, (Below.refl _ _).alloc (Nat.le_refl _) _⟩
  by_cases hl4 : 4 < l.length
  · have hl0 : l.length < 1 ∨ 4 < l.length := .inr hl4
    have Hq := hq 1 (by simp only [batchF, ha, hb]; rw [if_neg (by simp), if_pos hl0])
    clear hl0 hq
    go_enter Tryz.func50, Tryz.ntmps50
    go_wp2_with (first | (go_at_call 92; refine (node_any _ _).mono ?_; rintro e w' ⟨rfl, rfl⟩) | (go_at_call 93; refine (count_any _ _).mono ?_; rintro e w' ⟨rfl, rfl⟩))
    go_ret
    exact ⟨ret_int Hq.out.symm, (Below.refl _ _).alloc (Nat.le_refl _) _⟩
  have hq' : Hid (batchF au nu l = if l.all txOk then 0 else 1) := by
    show _ = _
    simp only [batchF, ha, hb]
    rw [if_neg (by simp), if_neg (by omega)]
  clear hq
  go_enter Tryz.func50, Tryz.ntmps50
  go_wp2_with (first | (go_at_call 92; refine (node_any _ _).mono ?_; rintro e w' ⟨rfl, rfl⟩) | (go_at_call 93; refine (count_any _ _).mono ?_; rintro e w' ⟨rfl, rfl⟩))
  go_loop [28] (fun i => ∃ k : Nat, k ≤ l.length ∧ i = .int .i64 k ∧ Hid (∀ j (hj : j < l.length), j < k → txOk l[j] = true)) (fun i => l.length - (intOf i).toNat)
  case atStart => exact ⟨0, Nat.zero_le _, rfl, fun j _ hj => by omega⟩
  case round =>
    obtain ⟨k, hk, rfl, hok⟩ := hrel
    by_cases hlt : k < l.length
    · obtain ⟨b0, o0, rfl, hcell'⟩ := Hel.out k hlt
      have hcell := cell_alloc hcell'
      clear hcell'
      have hsk := Hs.out l[k] (List.getElem_mem hlt)
      by_cases h1 : l[k].size < 1
      · have hbad : txOk l[k] = false := by simp [txOk]; omega
        have Hbad := Lib.hid hbad
        clear hbad
        go_wp2
        go_ret
        exact ⟨ret_int (by rw [hq'.out, all_bad hlt Hbad.out]; rfl), (Below.refl _ _).alloc (Nat.le_refl _) _⟩
      by_cases h2 : 20 < l[k].size
      · have hbad : txOk l[k] = false := by simp [txOk]; omega
        have Hbad := Lib.hid hbad
        clear hbad
        go_wp2
        go_ret
        exact ⟨ret_int (by rw [hq'.out, all_bad hlt Hbad.out]; rfl), (Below.refl _ _).alloc (Nat.le_refl _) _⟩
      · have hgood : txOk l[k] = true := by simp [txOk]; omega
        have Hgood := Lib.hid hgood
        clear hgood
        go_wp2
        go_round
        case rel => exact ⟨k + 1, by omega, by go_num, fun j hj hjk => by
          by_cases e : j = k
          · subst e; exact Hgood.out
          · exact hok.out j hj (by omega)⟩
        case measure => simp [intOf]; omega
    · go_wp2
      go_ret
      exact ⟨ret_int (by rw [hq'.out, all_ok (fun j hj => hok.out j hj (by omega))]; rfl), (Below.refl _ _).alloc (Nat.le_refl _) _⟩
set_option maxHeartbeats 1000000 in
set_option maxRecDepth 100000 in
theorem batch_any (au nu : Int) (v : Value) (l : List ByteArray) (w : World) (hd : RTexts w.cell? v l) :
    Calls Tryz.prog 22 #[.agg #[.int .i64 au, .int .i64 nu, v]] w fun e w' => ∃ d', e = .returned (.agg #[.int .i64 au, .int .i64 nu, d']) ∧ Below w.heap.size w w' ∧ OwnS w' w.heap.size d' l := by
  go_enter Tryz.func22, Tryz.ntmps22
  go_wp2
  refine two_blocks _ _ _ _ _ (fun W => (Code.region _ _ _).wp _ _ _ W) (fun W hb1 hb2 hsz hbl => ?_)
  have hd1 := hd.below_but hbl (Nat.le_succ _)
  refine wp_region_plan (fun w' => W.grownBy w' (some (w.heap.size + 1)) ∧ ∃ cs, Blk w' (w.heap.size + 1) 71 cs ∧ cs.size = 3) [(0, true), (1, true), (2, true), (3, true), (4, true), (5, true), (6, false), (7, true), (8, false)] (by kernel_rfl) (by kernel_rfl) (fun _ _ d _ _ h => by cases d <;> exact h) rfl (by kernel_rfl) ?_ ?_
  · exact ⟨grownBy_drew _ _, _, hb2, rfl⟩
  intro W1 hS1
  repeat (first
    | (refine wpPlan_takes rfl rfl ?_; apply Exists.intro; refine ⟨fun w' hS => ?_, ?_⟩; (· (have hq := hb1.grown hS.1 (by simp); have h0 := hq.cell 0; have h1 := hq.cell 1; have h2 := hq.cell 2; simp at h0 h1 h2; go_simp; exact rfl)); simp only [List.getElem_toArray, List.getElem_cons_zero, List.getElem_cons_succ, Act.put, List.setIfInBounds_toArray, List.set_cons_zero, List.set_cons_succ])
    | (refine wpPlan_skip (by assumption) rfl rfl ?_; simp only [List.getElem_toArray, List.getElem_cons_zero, List.getElem_cons_succ, Act.put, List.setIfInBounds_toArray, List.set_cons_zero, List.set_cons_succ]))
  refine wpPlan_do rfl rfl (fun K hK => ?_)
  try simp only [List.getElem_toArray, List.getElem_cons_zero, List.getElem_cons_succ]
  go_simp
  obtain ⟨hg1, cs, hc, hcs⟩ := hS1
  refine (texts_any _ _ _ (hd1.mono (vle_grown hg1))).mono ?_
  rintro e w1 ⟨d', rfl, hj, hown⟩
  obtain ⟨A', c', rfl⟩ := hown.form
  refine hK.out _ _ (⟨grownBy_trans hg1 (grownBy_below _ hj), _, hc.kept hj, hcs⟩) (fun hS => ?_)
  clear hK K
  try simp only [List.getElem_toArray, List.getElem_cons_zero, List.getElem_cons_succ, Act.put, List.setIfInBounds_toArray, List.set_cons_zero, List.set_cons_succ]
  repeat (first
    | (refine wpPlan_takes rfl rfl ?_; apply Exists.intro; refine ⟨fun w' hS => ?_, ?_⟩; (· (skip; go_simp; exact rfl)); simp only [List.getElem_toArray, List.getElem_cons_zero, List.getElem_cons_succ, Act.put, List.setIfInBounds_toArray, List.set_cons_zero, List.set_cons_succ])
    | (refine wpPlan_skip (by assumption) rfl rfl ?_; simp only [List.getElem_toArray, List.getElem_cons_zero, List.getElem_cons_succ, Act.put, List.setIfInBounds_toArray, List.set_cons_zero, List.set_cons_succ]))
  refine wpPlan_do rfl rfl (fun K hK => ?_)
  try simp only [List.getElem_toArray, List.getElem_cons_zero, List.getElem_cons_succ]
  refine wp_store_whole rfl rfl rfl (n := 3) (by kernel_rfl) rfl (hc.kept hj) hcs rfl ?_
  intro w2 hb3 hg
  have hsz1 := hg1.size
  refine hK.out _ _ (⟨grownBy_trans hS.1 hg, _, hb3, rfl⟩) (fun hS => ?_)
  clear hK K
  try simp only [List.getElem_toArray, List.getElem_cons_zero, List.getElem_cons_succ, Act.put, List.setIfInBounds_toArray, List.set_cons_zero, List.set_cons_succ]
  refine wpPlan_nil ?_
  go_wp2
  refine bodyPost_ret (results_blk rfl rfl (by kernel_rfl) (by kernel_rfl) hb3 rfl) rfl ?_
  have hA := below_grownBy (B := w.heap.size) hbl (by omega) (grownBy_trans (grownBy_trans hg1 (grownBy_below _ hj)) hg) (fun k e => by injection e; omega)
  exact ⟨_, rfl, hA, (hown.grown hg (by omega)).base (by omega)⟩
end Go.Proofs.YtbcoecmeoemmeaaGreatDoor
