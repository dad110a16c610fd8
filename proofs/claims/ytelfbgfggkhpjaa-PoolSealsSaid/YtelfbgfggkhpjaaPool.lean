/- Pools: Check and PoolFault answer one number; a pool copied. -/
import Derived.Test.YtelfbgfggkhpjaaBatch
namespace Go.Proofs.Ytelfbgfggkhpjaa
open Go.ChangeShapes Go.WideShapes Go.ChangeAt Go.RowKit
set_option linter.unusedVariables false
def hasText (l : List ByteArray) (s : ByteArray) : Bool := l.any fun t => t.toList == s.toList
set_option maxHeartbeats 1000000 in
set_option maxRecDepth 100000 in
theorem inTexts_any (v : Value) (l : List ByteArray) (s : ByteArray) (w : World) (hv : RTexts w.cell? v l) :
    Calls Try.prog 68 #[v, .string s] w fun e w' => e = .returned (.bool (hasText l s)) ∧ w = w' := by
  obtain ⟨A, c, rfl, hlen, hel⟩ := hv.form
  have Hel := Lib.hid hel
  clear hel hv
  go_enter Try.func68, Try.ntmps68
  go_wp2
  go_loop [5] (fun i => ∃ k : Nat, k ≤ l.length ∧ i = .int .i64 k ∧ Hid (∀ j (hj : j < l.length), j < k → (l[j].toList == s.toList) = false)) (fun i => l.length - (intOf i).toNat)
  case atStart => exact ⟨0, Nat.zero_le _, rfl, fun j _ hj => by omega⟩
  case round =>
    obtain ⟨k, hk, rfl, hok⟩ := hrel
    by_cases hlt : k < l.length
    · obtain ⟨b0, o0, rfl, hcell⟩ := Hel.out k hlt
      cases he : (l[k].toList == s.toList)
      · go_wp2
        have He := Lib.hid he
        go_round
        case rel => exact ⟨k + 1, by omega, by go_num, fun j hj hjk => by
          by_cases e : j = k
          · subst e; exact He.out
          · exact hok.out j hj (by omega)⟩
        case measure => simp [intOf]; omega
      · go_wp2
        go_ret
        exact ⟨ret_bool (any_true_get hlt he).symm, rfl⟩
    · go_wp2
      go_ret
      exact ⟨ret_bool (any_false_get fun j hj => hok.out j hj (by omega)).symm, rfl⟩
set_option maxHeartbeats 1000000 in
set_option maxRecDepth 100000 in
theorem indexText_any (v : Value) (l : List ByteArray) (s : ByteArray) (w : World) (hv : RTexts w.cell? v l) :
    Calls Try.prog 79 #[v, .string s] w fun e w' => (∃ n : Int, e = .returned (.int .i64 n) ∧ (decide (0 ≤ n) = hasText l s)) ∧ w = w' := by
  obtain ⟨A, c, rfl, hlen, hel⟩ := hv.form
  have Hel := Lib.hid hel
  clear hel hv
  go_enter Try.func79, Try.ntmps79
  go_wp2
  go_loop [8] (fun i => ∃ k : Nat, k ≤ l.length ∧ i = .int .i64 k ∧ Hid (∀ j (hj : j < l.length), j < k → (l[j].toList == s.toList) = false)) (fun i => l.length - (intOf i).toNat)
  case atStart => exact ⟨0, Nat.zero_le _, rfl, fun j _ hj => by omega⟩
  case round =>
    obtain ⟨k, hk, rfl, hok⟩ := hrel
    by_cases hlt : k < l.length
    · obtain ⟨b0, o0, rfl, hcell⟩ := Hel.out k hlt
      cases he : (s.toList == l[k].toList)
      · go_wp2
        have He := Lib.hid he
        go_round
        case rel => exact ⟨k + 1, by omega, by go_num, fun j hj hjk => by
          by_cases e : j = k
          · subst e; have := He.out; rw [beq_eq_false_iff_ne] at this ⊢; exact fun h => this h.symm
          · exact hok.out j hj (by omega)⟩
        case measure => simp [intOf]; omega
      · go_wp2
        go_ret
        exact ⟨⟨k, rfl, by rw [hasText, any_true_get hlt (by rw [beq_iff_eq] at he ⊢; exact he.symm)]; simp⟩, rfl⟩
    · go_wp2
      go_ret
      exact ⟨⟨-1, rfl, by rw [hasText, any_false_get fun j hj => hok.out j hj (by omega)]; rfl⟩, rfl⟩
set_option maxHeartbeats 1000000 in
set_option maxRecDepth 100000 in
theorem containsText_any (v : Value) (l : List ByteArray) (s : ByteArray) (w : World) (hv : RTexts w.cell? v l) :
    Calls Try.prog 67 #[v, .string s] w fun e w' => e = .returned (.bool (hasText l s)) ∧ w = w' := by
  go_enter Try.func67, Try.ntmps67
  go_wp2_with fail
  refine (indexText_any _ _ _ _ hv).mono ?_
  rintro e w' ⟨⟨n, rfl, hn⟩, rfl⟩
  go_wp2
  go_ret
  exact ⟨rfl, rfl⟩
theorem tx_any (s : ByteArray) (w : World) (hs : s.size ≤ 140737488355328) : Calls Try.prog 66 #[.string s] w fun e w' => e = .returned (.bool (txOk s)) ∧ w = w' := by
  by_cases h1 : 1 ≤ s.size <;> by_cases h2 : s.size ≤ 20
  all_goals
    have hB : Hid (txOk s = decide (1 ≤ s.size ∧ s.size ≤ 20)) := rfl
    go_enter Try.func66, Try.ntmps66
    go_wp2
    all_goals (go_ret; exact ⟨ret_bool (by rw [hB.out]; simp [h1, h2]; try omega), rfl⟩)

def badTx (l : List ByteArray) (i : Nat) : Bool := match l[i]? with | some t => !txOk t || hasText (l.take i) t | none => false
def poolF (next : Int) (l : List ByteArray) : Int := if !inB next 1 1048577 || decide (40 < l.length) then 12 else if (List.range l.length).any (badTx l) then 12 else 0
theorem badTx_at {l : List ByteArray} {k : Nat} (hk : k < l.length) : badTx l k = (!txOk l[k] || hasText (l.take k) l[k]) := by
  unfold badTx; rw [List.getElem?_eq_getElem hk]
set_option maxHeartbeats 1000000 in
set_option maxRecDepth 100000 in
theorem poolFault_any (next : Int) (v : Value) (l : List ByteArray) (w : World) (hv : RTexts w.cell? v l) (hs : ∀ s ∈ l, s.size ≤ 140737488355328) :
    Calls Try.prog 33 #[.agg #[.int .i64 next, v]] w fun e w' => e = .returned (.int .i64 (poolF next l)) ∧ Below w.heap.size w w' := by
  obtain ⟨A, c, rfl, hlen, hel⟩ := hv.form
  have hcap : l.length ≤ c := by obtain ⟨_, _, e, h, _⟩ := hv; injection e with _ _ e3; omega
  have Hel := Lib.hid hel
  have Hs := Lib.hid hs
  have Hv := Lib.hid hv
  clear hel hv hs
  have hq : ∀ x, poolF next l = x → Hid (poolF next l = x) := fun x h => h
  cases ha : inB next 1 1048577
  · have Hq := hq 12 (by simp [poolF, ha])
    clear hq
    go_enter Try.func33, Try.ntmps33
    go_wp2_with (go_at_call 34; refine (in_any _ _ _ _).mono ?_; rintro e w' ⟨rfl, rfl⟩)
    go_ret
    exact ⟨ret_int Hq.out.symm, (Below.refl _ _).alloc (Nat.le_refl _) _⟩
  by_cases hb : 40 < l.length
  · have Hq := hq 12 (by simp [poolF, ha, hb])
    clear hq
    go_enter Try.func33, Try.ntmps33
    go_wp2_with (go_at_call 34; refine (in_any _ _ _ _).mono ?_; rintro e w' ⟨rfl, rfl⟩)
    go_ret
    exact ⟨ret_int Hq.out.symm, (Below.refl _ _).alloc (Nat.le_refl _) _⟩
  have hq' : Hid (poolF next l = if (List.range l.length).any (badTx l) then 12 else 0) := by
    show _ = _
    simp only [poolF, ha]
    rw [if_neg (by simpa using hb)]
  clear hq
  go_enter Try.func33, Try.ntmps33
  go_wp2_with (go_at_call 34; refine (in_any _ _ _ _).mono ?_; rintro e w' ⟨rfl, rfl⟩)
  go_loopw [3] (fun i wr => ∃ k : Nat, k ≤ l.length ∧ i = .int .i64 k ∧ Hid (∀ j, j < k → badTx l j = false) ∧ Blk wr w.heap.size 28 #[.int .i64 next, .slice A l.length c] ∧ Below w.heap.size w wr) (fun i _ => l.length - (intOf i).toNat)
  case atStart => exact ⟨0, Nat.zero_le _, rfl, fun j hj => by omega, Blk.new _ _ _, (Below.refl _ _).alloc (Nat.le_refl _) _⟩
  case round =>
    obtain ⟨k, hk, rfl, hok, hblk, hbl⟩ := hrel
    have hbc0 := hblk.cell 0
    have hbc1 := hblk.cell 1
    simp at hbc0 hbc1
    by_cases hlt : k < l.length
    · obtain ⟨b0, o0, rfl, hcell0⟩ := Hel.out k hlt
      have hcr := vle_below hbl _ _ hcell0
      have hsk := Hs.out l[k] (List.getElem_mem hlt)
      have Hsub := Lib.hid ((Hv.out.take (k := k) (by omega)).mono (vle_below hbl))
      clear hcell0
      have hkc : k ≤ c := by omega
      have hkc' : (k : Int) ≤ (c : Int) := by omega
      cases ht : inB l[k].size 1 20
      · have Hbad := Lib.hid (show badTx l k = true by rw [badTx_at hlt]; have : txOk l[k] = false := by (simp [inB] at ht; simp [txOk]; omega)
                                                       rw [this]; rfl)
        go_wp2
        refine wp_region_plan (fun w' => Below wr.heap.size wr w') [(0, true), (1, true), (2, true), (3, true), (4, true), (5, true), (6, false), (7, true), (8, true), (9, true), (10, true), (11, true), (12, true), (13, true), (14, true), (15, true), (16, true), (17, true), (18, false), (19, true)] (by kernel_rfl) (by kernel_rfl) (fun _ _ d _ _ h => by cases d <;> exact h) rfl (by kernel_rfl) ?_ ?_
        · exact below_drew _
        intro W1 hS
        repeat (first
          | (refine wpPlan_takes rfl rfl ?_; apply Exists.intro; refine ⟨fun w' hS => ?_, ?_⟩; (· (have hq := hblk.kept hS; have h1 := hq.cell 1; have h3 := vle_below hS _ _ hcr; simp at h1; go_simp; exact rfl)); simp only [List.getElem_toArray, List.getElem_cons_zero, List.getElem_cons_succ, Act.put, List.setIfInBounds_toArray, List.set_cons_zero, List.set_cons_succ])
          | (refine wpPlan_skip (by assumption) rfl rfl ?_; simp only [List.getElem_toArray, List.getElem_cons_zero, List.getElem_cons_succ, Act.put, List.setIfInBounds_toArray, List.set_cons_zero, List.set_cons_succ]))
        refine wpPlan_do rfl rfl (fun K hK => ?_)
        try simp only [List.getElem_toArray, List.getElem_cons_zero, List.getElem_cons_succ]
        go_simp
        refine (in_any _ _ _ _).mono ?_
        rintro e w' ⟨rfl, rfl⟩
        refine hK.out _ _ (hS) (fun hS => ?_)
        clear hK K
        try simp only [List.getElem_toArray, List.getElem_cons_zero, List.getElem_cons_succ, Act.put, List.setIfInBounds_toArray, List.set_cons_zero, List.set_cons_succ]
        repeat (first
          | (refine wpPlan_takes rfl rfl ?_; apply Exists.intro; refine ⟨fun w' hS => ?_, ?_⟩; (· (skip; go_simp; exact rfl)); simp only [List.getElem_toArray, List.getElem_cons_zero, List.getElem_cons_succ, Act.put, List.setIfInBounds_toArray, List.set_cons_zero, List.set_cons_succ])
          | (refine wpPlan_skip (by assumption) rfl rfl ?_; simp only [List.getElem_toArray, List.getElem_cons_zero, List.getElem_cons_succ, Act.put, List.setIfInBounds_toArray, List.set_cons_zero, List.set_cons_succ]))
        refine wpPlan_nil ?_
        go_wp2
        go_ret
        exact ⟨ret_int (by rw [hq'.out, any_range_true hlt Hbad.out]; rfl), hbl.trans (hS.mono hbl.size)⟩
      · have hok0 : txOk l[k] = true := by simp [inB] at ht; simp [txOk]; omega
        cases ht2 : hasText (l.take k) l[k]
        all_goals
          have Hbad := Lib.hid (badTx_at hlt)
          rw [hok0, ht2] at Hbad
          go_wp2
          refine wp_region_plan (fun w' => Below wr.heap.size wr w') [(0, true), (1, true), (2, true), (3, true), (4, true), (5, true), (6, false), (7, true), (8, true), (9, true), (10, true), (11, true), (12, true), (13, true), (14, true), (15, true), (16, true), (17, true), (18, false), (19, true)] (by kernel_rfl) (by kernel_rfl) (fun _ _ d _ _ h => by cases d <;> exact h) rfl (by kernel_rfl) ?_ ?_
          · exact below_drew _
          intro W1 hS
          repeat (first
            | (refine wpPlan_takes rfl rfl ?_; apply Exists.intro; refine ⟨fun w' hS => ?_, ?_⟩; (· (have hq := hblk.kept hS; have h1 := hq.cell 1; have h3 := vle_below hS _ _ hcr; simp at h1; go_simp; exact rfl)); simp only [List.getElem_toArray, List.getElem_cons_zero, List.getElem_cons_succ, Act.put, List.setIfInBounds_toArray, List.set_cons_zero, List.set_cons_succ])
            | (refine wpPlan_skip (by assumption) rfl rfl ?_; simp only [List.getElem_toArray, List.getElem_cons_zero, List.getElem_cons_succ, Act.put, List.setIfInBounds_toArray, List.set_cons_zero, List.set_cons_succ]))
          refine wpPlan_do rfl rfl (fun K hK => ?_)
          try simp only [List.getElem_toArray, List.getElem_cons_zero, List.getElem_cons_succ]
          go_simp
          refine (in_any _ _ _ _).mono ?_
          rintro e w' ⟨rfl, rfl⟩
          refine hK.out _ _ (hS) (fun hS => ?_)
          clear hK K
          try simp only [List.getElem_toArray, List.getElem_cons_zero, List.getElem_cons_succ, Act.put, List.setIfInBounds_toArray, List.set_cons_zero, List.set_cons_succ]
          repeat (first
            | (refine wpPlan_takes rfl rfl ?_; apply Exists.intro; refine ⟨fun w' hS => ?_, ?_⟩; (· (have hq := hblk.kept hS; have h1 := hq.cell 1; have h3 := vle_below hS _ _ hcr; simp at h1; go_simp; exact rfl)); simp only [List.getElem_toArray, List.getElem_cons_zero, List.getElem_cons_succ, Act.put, List.setIfInBounds_toArray, List.set_cons_zero, List.set_cons_succ])
            | (refine wpPlan_skip (by assumption) rfl rfl ?_; simp only [List.getElem_toArray, List.getElem_cons_zero, List.getElem_cons_succ, Act.put, List.setIfInBounds_toArray, List.set_cons_zero, List.set_cons_succ]))
          refine wpPlan_do rfl rfl (fun K hK => ?_)
          try simp only [List.getElem_toArray, List.getElem_cons_zero, List.getElem_cons_succ]
          go_simp
          refine (inTexts_any _ (l.take k) _ _ (Hsub.out.mono (vle_below hS))).mono ?_
          rintro e w' ⟨rfl, rfl⟩
          simp only [ht2]
          refine hK.out _ _ (hS) (fun hS => ?_)
          clear hK K
          try simp only [List.getElem_toArray, List.getElem_cons_zero, List.getElem_cons_succ, Act.put, List.setIfInBounds_toArray, List.set_cons_zero, List.set_cons_succ]
          repeat (first
            | (refine wpPlan_takes rfl rfl ?_; apply Exists.intro; refine ⟨fun w' hS => ?_, ?_⟩; (· (skip; go_simp; exact rfl)); simp only [List.getElem_toArray, List.getElem_cons_zero, List.getElem_cons_succ, Act.put, List.setIfInBounds_toArray, List.set_cons_zero, List.set_cons_succ])
            | (refine wpPlan_skip (by assumption) rfl rfl ?_; simp only [List.getElem_toArray, List.getElem_cons_zero, List.getElem_cons_succ, Act.put, List.setIfInBounds_toArray, List.set_cons_zero, List.set_cons_succ]))
          refine wpPlan_nil ?_
          go_wp2
        · go_roundw
          case rel => exact ⟨k + 1, by omega, by go_num, upto_succ hok.out Hbad.out, hblk.kept hS, hbl.trans (hS.mono hbl.size)⟩
          case measure => simp [intOf]; omega
        · go_ret
          exact ⟨ret_int (by rw [hq'.out, any_range_true hlt Hbad.out]; rfl), hbl.trans (hS.mono hbl.size)⟩
    · go_wp2
      go_ret
      exact ⟨ret_int (by rw [hq'.out, any_range_false (fun j hj => hok.out j (by omega))]; rfl), hbl⟩
set_option maxHeartbeats 1000000 in
set_option maxRecDepth 100000 in
theorem poolCheck_any (next : Int) (v : Value) (l : List ByteArray) (w : World) (hv : RTexts w.cell? v l) (hs : ∀ s ∈ l, s.size ≤ 140737488355328) :
    Calls Try.prog 31 #[.agg #[.int .i64 next, v]] w fun e w' => e = .returned (.int .i64 (poolF next l)) ∧ Below w.heap.size w w' := by
  obtain ⟨A, c, rfl, hlen, hel⟩ := hv.form
  have hcap : l.length ≤ c := by obtain ⟨_, _, e, h, _⟩ := hv; injection e with _ _ e3; omega
  have Hel := Lib.hid hel
  have Hs := Lib.hid hs
  have Hv := Lib.hid hv
  clear hel hv hs
  have hq : ∀ x, poolF next l = x → Hid (poolF next l = x) := fun x h => h
  by_cases ha1 : next < 1
  · have Hq := hq 12 (by have : inB next 1 1048577 = false := by (simp [inB]; omega)
                         simp [poolF, this])
    clear hq
    go_enter Try.func31, Try.ntmps31
    go_wp2
    go_ret
    exact ⟨ret_int Hq.out.symm, (Below.refl _ _).alloc (Nat.le_refl _) _⟩
  by_cases ha2 : 1048577 < next
  · have Hq := hq 12 (by have : inB next 1 1048577 = false := by (simp [inB]; omega)
                         simp [poolF, this])
    clear hq
    go_enter Try.func31, Try.ntmps31
    go_wp2
    go_ret
    exact ⟨ret_int Hq.out.symm, (Below.refl _ _).alloc (Nat.le_refl _) _⟩
  have ha : inB next 1 1048577 = true := by simp [inB]; omega
  by_cases hb : 40 < l.length
  · have Hq := hq 12 (by simp [poolF, ha, hb])
    clear hq
    go_enter Try.func31, Try.ntmps31
    go_wp2
    go_ret
    exact ⟨ret_int Hq.out.symm, (Below.refl _ _).alloc (Nat.le_refl _) _⟩
  have hq' : Hid (poolF next l = if (List.range l.length).any (badTx l) then 12 else 0) := by
    show _ = _
    simp only [poolF, ha]
    rw [if_neg (by simpa using hb)]
  clear hq
  go_enter Try.func31, Try.ntmps31
  go_wp2
  go_loop [22] (fun i => ∃ k : Nat, k ≤ l.length ∧ i = .int .i64 k ∧ Hid (∀ j, j < k → badTx l j = false)) (fun i => l.length - (intOf i).toNat)
  case atStart => exact ⟨0, Nat.zero_le _, rfl, fun j hj => by omega⟩
  case round =>
    obtain ⟨k, hk, rfl, hok⟩ := hrel
    by_cases hlt : k < l.length
    · obtain ⟨b0, o0, rfl, hcell0⟩ := Hel.out k hlt
      have hcr := cell_alloc hcell0
      have hsk := Hs.out l[k] (List.getElem_mem hlt)
      have Hsub := fun o => Lib.hid ((Hv.out.take (k := k) (by omega)).mono (vle_below ((Below.refl _ _).alloc (Nat.le_refl _) o)))
      clear hcell0
      have hkc : k ≤ c := by omega
      have hkc' : (k : Int) ≤ (c : Int) := by omega
      have Hbad := Lib.hid (badTx_at hlt)
      cases ht : txOk l[k]
      · rw [ht] at Hbad
        go_wp2_with (go_at_call 66; refine (tx_any _ _ hsk).mono ?_; rintro e w' ⟨rfl, rfl⟩)
        go_ret
        exact ⟨ret_int (by rw [hq'.out, any_range_true hlt Hbad.out]; rfl), (Below.refl _ _).alloc (Nat.le_refl _) _⟩
      · cases ht2 : hasText (l.take k) l[k]
        all_goals
          rw [ht, ht2] at Hbad
          go_wp2_with (first | (go_at_call 66; refine (tx_any _ _ hsk).mono ?_; rintro e w' ⟨rfl, rfl⟩) | (go_at_call 67; refine (containsText_any _ (l.take k) _ _ (Hsub _).out).mono ?_; rintro e w' ⟨rfl, rfl⟩))
        · go_round
          case rel => exact ⟨k + 1, by omega, by go_num, upto_succ hok.out Hbad.out⟩
          case measure => simp [intOf]; omega
        · go_ret
          exact ⟨ret_int (by rw [hq'.out, any_range_true hlt Hbad.out]; rfl), (Below.refl _ _).alloc (Nat.le_refl _) _⟩
    · go_wp2
      go_ret
      exact ⟨ret_int (by rw [hq'.out, any_range_false (fun j hj => hok.out j (by omega))]; rfl), (Below.refl _ _).alloc (Nat.le_refl _) _⟩
set_option maxHeartbeats 1000000 in
set_option maxRecDepth 100000 in
theorem pools_any (nx : Int) (v : Value) (l : List ByteArray) (w : World) (hd : RTexts w.cell? v l) :
    Calls Try.prog 10 #[.agg #[.int .i64 nx, v]] w fun e w' => ∃ d', e = .returned (.agg #[.int .i64 nx, d']) ∧ Below w.heap.size w w' ∧ OwnS w' w.heap.size d' l := by
  go_enter Try.func10, Try.ntmps10
  go_wp2
  refine two_blocks _ _ _ _ _ (fun W => (Code.region _ _ _).wp _ _ _ W) (fun W hb1 hb2 hsz hbl => ?_)
  have hd1 := hd.below_but hbl (Nat.le_succ _)
  refine wp_region_plan (fun w' => W.grownBy w' (some (w.heap.size + 1)) ∧ ∃ cs, Blk w' (w.heap.size + 1) 28 cs ∧ cs.size = 2) [(0, true), (1, true), (2, true), (3, true), (4, false), (5, true), (6, false)] (by kernel_rfl) (by kernel_rfl) (fun _ _ d _ _ h => by cases d <;> exact h) rfl (by kernel_rfl) ?_ ?_
  · exact ⟨grownBy_drew _ _, _, hb2, rfl⟩
  intro W1 hS1
  repeat (first
    | (refine wpPlan_takes rfl rfl ?_; apply Exists.intro; refine ⟨fun w' hS => ?_, ?_⟩; (· (have hq := hb1.grown hS.1 (by simp); have h0 := hq.cell 0; have h1 := hq.cell 1; simp at h0 h1; go_simp; exact rfl)); simp only [List.getElem_toArray, List.getElem_cons_zero, List.getElem_cons_succ, Act.put, List.setIfInBounds_toArray, List.set_cons_zero, List.set_cons_succ])
    | (refine wpPlan_skip (by assumption) rfl rfl ?_; simp only [List.getElem_toArray, List.getElem_cons_zero, List.getElem_cons_succ, Act.put, List.setIfInBounds_toArray, List.set_cons_zero, List.set_cons_succ]))
  refine wpPlan_do rfl rfl (fun K hK => ?_)
  try simp only [List.getElem_toArray, List.getElem_cons_zero, List.getElem_cons_succ]
  go_simp
  obtain ⟨hg1, cs, hc, hcs⟩ := hS1
  refine (texts_any _ _ _ (hd1.mono (vle_grown hg1))).mono ?_
  rintro e w1 ⟨d', rfl, hj, hown⟩
  obtain ⟨A', c', rfl⟩ := hown.form
  refine hK.out _ _ (⟨grownBy_trans hg1 (grownBy_below _ hj), _, hc.kept hj, hcs⟩) (fun hS => ?_)
  clear hK K
  try simp only [List.getElem_toArray, List.getElem_cons_zero, List.getElem_cons_succ, Act.put, List.setIfInBounds_toArray, List.set_cons_zero, List.set_cons_succ]
  repeat (first
    | (refine wpPlan_takes rfl rfl ?_; apply Exists.intro; refine ⟨fun w' hS => ?_, ?_⟩; (· (skip; go_simp; exact rfl)); simp only [List.getElem_toArray, List.getElem_cons_zero, List.getElem_cons_succ, Act.put, List.setIfInBounds_toArray, List.set_cons_zero, List.set_cons_succ])
    | (refine wpPlan_skip (by assumption) rfl rfl ?_; simp only [List.getElem_toArray, List.getElem_cons_zero, List.getElem_cons_succ, Act.put, List.setIfInBounds_toArray, List.set_cons_zero, List.set_cons_succ]))
  refine wpPlan_do rfl rfl (fun K hK => ?_)
  try simp only [List.getElem_toArray, List.getElem_cons_zero, List.getElem_cons_succ]
  refine wp_store_whole rfl rfl rfl (n := 2) (by kernel_rfl) rfl (hc.kept hj) hcs rfl ?_
  intro w2 hb3 hg
  have hsz1 := hg1.size
  refine hK.out _ _ (⟨grownBy_trans hS.1 hg, _, hb3, rfl⟩) (fun hS => ?_)
  clear hK K
  try simp only [List.getElem_toArray, List.getElem_cons_zero, List.getElem_cons_succ, Act.put, List.setIfInBounds_toArray, List.set_cons_zero, List.set_cons_succ]
  refine wpPlan_nil ?_
  go_wp2
  refine bodyPost_ret (results_blk rfl rfl (by kernel_rfl) (by kernel_rfl) hb3 rfl) rfl ?_
  have hA := below_grownBy (B := w.heap.size) hbl (by omega) (grownBy_trans (grownBy_trans hg1 (grownBy_below _ hj)) hg) (fun k e => by injection e; omega)
  exact ⟨_, rfl, hA, (hown.grown hg (by omega)).base (by omega)⟩
end Go.Proofs.Ytelfbgfggkhpjaa
