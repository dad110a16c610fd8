/- The search in a table; Check and TableFault answer one number. -/
import Derived.Test.YtelfbgfggkhpjaaBallot
namespace Go.Proofs.Ytelfbgfggkhpjaa
open Go.ChangeShapes Go.WideShapes Go.ChangeAt Go.RowKit
set_option linter.unusedVariables false
theorem below_pair (w : World) (o1 o2 : Obj) : Below w.heap.size w ((w.alloc o1).alloc o2) := ((Below.refl _ _).alloc (Nat.le_refl _) _).alloc (le_alloc _ (Nat.le_refl _)) _
def slotAt (l : List Slot) (au ro : Int) : Int := match l.findIdx? (fun s => s.author == au && s.round == ro) with | some i => i | none => -1
theorem slotAt_found {l : List Slot} {au ro : Int} {k : Nat} (hk : k < l.length) (h : ∀ j (hj : j < l.length), j < k → (l[j].author == au && l[j].round == ro) = false) (hp : (l[k].author == au && l[k].round == ro) = true) : slotAt l au ro = k := by
  have : l.findIdx? (fun s => s.author == au && s.round == ro) = some k := by
    rw [List.findIdx?_eq_some_iff_getElem]
    exact ⟨hk, hp, fun j hj => by simp [h j (by omega) hj]⟩
  simp only [slotAt, this]
theorem slotAt_none {l : List Slot} {au ro : Int} (h : ∀ j (hj : j < l.length), (l[j].author == au && l[j].round == ro) = false) : slotAt l au ro = -1 := by
  have : l.findIdx? (fun s => s.author == au && s.round == ro) = none := by
    rw [List.findIdx?_eq_none_iff]
    intro x hx
    obtain ⟨i, hi, rfl⟩ := List.getElem_of_mem hx
    simp [h i hi]
  simp only [slotAt, this]
set_option maxHeartbeats 1000000 in
set_option maxRecDepth 100000 in
theorem slotAt_any (vl : Value) (l : List Slot) (au ro : Int) (w : World) (hl : RSlots w.cell? vl l) :
    Calls Try.prog 41 #[vl, .int .i64 au, .int .i64 ro] w fun e w' => e = .returned (.int .i64 (slotAt l au ro)) ∧ w = w' := by
  obtain ⟨A, c, rfl, _⟩ := id hl
  obtain ⟨_, hn1, hn2, hel⟩ := hl.at
  have Hel := Lib.hid hel
  clear hl hel
  go_enter Try.func41, Try.ntmps41
  go_wp2
  go_loop [7] (fun i => ∃ k : Nat, k ≤ l.length ∧ i = .int .i64 k ∧ Hid (∀ j (hj : j < l.length), j < k → (l[j].author == au && l[j].round == ro) = false)) (fun i => l.length - (intOf i).toNat)
  case atStart => exact ⟨0, Nat.zero_le _, rfl, fun j _ hj => by omega⟩
  case round =>
    obtain ⟨k, hk, rfl, hno⟩ := hrel
    by_cases hlt : k < l.length
    · obtain ⟨b0, o0, d, rfl, h0, h1, h2, hd⟩ := Hel.out k hlt
      clear hd h2
      cases e1 : (l[k].author == au)
      · have Hb := Lib.hid (show (l[k].author == au && l[k].round == ro) = false by rw [e1]; rfl)
        go_wp2
        go_round
        case rel => exact ⟨k + 1, by omega, by go_num, fun j hj hjk => by
          by_cases e : j = k
          · subst e; exact Hb.out
          · exact hno.out j hj (by omega)⟩
        case measure => simp [intOf]; omega
      cases e2 : (l[k].round == ro)
      · have Hb := Lib.hid (show (l[k].author == au && l[k].round == ro) = false by rw [e1, e2]; rfl)
        go_wp2
        go_round
        case rel => exact ⟨k + 1, by omega, by go_num, fun j hj hjk => by
          by_cases e : j = k
          · subst e; exact Hb.out
          · exact hno.out j hj (by omega)⟩
        case measure => simp [intOf]; omega
      · have Hb := Lib.hid (show (l[k].author == au && l[k].round == ro) = true by rw [e1, e2]; rfl)
        go_wp2
        go_ret
        exact ⟨ret_int (slotAt_found hlt hno.out Hb.out).symm, rfl⟩
    · go_wp2
      go_ret
      exact ⟨ret_int (slotAt_none fun j hj => hno.out j hj (by omega)).symm, rfl⟩
set_option maxHeartbeats 1000000 in
set_option maxRecDepth 100000 in
theorem findFn_any (s : Slot) (d : Value) (au ro : Int) (b1 b2 : Nat) (w : World) (h1 : w.cell? ⟨b1, 0, none⟩ = some (.int .i64 au)) (h2 : w.cell? ⟨b2, 0, none⟩ = some (.int .i64 ro)) :
    Calls Try.prog 70 #[.agg #[.int .i64 s.author, .int .i64 s.round, d], .pointer (some ⟨b1, 0, none⟩), .pointer (some ⟨b2, 0, none⟩)] w fun e w' => e = .returned (.bool (s.author == au && s.round == ro)) ∧ Below w.heap.size w w' := by
  have g1 := World.block_lt_of_cell? w _ h1
  have g2 := World.block_lt_of_cell? w _ h2
  have k1 := cell_alloc h1
  have k2 := cell_alloc h2
  clear h1 h2
  cases e1 : (s.author == au) <;> cases e2 : (s.round == ro)
  all_goals
    go_enter Try.func70, Try.ntmps70
    go_wp2
    go_ret
    exact ⟨rfl, below_one _ _⟩
set_option maxHeartbeats 1000000 in
set_option maxRecDepth 100000 in
theorem indexSlot_any (vl : Value) (l : List Slot) (au ro : Int) (b1 b2 : Nat) (w : World) (hl : RSlots w.cell? vl l) (h1 : w.cell? ⟨b1, 0, none⟩ = some (.int .i64 au)) (h2 : w.cell? ⟨b2, 0, none⟩ = some (.int .i64 ro)) :
    Calls Try.prog 69 #[vl, .func (.func 70) #[] #[.pointer (some ⟨b1, 0, none⟩), .pointer (some ⟨b2, 0, none⟩)]] w fun e w' => e = .returned (.int .i64 (slotAt l au ro)) ∧ Below w.heap.size w w' := by
  obtain ⟨A, c, rfl, _⟩ := id hl
  obtain ⟨_, hn1, hn2, hel⟩ := hl.at
  have Hel := Lib.hid hel
  have H1 := Lib.hid h1
  have H2 := Lib.hid h2
  clear hl hel h1 h2
  go_enter Try.func69, Try.ntmps69
  go_wp2
  go_loopw [8] (fun i wr => ∃ k : Nat, k ≤ l.length ∧ i = .int .i64 k ∧ Hid (∀ j (hj : j < l.length), j < k → (l[j].author == au && l[j].round == ro) = false) ∧ Below w.heap.size w wr) (fun i _ => l.length - (intOf i).toNat)
  case atStart => exact ⟨0, Nat.zero_le _, rfl, fun j _ hj => by omega, Below.refl _ _⟩
  case round =>
    obtain ⟨k, hk, rfl, hno, hbl⟩ := hrel
    by_cases hlt : k < l.length
    · obtain ⟨b0, o0, d, rfl, q0, q1, q2, hd⟩ := Hel.out k hlt
      have c0 := vle_below hbl _ _ q0
      have c1 := vle_below hbl _ _ q1
      have c2 := vle_below hbl _ _ q2
      clear hd q0 q1 q2
      go_wp2_with fail
      refine (findFn_any l[k] d au ro b1 b2 _ (vle_below hbl _ _ H1.out) (vle_below hbl _ _ H2.out)).mono ?_
      rintro e w1 ⟨rfl, hb1⟩
      have hbl1 := hbl.trans (hb1.mono hbl.size)
      cases e1 : (l[k].author == au && l[k].round == ro)
      · have Hb := Lib.hid e1
        clear e1
        go_wp2
        go_roundw
        case rel => exact ⟨k + 1, by omega, by go_num, fun j hj hjk => by
          by_cases e : j = k
          · subst e; exact Hb.out
          · exact hno.out j hj (by omega), hbl1⟩
        case measure => simp [intOf]; omega
      · have Hb := Lib.hid e1
        clear e1
        go_wp2
        go_ret
        exact ⟨ret_int (slotAt_found hlt hno.out Hb.out).symm, hbl1⟩
    · go_wp2
      go_ret
      exact ⟨ret_int (slotAt_none fun j hj => hno.out j hj (by omega)).symm, hbl⟩
set_option maxHeartbeats 1000000 in
set_option maxRecDepth 100000 in
theorem find_any (vl : Value) (l : List Slot) (au ro : Int) (w : World) (hl : RSlots w.cell? vl l) :
    Calls Try.prog 37 #[vl, .int .i64 au, .int .i64 ro] w fun e w' => e = .returned (.int .i64 (slotAt l au ro)) ∧ Below w.heap.size w w' := by
  have hl' := hl.mono RSlot.mono (vle_below (below_pair w (.cells #[.int .i64 au] 3) (.cells #[.int .i64 ro] 3)))
  go_enter Try.func37, Try.ntmps37
  go_wp2_with fail
  refine (indexSlot_any _ _ au ro _ _ _ hl' (by go_simp) (by go_simp)).mono ?_
  rintro e w1 ⟨rfl, hb⟩
  go_wp2
  go_ret
  exact ⟨rfl, (below_pair _ _ _).trans (hb.mono (by simp; omega))⟩

def badSlot (l : List Slot) (i : Nat) : Bool := match l[i]? with | some s => slotF s.author s.round s.digest.length != 0 || decide (0 ≤ slotAt (l.take i) s.author s.round) | none => false
def tableF (l : List Slot) : Int := if 400 < l.length then 12 else if (List.range l.length).any (badSlot l) then 12 else 0
theorem badSlot_at {l : List Slot} {k : Nat} (hk : k < l.length) : badSlot l k = (slotF l[k].author l[k].round l[k].digest.length != 0 || decide (0 ≤ slotAt (l.take k) l[k].author l[k].round)) := by
  unfold badSlot; rw [List.getElem?_eq_getElem hk]
theorem RSlots.take {h : View} {A : Option Addr} {n c : Nat} {xs : List Slot} (hr : RSlots h (.slice A n c) xs) {k : Nat} (hk : k ≤ xs.length) : RSlots h (.slice A k c) (xs.take k) := by
  obtain ⟨A', c', e, h1, h2, h3, h4, h5⟩ := hr
  injection e with e1 e2 e3
  subst e1 e2 e3
  have hl : (xs.take k).length = k := by simp; omega
  refine ⟨A, c, by rw [hl], by omega, h2, ?_, h4, fun hp => ?_⟩
  · rw [hl]; exact Nat.le_trans (Nat.mul_le_mul_right _ hk) h3
  · obtain ⟨b, o, ea, hc⟩ := h5 (by omega)
    refine ⟨b, o, ea, fun i hi => ?_⟩
    rw [hl] at hi
    obtain ⟨cs, q1, q2, q3⟩ := hc i (by omega)
    exact ⟨cs, q1, q2, by rw [List.getElem_take]; exact q3⟩
set_option maxHeartbeats 2000000 in
set_option maxRecDepth 100000 in
theorem tableFault_any (v : Value) (l : List Slot) (w : World) (hv : RSlots w.cell? v l) :
    Calls Try.prog 40 #[v] w fun e w' => e = .returned (.int .i64 (tableF l)) ∧ Below w.heap.size w w' := by
  obtain ⟨A, c, rfl, _⟩ := id hv
  obtain ⟨_, hcap, hlen, hel⟩ := hv.at
  have Hel := Lib.hid hel
  have Hv := Lib.hid hv
  clear hel hv
  have hq : ∀ x, tableF l = x → Hid (tableF l = x) := fun x h => h
  by_cases hb : 400 < l.length
  · have Hq := hq 12 (by simp [tableF, hb])
    clear hq
    go_enter Try.func40, Try.ntmps40
    go_wp2
    go_ret
    exact ⟨ret_int Hq.out.symm, Below.refl _ _⟩
  have hq' : Hid (tableF l = if (List.range l.length).any (badSlot l) then 12 else 0) := by
    show _ = _
    simp only [tableF, if_neg hb]
  clear hq
  go_enter Try.func40, Try.ntmps40
  go_wp2
  go_loopw [3] (fun i wr => ∃ k : Nat, k ≤ l.length ∧ i = .int .i64 k ∧ Hid (∀ j, j < k → badSlot l j = false) ∧ Below w.heap.size w wr) (fun i _ => l.length - (intOf i).toNat)
  case atStart => exact ⟨0, Nat.zero_le _, rfl, fun j hj => by omega, Below.refl _ _⟩
  case round =>
    obtain ⟨k, hk, rfl, hok, hbl⟩ := hrel
    by_cases hlt : k < l.length
    · obtain ⟨b0, o0, d, rfl, e0, e1, e2, hd⟩ := Hel.out k hlt
      obtain ⟨dA, dc, rfl, _⟩ := id hd
      have c0 := vle_below hbl _ _ e0
      have c1 := vle_below hbl _ _ e1
      have c2 := vle_below hbl _ _ e2
      have Hsub := Lib.hid ((Hv.out.take (k := k) (by omega)).mono RSlot.mono (vle_below hbl))
      have Hbad := Lib.hid (badSlot_at hlt)
      have hkc : k ≤ c := by omega
      have hkc' : (k : Int) ≤ (c : Int) := by omega
      clear e0 e1 e2 hd
      cases ht : (slotF l[k].author l[k].round l[k].digest.length != 0)
      rotate_left
      · rw [ht, Bool.true_or] at Hbad
        go_wp2
        refine wp_region_plan (fun w' => Below wr.heap.size wr w') [(0, true), (1, true), (2, true), (3, true), (4, false), (5, true), (6, true), (7, true), (8, true), (9, true), (10, true), (11, true), (12, true), (13, true), (14, true), (15, true), (16, true), (17, true), (18, true), (19, true), (20, false), (21, true), (22, true)] (by kernel_rfl) (by kernel_rfl) (fun _ _ d _ _ h => by cases d <;> exact h) rfl (by kernel_rfl) ?_ ?_
        · exact below_drew _
        intro W1 hS
        repeat (first
          | (refine wpPlan_takes rfl rfl ?_; apply Exists.intro; refine ⟨fun w' hS => ?_, ?_⟩; (· (have h1 := vle_below hS _ _ c0; have h2 := vle_below hS _ _ c1; have h3 := vle_below hS _ _ c2; go_simp; exact rfl)); simp only [List.getElem_toArray, List.getElem_cons_zero, List.getElem_cons_succ, Act.put, List.setIfInBounds_toArray, List.set_cons_zero, List.set_cons_succ])
          | (refine wpPlan_skip (by assumption) rfl rfl ?_; simp only [List.getElem_toArray, List.getElem_cons_zero, List.getElem_cons_succ, Act.put, List.setIfInBounds_toArray, List.set_cons_zero, List.set_cons_succ]))
        refine wpPlan_do rfl rfl (fun K hK => ?_)
        try simp only [List.getElem_toArray, List.getElem_cons_zero, List.getElem_cons_succ]
        go_simp
        refine (slotFault_any _ _ _ _ _ _).mono ?_
        rintro e w1 ⟨rfl, hb1⟩
        refine hK.out _ _ (hS.trans (hb1.mono hS.size)) (fun hS => ?_)
        clear hK K
        try simp only [List.getElem_toArray, List.getElem_cons_zero, List.getElem_cons_succ, Act.put, List.setIfInBounds_toArray, List.set_cons_zero, List.set_cons_succ]
        repeat (first
          | (refine wpPlan_takes rfl rfl ?_; apply Exists.intro; refine ⟨fun w' hS => ?_, ?_⟩; (· (skip; go_simp; exact rfl)); simp only [List.getElem_toArray, List.getElem_cons_zero, List.getElem_cons_succ, Act.put, List.setIfInBounds_toArray, List.set_cons_zero, List.set_cons_succ])
          | (refine wpPlan_skip (by assumption) rfl rfl ?_; simp only [List.getElem_toArray, List.getElem_cons_zero, List.getElem_cons_succ, Act.put, List.setIfInBounds_toArray, List.set_cons_zero, List.set_cons_succ]))
        refine wpPlan_nil ?_
        go_wp2
        go_ret
        exact ⟨ret_int (by rw [hq'.out, any_range_true hlt Hbad.out]; rfl), hbl.trans (hS.mono hbl.size)⟩
      · rw [ht, Bool.false_or] at Hbad
        cases ht2 : decide (0 ≤ slotAt (l.take k) l[k].author l[k].round)
        all_goals
          rw [ht2] at Hbad
          go_wp2
          refine wp_region_plan (fun w' => Below wr.heap.size wr w') [(0, true), (1, true), (2, true), (3, true), (4, false), (5, true), (6, true), (7, true), (8, true), (9, true), (10, true), (11, true), (12, true), (13, true), (14, true), (15, true), (16, true), (17, true), (18, true), (19, true), (20, false), (21, true), (22, true)] (by kernel_rfl) (by kernel_rfl) (fun _ _ d _ _ h => by cases d <;> exact h) rfl (by kernel_rfl) ?_ ?_
          · exact below_drew _
          intro W1 hS
          repeat (first
            | (refine wpPlan_takes rfl rfl ?_; apply Exists.intro; refine ⟨fun w' hS => ?_, ?_⟩; (· (have h1 := vle_below hS _ _ c0; have h2 := vle_below hS _ _ c1; have h3 := vle_below hS _ _ c2; go_simp; exact rfl)); simp only [List.getElem_toArray, List.getElem_cons_zero, List.getElem_cons_succ, Act.put, List.setIfInBounds_toArray, List.set_cons_zero, List.set_cons_succ])
            | (refine wpPlan_skip (by assumption) rfl rfl ?_; simp only [List.getElem_toArray, List.getElem_cons_zero, List.getElem_cons_succ, Act.put, List.setIfInBounds_toArray, List.set_cons_zero, List.set_cons_succ]))
          refine wpPlan_do rfl rfl (fun K hK => ?_)
          try simp only [List.getElem_toArray, List.getElem_cons_zero, List.getElem_cons_succ]
          go_simp
          refine (slotFault_any _ _ _ _ _ _).mono ?_
          rintro e w1 ⟨rfl, hb1⟩
          refine hK.out _ _ (hS.trans (hb1.mono hS.size)) (fun hS => ?_)
          clear hK K
          try simp only [List.getElem_toArray, List.getElem_cons_zero, List.getElem_cons_succ, Act.put, List.setIfInBounds_toArray, List.set_cons_zero, List.set_cons_succ]
          repeat (first
            | (refine wpPlan_takes rfl rfl ?_; apply Exists.intro; refine ⟨fun w' hS => ?_, ?_⟩; (· (have h1 := vle_below hS _ _ c0; have h2 := vle_below hS _ _ c1; have h3 := vle_below hS _ _ c2; go_simp; exact rfl)); simp only [List.getElem_toArray, List.getElem_cons_zero, List.getElem_cons_succ, Act.put, List.setIfInBounds_toArray, List.set_cons_zero, List.set_cons_succ])
            | (refine wpPlan_skip (by assumption) rfl rfl ?_; simp only [List.getElem_toArray, List.getElem_cons_zero, List.getElem_cons_succ, Act.put, List.setIfInBounds_toArray, List.set_cons_zero, List.set_cons_succ]))
          refine wpPlan_do rfl rfl (fun K hK => ?_)
          try simp only [List.getElem_toArray, List.getElem_cons_zero, List.getElem_cons_succ]
          go_simp
          refine (slotAt_any _ (l.take k) _ _ _ (Hsub.out.mono RSlot.mono (vle_below hS))).mono ?_
          rintro e w' ⟨rfl, rfl⟩
          refine hK.out _ _ (hS) (fun hS => ?_)
          clear hK K
          try simp only [List.getElem_toArray, List.getElem_cons_zero, List.getElem_cons_succ, Act.put, List.setIfInBounds_toArray, List.set_cons_zero, List.set_cons_succ]
          repeat (first
            | (refine wpPlan_takes rfl rfl ?_; apply Exists.intro; refine ⟨fun w' hS => ?_, ?_⟩; (· (skip; go_simp; exact rfl)); simp only [List.getElem_toArray, List.getElem_cons_zero, List.getElem_cons_succ, Act.put, List.setIfInBounds_toArray, List.set_cons_zero, List.set_cons_succ])
            | (refine wpPlan_skip (by assumption) rfl rfl ?_; simp only [List.getElem_toArray, List.getElem_cons_zero, List.getElem_cons_succ, Act.put, List.setIfInBounds_toArray, List.set_cons_zero, List.set_cons_succ]))
          refine wpPlan_nil ?_
          go_wp2
        · go_roundw
          case rel => exact ⟨k + 1, by omega, by go_num, upto_succ hok.out Hbad.out, hbl.trans (hS.mono hbl.size)⟩
          case measure => simp [intOf]; omega
        · go_ret
          exact ⟨ret_int (by rw [hq'.out, any_range_true hlt Hbad.out]; rfl), hbl.trans (hS.mono hbl.size)⟩
    · go_wp2
      go_ret
      exact ⟨ret_int (by rw [hq'.out, any_range_false (fun j hj => hok.out j (by omega))]; rfl), hbl⟩
end Go.Proofs.Ytelfbgfggkhpjaa
