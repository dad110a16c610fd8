/- seal.Check and SignsFault answer one number; the law SealChecks. -/
import Derived.Test.YtelfbgfggkhpjaaSign2
namespace Go.Proofs.Ytelfbgfggkhpjaa
open Go.ChangeShapes Go.WideShapes Go.ChangeAt Go.RowKit
set_option linter.unusedVariables false
set_option maxHeartbeats 4000000 in
set_option maxRecDepth 100000 in
theorem hasFn_any (x s : Sign) (d sd : Value) (b1 : Nat) (w : World) (hblk : Blk w b1 47 #[.int .i64 s.node, .int .i64 s.slot.author, .int .i64 s.slot.round, sd]) (hd : RBytes w.cell? d x.slot.digest) (hsd : RBytes w.cell? sd s.slot.digest) :
    Calls Try.prog 72 #[.agg #[.int .i64 x.node, .int .i64 x.slot.author, .int .i64 x.slot.round, d], .pointer (some ⟨b1, 0, none⟩)] w fun e w' => e = .returned (.bool (eqSign x s)) ∧ Below w.heap.size w w' := by
  have hbb := below_one w (.cells #[.int .i64 x.node, .int .i64 x.slot.author, .int .i64 x.slot.round, d] 47)
  have hB := hblk.kept hbb
  have g0 := hB.cell 0
  have g1 := hB.cell 1
  have g2 := hB.cell 2
  have g3 := hB.cell 3
  simp at g0 g1 g2 g3
  have Hd := Lib.hid (hd.mono (vle_below hbb))
  have Hsd := Lib.hid (hsd.mono (vle_below hbb))
  clear hblk hd hsd hB
  cases t1 : (x.node == s.node)
  · have Hb := Lib.hid (eqSign_1 t1)
    go_enter Try.func72, Try.ntmps72
    go_wp2
    go_ret
    exact ⟨ret_bool Hb.out.symm, hbb⟩
  cases t2 : (x.slot.author == s.slot.author)
  · have Hb := Lib.hid (eqSign_2 t2)
    go_enter Try.func72, Try.ntmps72
    go_wp2
    go_ret
    exact ⟨ret_bool Hb.out.symm, hbb⟩
  cases t3 : (x.slot.round == s.slot.round)
  · have Hb := Lib.hid (eqSign_3 t3)
    go_enter Try.func72, Try.ntmps72
    go_wp2
    go_ret
    exact ⟨ret_bool Hb.out.symm, hbb⟩
  have Hb := Lib.hid (eqSign_4 t1 t2 t3)
  go_enter Try.func72, Try.ntmps72
  go_wp2_with fail
  refine (bytesEqual_any _ _ x.slot.digest s.slot.digest _ Hd.out Hsd.out).mono ?_
  rintro e w' ⟨rfl, rfl⟩
  go_wp2
  go_ret
  exact ⟨ret_bool Hb.out.symm, hbb⟩
set_option maxHeartbeats 2000000 in
set_option maxRecDepth 100000 in
theorem indexSign_any (vl : Value) (l : List Sign) (s : Sign) (sd : Value) (b1 : Nat) (w : World) (hl : RSigns w.cell? vl l) (hblk : Blk w b1 47 #[.int .i64 s.node, .int .i64 s.slot.author, .int .i64 s.slot.round, sd]) (hsd : RBytes w.cell? sd s.slot.digest) :
    Calls Try.prog 80 #[vl, .func (.func 72) #[] #[.pointer (some ⟨b1, 0, none⟩)]] w fun e w' => ∃ i : Int, e = .returned (.int .i64 i) ∧ decide (0 ≤ i) = hasSign l s ∧ Below w.heap.size w w' := by
  obtain ⟨A, c, rfl, _⟩ := id hl
  obtain ⟨_, hn1, hn2, hel⟩ := hl.at
  have Hel := Lib.hid hel
  have Hsd := Lib.hid hsd
  clear hl hel hsd
  go_enter Try.func80, Try.ntmps80
  go_wp2
  go_loopw [8] (fun i wr => ∃ k : Nat, k ≤ l.length ∧ i = .int .i64 k ∧ Hid (∀ j (hj : j < l.length), j < k → eqSign l[j] s = false) ∧ Below w.heap.size w wr) (fun i _ => l.length - (intOf i).toNat)
  case atStart => exact ⟨0, Nat.zero_le _, rfl, fun j _ hj => by omega, Below.refl _ _⟩
  case round =>
    obtain ⟨k, hk, rfl, hno, hbl⟩ := hrel
    by_cases hlt : k < l.length
    · obtain ⟨b0, o0, d, rfl, q0, q1, q2, q3, hd⟩ := Hel.out k hlt
      have c0 := vle_below hbl _ _ q0
      have c1 := vle_below hbl _ _ q1
      have c2 := vle_below hbl _ _ q2
      have c3 := vle_below hbl _ _ q3
      have Hd := Lib.hid (hd.mono (vle_below hbl))
      clear hd q0 q1 q2 q3
      go_wp2_with fail
      refine (hasFn_any l[k] s d sd b1 _ (hblk.kept hbl) Hd.out (Hsd.out.mono (vle_below hbl))).mono ?_
      rintro e w1 ⟨rfl, hb1⟩
      have hbl1 := hbl.trans (hb1.mono hbl.size)
      cases e1 : eqSign l[k] s
      · have Hb := Lib.hid e1
        clear e1
        go_wp2
        go_roundw
        case rel => exact ⟨k + 1, by omega, by go_num, fun j hj hjk => by
          by_cases e : j = k
          · subst e; exact Hb.out
          · exact hno.out j hj (by omega), hbl1⟩
        case measure => simp [intOf]; omega
      · have Hb := Lib.hid e1
        clear e1
        go_wp2
        go_ret
        exact ⟨(k : Int), rfl, by rw [show hasSign l s = true from any_true_get hlt Hb.out]; simp, hbl1⟩
    · go_wp2
      go_ret
      exact ⟨-1, rfl, by rw [show hasSign l s = false from any_false_get fun j hj => hno.out j hj (by omega)]; rfl, hbl⟩
set_option maxHeartbeats 1000000 in
set_option maxRecDepth 100000 in
theorem containsSign_any (vl : Value) (l : List Sign) (s : Sign) (sd : Value) (b1 : Nat) (w : World) (hl : RSigns w.cell? vl l) (hblk : Blk w b1 47 #[.int .i64 s.node, .int .i64 s.slot.author, .int .i64 s.slot.round, sd]) (hsd : RBytes w.cell? sd s.slot.digest) :
    Calls Try.prog 71 #[vl, .func (.func 72) #[] #[.pointer (some ⟨b1, 0, none⟩)]] w fun e w' => e = .returned (.bool (hasSign l s)) ∧ Below w.heap.size w w' := by
  go_enter Try.func71, Try.ntmps71
  go_wp2_with fail
  refine (indexSign_any vl l s sd b1 _ hl hblk hsd).mono ?_
  rintro e w1 ⟨i, rfl, hi, hb⟩
  by_cases h0 : 0 ≤ i
  · have Hq : Hid (hasSign l s = true) := hi.symm.trans (decide_eq_true h0)
    clear hi
    go_wp2
    go_ret
    exact ⟨ret_bool Hq.out.symm, hb⟩
  · have Hq : Hid (hasSign l s = false) := hi.symm.trans (decide_eq_false h0)
    clear hi
    go_wp2
    go_ret
    exact ⟨ret_bool (by rw [Hq.out]; simp [h0]), hb⟩
set_option maxHeartbeats 1000000 in
set_option maxRecDepth 100000 in
theorem sealHas_any (vl : Value) (l : List Sign) (s : Sign) (sd : Value) (w : World) (hl : RSigns w.cell? vl l) (hsd : RBytes w.cell? sd s.slot.digest) :
    Calls Try.prog 46 #[vl, .agg #[.int .i64 s.node, .int .i64 s.slot.author, .int .i64 s.slot.round, sd]] w fun e w' => e = .returned (.bool (hasSign l s)) ∧ Below w.heap.size w w' := by
  go_enter Try.func46, Try.ntmps46
  go_wp2_with fail
  refine one_block _ _ _ (fun W => Calls Try.prog _ _ W _) (fun W hb1 hsz hbw => ?_)
  refine (containsSign_any _ l s sd _ _ (hl.mono RSign.mono (vle_below hbw)) hb1 (hsd.mono (vle_below hbw))).mono ?_
  rintro e w1 ⟨rfl, hb⟩
  go_wp2
  go_ret
  exact ⟨rfl, hbw.trans (hb.mono (by omega))⟩

def badSign (l : List Sign) (i : Nat) : Bool := match l[i]? with | some s => signF s.node s.slot.author s.slot.round s.slot.digest.length != 0 || hasSign (l.take i) s | none => false
def signsF (l : List Sign) : Int := if (List.range l.length).any (badSign l) then 12 else 0
theorem badSign_at {l : List Sign} {k : Nat} (hk : k < l.length) : badSign l k = (signF l[k].node l[k].slot.author l[k].slot.round l[k].slot.digest.length != 0 || hasSign (l.take k) l[k]) := by
  unfold badSign; rw [List.getElem?_eq_getElem hk]
set_option maxHeartbeats 2000000 in
set_option maxRecDepth 100000 in
theorem signsFault_any (v : Value) (l : List Sign) (w : World) (hv : RSigns w.cell? v l) :
    Calls Try.prog 48 #[v] w fun e w' => e = .returned (.int .i64 (signsF l)) ∧ Below w.heap.size w w' := by
  obtain ⟨A, c, rfl, _⟩ := id hv
  obtain ⟨_, hcap, hlen, hel⟩ := hv.at
  have Hel := Lib.hid hel
  have Hv := Lib.hid hv
  clear hel hv
  have hq' : Hid (signsF l = if (List.range l.length).any (badSign l) then 12 else 0) := rfl
  go_enter Try.func48, Try.ntmps48
  go_wp2
  go_loopw [3] (fun i wr => ∃ k : Nat, k ≤ l.length ∧ i = .int .i64 k ∧ Hid (∀ j, j < k → badSign l j = false) ∧ Below w.heap.size w wr) (fun i _ => l.length - (intOf i).toNat)
  case atStart => exact ⟨0, Nat.zero_le _, rfl, fun j hj => by omega, Below.refl _ _⟩
  case round =>
    obtain ⟨k, hk, rfl, hok, hbl⟩ := hrel
    by_cases hlt : k < l.length
    · obtain ⟨b0, o0, d, rfl, e0, e1, e2, e3, hd⟩ := Hel.out k hlt
      obtain ⟨dA, dc, rfl, _⟩ := id hd
      have c0 := vle_below hbl _ _ e0
      have c1 := vle_below hbl _ _ e1
      have c2 := vle_below hbl _ _ e2
      have c3 := vle_below hbl _ _ e3
      have Hd := Lib.hid (hd.mono (vle_below hbl))
      have Hsub := Lib.hid ((Hv.out.take (k := k) (by omega)).mono RSign.mono (vle_below hbl))
      have Hbad := Lib.hid (badSign_at hlt)
      have hkc : k ≤ c := by omega
      have hkc' : (k : Int) ≤ (c : Int) := by omega
      clear e0 e1 e2 e3 hd
      cases ht : (signF l[k].node l[k].slot.author l[k].slot.round l[k].slot.digest.length != 0)
      rotate_left
      · rw [ht, Bool.true_or] at Hbad
        go_wp2
        refine wp_region_plan (fun w' => Below wr.heap.size wr w') [(0, true), (1, true), (2, true), (3, true), (4, false), (5, true), (6, true), (7, true), (8, true), (9, true), (10, true), (11, true), (12, true), (13, true), (14, false), (15, true)] (by kernel_rfl) (by kernel_rfl) (fun _ _ d _ _ h => by cases d <;> exact h) rfl (by kernel_rfl) ?_ ?_
        · exact below_drew _
        intro W1 hS
        repeat (first
          | (refine wpPlan_takes rfl rfl ?_; apply Exists.intro; refine ⟨fun w' hS => ?_, ?_⟩; (· (have h1 := vle_below hS _ _ c0; have h2 := vle_below hS _ _ c1; have h3 := vle_below hS _ _ c2; have h4 := vle_below hS _ _ c3; go_simp; exact rfl)); simp only [List.getElem_toArray, List.getElem_cons_zero, List.getElem_cons_succ, Act.put, List.setIfInBounds_toArray, List.set_cons_zero, List.set_cons_succ])
          | (refine wpPlan_skip (by assumption) rfl rfl ?_; simp only [List.getElem_toArray, List.getElem_cons_zero, List.getElem_cons_succ, Act.put, List.setIfInBounds_toArray, List.set_cons_zero, List.set_cons_succ]))
        refine wpPlan_do rfl rfl (fun K hK => ?_)
        try simp only [List.getElem_toArray, List.getElem_cons_zero, List.getElem_cons_succ]
        go_simp
        refine (signFault_any _ _ _ _ _ _ _).mono ?_
        rintro e w1 ⟨rfl, hb1⟩
        refine hK.out _ _ (hS.trans (hb1.mono hS.size)) (fun hS => ?_)
        clear hK K
        try simp only [List.getElem_toArray, List.getElem_cons_zero, List.getElem_cons_succ, Act.put, List.setIfInBounds_toArray, List.set_cons_zero, List.set_cons_succ]
        repeat (first
          | (refine wpPlan_takes rfl rfl ?_; apply Exists.intro; refine ⟨fun w' hS => ?_, ?_⟩; (· (skip; go_simp; exact rfl)); simp only [List.getElem_toArray, List.getElem_cons_zero, List.getElem_cons_succ, Act.put, List.setIfInBounds_toArray, List.set_cons_zero, List.set_cons_succ])
          | (refine wpPlan_skip (by assumption) rfl rfl ?_; simp only [List.getElem_toArray, List.getElem_cons_zero, List.getElem_cons_succ, Act.put, List.setIfInBounds_toArray, List.set_cons_zero, List.set_cons_succ]))
        refine wpPlan_nil ?_
        go_wp2
        go_ret
        exact ⟨ret_int (by rw [hq'.out, any_range_true hlt Hbad.out]; rfl), hbl.trans (hS.mono hbl.size)⟩
      · rw [ht, Bool.false_or] at Hbad
        cases ht2 : hasSign (l.take k) l[k]
        all_goals
          rw [ht2] at Hbad
          go_wp2
          refine wp_region_plan (fun w' => Below wr.heap.size wr w') [(0, true), (1, true), (2, true), (3, true), (4, false), (5, true), (6, true), (7, true), (8, true), (9, true), (10, true), (11, true), (12, true), (13, true), (14, false), (15, true)] (by kernel_rfl) (by kernel_rfl) (fun _ _ d _ _ h => by cases d <;> exact h) rfl (by kernel_rfl) ?_ ?_
          · exact below_drew _
          intro W1 hS
          repeat (first
            | (refine wpPlan_takes rfl rfl ?_; apply Exists.intro; refine ⟨fun w' hS => ?_, ?_⟩; (· (have h1 := vle_below hS _ _ c0; have h2 := vle_below hS _ _ c1; have h3 := vle_below hS _ _ c2; have h4 := vle_below hS _ _ c3; go_simp; exact rfl)); simp only [List.getElem_toArray, List.getElem_cons_zero, List.getElem_cons_succ, Act.put, List.setIfInBounds_toArray, List.set_cons_zero, List.set_cons_succ])
            | (refine wpPlan_skip (by assumption) rfl rfl ?_; simp only [List.getElem_toArray, List.getElem_cons_zero, List.getElem_cons_succ, Act.put, List.setIfInBounds_toArray, List.set_cons_zero, List.set_cons_succ]))
          refine wpPlan_do rfl rfl (fun K hK => ?_)
          try simp only [List.getElem_toArray, List.getElem_cons_zero, List.getElem_cons_succ]
          go_simp
          refine (signFault_any _ _ _ _ _ _ _).mono ?_
          rintro e w1 ⟨rfl, hb1⟩
          refine hK.out _ _ (hS.trans (hb1.mono hS.size)) (fun hS => ?_)
          clear hK K
          try simp only [List.getElem_toArray, List.getElem_cons_zero, List.getElem_cons_succ, Act.put, List.setIfInBounds_toArray, List.set_cons_zero, List.set_cons_succ]
          repeat (first
            | (refine wpPlan_takes rfl rfl ?_; apply Exists.intro; refine ⟨fun w' hS => ?_, ?_⟩; (· (have h1 := vle_below hS _ _ c0; have h2 := vle_below hS _ _ c1; have h3 := vle_below hS _ _ c2; have h4 := vle_below hS _ _ c3; go_simp; exact rfl)); simp only [List.getElem_toArray, List.getElem_cons_zero, List.getElem_cons_succ, Act.put, List.setIfInBounds_toArray, List.set_cons_zero, List.set_cons_succ])
            | (refine wpPlan_skip (by assumption) rfl rfl ?_; simp only [List.getElem_toArray, List.getElem_cons_zero, List.getElem_cons_succ, Act.put, List.setIfInBounds_toArray, List.set_cons_zero, List.set_cons_succ]))
          refine wpPlan_do rfl rfl (fun K hK => ?_)
          try simp only [List.getElem_toArray, List.getElem_cons_zero, List.getElem_cons_succ]
          go_simp
          refine (hasSign_any _ (l.take k) l[k] _ _ (Hsub.out.mono RSign.mono (vle_below hS)) (Hd.out.mono (vle_below hS))).mono ?_
          rintro e w2 ⟨rfl, hb2⟩
          simp only [ht2]
          refine hK.out _ _ (hS.trans (hb2.mono hS.size)) (fun hS => ?_)
          clear hK K
          try simp only [List.getElem_toArray, List.getElem_cons_zero, List.getElem_cons_succ, Act.put, List.setIfInBounds_toArray, List.set_cons_zero, List.set_cons_succ]
          repeat (first
            | (refine wpPlan_takes rfl rfl ?_; apply Exists.intro; refine ⟨fun w' hS => ?_, ?_⟩; (· (skip; go_simp; exact rfl)); simp only [List.getElem_toArray, List.getElem_cons_zero, List.getElem_cons_succ, Act.put, List.setIfInBounds_toArray, List.set_cons_zero, List.set_cons_succ])
            | (refine wpPlan_skip (by assumption) rfl rfl ?_; simp only [List.getElem_toArray, List.getElem_cons_zero, List.getElem_cons_succ, Act.put, List.setIfInBounds_toArray, List.set_cons_zero, List.set_cons_succ]))
          refine wpPlan_nil ?_
          go_wp2
        · go_roundw
          case rel => exact ⟨k + 1, by omega, by go_num, upto_succ hok.out Hbad.out, hbl.trans (hS.mono hbl.size)⟩
          case measure => simp [intOf]; omega
        · go_ret
          exact ⟨ret_int (by rw [hq'.out, any_range_true hlt Hbad.out]; rfl), hbl.trans (hS.mono hbl.size)⟩
    · go_wp2
      go_ret
      exact ⟨ret_int (by rw [hq'.out, any_range_false (fun j hj => hok.out j (by omega))]; rfl), hbl⟩
set_option maxHeartbeats 2000000 in
set_option maxRecDepth 100000 in
theorem sealCheck_any (v : Value) (l : List Sign) (w : World) (hv : RSigns w.cell? v l) :
    Calls Try.prog 43 #[v] w fun e w' => e = .returned (.int .i64 (signsF l)) ∧ Below w.heap.size w w' := by
  obtain ⟨A, c, rfl, _⟩ := id hv
  obtain ⟨_, hcap, hlen, hel⟩ := hv.at
  have Hel := Lib.hid hel
  have Hv := Lib.hid hv
  clear hel hv
  have hq' : Hid (signsF l = if (List.range l.length).any (badSign l) then 12 else 0) := rfl
  go_enter Try.func43, Try.ntmps43
  go_wp2
  go_loopw [7] (fun i wr => ∃ k : Nat, k ≤ l.length ∧ i = .int .i64 k ∧ Hid (∀ j, j < k → badSign l j = false) ∧ Below w.heap.size w wr) (fun i _ => l.length - (intOf i).toNat)
  case atStart => exact ⟨0, Nat.zero_le _, rfl, fun j hj => by omega, Below.refl _ _⟩
  case round =>
    obtain ⟨k, hk, rfl, hok, hbl⟩ := hrel
    by_cases hlt : k < l.length
    · obtain ⟨b0, o0, d, rfl, e0, e1, e2, e3, hd⟩ := Hel.out k hlt
      obtain ⟨dA, dc, rfl, _⟩ := id hd
      have c0 := vle_below hbl _ _ e0
      have c1 := vle_below hbl _ _ e1
      have c2 := vle_below hbl _ _ e2
      have c3 := vle_below hbl _ _ e3
      have Hd := Lib.hid (hd.mono (vle_below hbl))
      have Hsub := Lib.hid ((Hv.out.take (k := k) (by omega)).mono RSign.mono (vle_below hbl))
      have Hbad := Lib.hid (badSign_at hlt)
      have hkc : k ≤ c := by omega
      have hkc' : (k : Int) ≤ (c : Int) := by omega
      clear e0 e1 e2 e3 hd
      cases ht : (signF l[k].node l[k].slot.author l[k].slot.round l[k].slot.digest.length != 0)
      rotate_left
      · rw [ht, Bool.true_or] at Hbad
        go_wp2
        refine one_block _ _ _ (fun W => (Code.region _ _ _).wp _ _ _ W) (fun W hb1 hsz hbw => ?_)
        have hbl2 : Below w.heap.size w W := hbl.trans (hbw.mono hbl.size)
        refine wp_region_plan (fun w' => Below W.heap.size W w') [(0, true), (1, false), (2, true), (3, true), (4, true), (5, true), (6, true), (7, true), (8, false), (9, true)] (by kernel_rfl) (by kernel_rfl) (fun _ _ d _ _ h => by cases d <;> exact h) rfl (by kernel_rfl) ?_ ?_
        · exact below_drew _
        intro W1 hS
        repeat (first
          | (refine wpPlan_takes rfl rfl ?_; apply Exists.intro; refine ⟨fun w' hS => ?_, ?_⟩; (· (have hq := hb1.kept hS; have h0 := hq.cell 0; have h1 := hq.cell 1; have h2 := hq.cell 2; have h3 := hq.cell 3; simp at h0 h1 h2 h3; go_simp; exact rfl)); simp only [List.getElem_toArray, List.getElem_cons_zero, List.getElem_cons_succ, Act.put, List.setIfInBounds_toArray, List.set_cons_zero, List.set_cons_succ])
          | (refine wpPlan_skip (by assumption) rfl rfl ?_; simp only [List.getElem_toArray, List.getElem_cons_zero, List.getElem_cons_succ, Act.put, List.setIfInBounds_toArray, List.set_cons_zero, List.set_cons_succ]))
        refine wpPlan_do rfl rfl (fun K hK => ?_)
        try simp only [List.getElem_toArray, List.getElem_cons_zero, List.getElem_cons_succ]
        go_simp
        refine (sealSign_any _ _ _ _ _ _ _).mono ?_
        rintro e w1 ⟨rfl, hb1'⟩
        refine hK.out _ _ (hS.trans (hb1'.mono hS.size)) (fun hS => ?_)
        clear hK K
        try simp only [List.getElem_toArray, List.getElem_cons_zero, List.getElem_cons_succ, Act.put, List.setIfInBounds_toArray, List.set_cons_zero, List.set_cons_succ]
        repeat (first
          | (refine wpPlan_takes rfl rfl ?_; apply Exists.intro; refine ⟨fun w' hS => ?_, ?_⟩; (· (skip; go_simp; exact rfl)); simp only [List.getElem_toArray, List.getElem_cons_zero, List.getElem_cons_succ, Act.put, List.setIfInBounds_toArray, List.set_cons_zero, List.set_cons_succ])
          | (refine wpPlan_skip (by assumption) rfl rfl ?_; simp only [List.getElem_toArray, List.getElem_cons_zero, List.getElem_cons_succ, Act.put, List.setIfInBounds_toArray, List.set_cons_zero, List.set_cons_succ]))
        refine wpPlan_nil ?_
        go_wp2
        go_ret
        exact ⟨ret_int (by rw [hq'.out, any_range_true hlt Hbad.out]; rfl), hbl2.trans (hS.mono hbl2.size)⟩
      · rw [ht, Bool.false_or] at Hbad
        cases ht2 : hasSign (l.take k) l[k]
        all_goals
          rw [ht2] at Hbad
          go_wp2
          refine one_block _ _ _ (fun W => (Code.region _ _ _).wp _ _ _ W) (fun W hb1 hsz hbw => ?_)
          have hbl2 : Below w.heap.size w W := hbl.trans (hbw.mono hbl.size)
          refine wp_region_plan (fun w' => Below W.heap.size W w') [(0, true), (1, false), (2, true), (3, true), (4, true), (5, true), (6, true), (7, true), (8, false), (9, true)] (by kernel_rfl) (by kernel_rfl) (fun _ _ d _ _ h => by cases d <;> exact h) rfl (by kernel_rfl) ?_ ?_
          · exact below_drew _
          intro W1 hS
          repeat (first
            | (refine wpPlan_takes rfl rfl ?_; apply Exists.intro; refine ⟨fun w' hS => ?_, ?_⟩; (· (have hq := hb1.kept hS; have h0 := hq.cell 0; have h1 := hq.cell 1; have h2 := hq.cell 2; have h3 := hq.cell 3; simp at h0 h1 h2 h3; go_simp; exact rfl)); simp only [List.getElem_toArray, List.getElem_cons_zero, List.getElem_cons_succ, Act.put, List.setIfInBounds_toArray, List.set_cons_zero, List.set_cons_succ])
            | (refine wpPlan_skip (by assumption) rfl rfl ?_; simp only [List.getElem_toArray, List.getElem_cons_zero, List.getElem_cons_succ, Act.put, List.setIfInBounds_toArray, List.set_cons_zero, List.set_cons_succ]))
          refine wpPlan_do rfl rfl (fun K hK => ?_)
          try simp only [List.getElem_toArray, List.getElem_cons_zero, List.getElem_cons_succ]
          go_simp
          refine (sealSign_any _ _ _ _ _ _ _).mono ?_
          rintro e w1 ⟨rfl, hb1'⟩
          refine hK.out _ _ (hS.trans (hb1'.mono hS.size)) (fun hS => ?_)
          clear hK K
          try simp only [List.getElem_toArray, List.getElem_cons_zero, List.getElem_cons_succ, Act.put, List.setIfInBounds_toArray, List.set_cons_zero, List.set_cons_succ]
          repeat (first
            | (refine wpPlan_takes rfl rfl ?_; apply Exists.intro; refine ⟨fun w' hS => ?_, ?_⟩; (· (have hq := hb1.kept hS; have h0 := hq.cell 0; have h1 := hq.cell 1; have h2 := hq.cell 2; have h3 := hq.cell 3; simp at h0 h1 h2 h3; go_simp; exact rfl)); simp only [List.getElem_toArray, List.getElem_cons_zero, List.getElem_cons_succ, Act.put, List.setIfInBounds_toArray, List.set_cons_zero, List.set_cons_succ])
            | (refine wpPlan_skip (by assumption) rfl rfl ?_; simp only [List.getElem_toArray, List.getElem_cons_zero, List.getElem_cons_succ, Act.put, List.setIfInBounds_toArray, List.set_cons_zero, List.set_cons_succ]))
          refine wpPlan_do rfl rfl (fun K hK => ?_)
          try simp only [List.getElem_toArray, List.getElem_cons_zero, List.getElem_cons_succ]
          go_simp
          refine (sealHas_any _ (l.take k) l[k] _ _ (Hsub.out.mono RSign.mono (vle_below (hbw.trans (hS.mono (by omega))))) (Hd.out.mono (vle_below (hbw.trans (hS.mono (by omega)))))).mono ?_
          rintro e w2 ⟨rfl, hb2⟩
          simp only [ht2]
          refine hK.out _ _ (hS.trans (hb2.mono hS.size)) (fun hS => ?_)
          clear hK K
          try simp only [List.getElem_toArray, List.getElem_cons_zero, List.getElem_cons_succ, Act.put, List.setIfInBounds_toArray, List.set_cons_zero, List.set_cons_succ]
          repeat (first
            | (refine wpPlan_takes rfl rfl ?_; apply Exists.intro; refine ⟨fun w' hS => ?_, ?_⟩; (· (skip; go_simp; exact rfl)); simp only [List.getElem_toArray, List.getElem_cons_zero, List.getElem_cons_succ, Act.put, List.setIfInBounds_toArray, List.set_cons_zero, List.set_cons_succ])
            | (refine wpPlan_skip (by assumption) rfl rfl ?_; simp only [List.getElem_toArray, List.getElem_cons_zero, List.getElem_cons_succ, Act.put, List.setIfInBounds_toArray, List.set_cons_zero, List.set_cons_succ]))
          refine wpPlan_nil ?_
          go_wp2
        · go_roundw
          case rel => exact ⟨k + 1, by omega, by go_num, upto_succ hok.out Hbad.out, hbl2.trans (hS.mono hbl2.size)⟩
          case measure => simp [intOf]; omega
        · go_ret
          exact ⟨ret_int (by rw [hq'.out, any_range_true hlt Hbad.out]; rfl), hbl2.trans (hS.mono hbl2.size)⟩
    · go_wp2
      go_ret
      exact ⟨ret_int (by rw [hq'.out, any_range_false (fun j hj => hok.out j (by omega))]; rfl), hbl⟩
end Go.Proofs.Ytelfbgfggkhpjaa
