/- The search for a sign; Check and SignsFault answer one number. -/
import Derived.Test.YtelfbgfggkhpjaaSign
namespace Go.Proofs.Ytelfbgfggkhpjaa
open Go.ChangeShapes Go.WideShapes Go.ChangeAt Go.RowKit
set_option linter.unusedVariables false
def eqSign (x s : Sign) : Bool := x.node == s.node && (x.slot.author == s.slot.author && (x.slot.round == s.slot.round && x.slot.digest == s.slot.digest))
def hasSign (l : List Sign) (s : Sign) : Bool := l.any fun x => eqSign x s
theorem eqSign_1 {x s : Sign} (h : (x.node == s.node) = false) : eqSign x s = false := by simp [eqSign, h]
theorem eqSign_2 {x s : Sign} (h : (x.slot.author == s.slot.author) = false) : eqSign x s = false := by simp [eqSign, h]
theorem eqSign_3 {x s : Sign} (h : (x.slot.round == s.slot.round) = false) : eqSign x s = false := by simp [eqSign, h]
theorem eqSign_4 {x s : Sign} (h1 : (x.node == s.node) = true) (h2 : (x.slot.author == s.slot.author) = true) (h3 : (x.slot.round == s.slot.round) = true) : eqSign x s = (x.slot.digest == s.slot.digest) := by simp [eqSign, h1, h2, h3]
set_option maxHeartbeats 4000000 in
set_option maxRecDepth 100000 in
theorem hasSign_any (v : Value) (l : List Sign) (s : Sign) (sd : Value) (w : World) (hv : RSigns w.cell? v l) (hsd : RBytes w.cell? sd s.slot.digest) :
    Calls Try.prog 50 #[v, .agg #[.int .i64 s.node, .int .i64 s.slot.author, .int .i64 s.slot.round, sd]] w fun e w' => e = .returned (.bool (hasSign l s)) ∧ Below w.heap.size w w' := by
  obtain ⟨A, c, rfl, _⟩ := id hv
  obtain ⟨_, hcap, hlen, hel⟩ := hv.at
  have Hel := Lib.hid hel
  have Hsd := Lib.hid hsd
  clear hel hv hsd
  go_enter Try.func50, Try.ntmps50
  go_wp2
  go_loopw [5] (fun i wr => ∃ k : Nat, k ≤ l.length ∧ i = .int .i64 k ∧ Hid (∀ j (hj : j < l.length), j < k → eqSign l[j] s = false) ∧ Blk wr w.heap.size 47 #[.int .i64 s.node, .int .i64 s.slot.author, .int .i64 s.slot.round, sd] ∧ Below w.heap.size w wr) (fun i _ => l.length - (intOf i).toNat)
  case atStart => exact ⟨0, Nat.zero_le _, rfl, fun j _ hj => by omega, Blk.new _ _ _, below_one _ _⟩
  case round =>
    obtain ⟨k, hk, rfl, hok, hblk, hbl⟩ := hrel
    by_cases hlt : k < l.length
    · obtain ⟨b0, o0, d, rfl, e0, e1, e2, e3, hd⟩ := Hel.out k hlt
      have c0 := vle_below hbl _ _ e0
      have c1 := vle_below hbl _ _ e1
      have c2 := vle_below hbl _ _ e2
      have c3 := vle_below hbl _ _ e3
      have Hd := Lib.hid (hd.mono (vle_below hbl))
      clear e0 e1 e2 e3 hd
      cases t1 : (l[k].node == s.node)
      · have Hb := Lib.hid (eqSign_1 (x := l[k]) t1)
        go_wp2
        refine wp_region_plan (fun w' => Below wr.heap.size wr w') [(0, true), (1, true), (2, true), (3, true), (4, true), (5, true), (6, true), (7, true), (8, true), (9, true), (10, true), (11, true), (12, true), (13, true), (14, true), (15, true), (16, true), (17, true), (18, true), (19, true), (20, true), (21, true), (22, true), (23, true), (24, true), (25, true), (26, true), (27, true), (28, true), (29, true), (30, true), (31, true), (32, true), (33, true), (34, true), (35, true), (36, true), (37, true), (38, true), (39, true), (40, true), (41, true), (42, false), (43, true)] (by kernel_rfl) (by kernel_rfl) (fun _ _ d _ _ h => by cases d <;> exact h) rfl (by kernel_rfl) ?_ ?_
        · exact below_drew _
        intro W1 hS
        repeat (first
          | (refine wpPlan_takes rfl rfl ?_; apply Exists.intro; refine ⟨fun w' hS => ?_, ?_⟩; (· (have hq := hblk.kept hS; have g0 := hq.cell 0; have g1 := hq.cell 1; have g2 := hq.cell 2; have g3 := hq.cell 3; simp at g0 g1 g2 g3; have h1 := vle_below hS _ _ c0; have h2 := vle_below hS _ _ c1; have h3 := vle_below hS _ _ c2; have h4 := vle_below hS _ _ c3; go_simp; exact rfl)); simp only [List.getElem_toArray, List.getElem_cons_zero, List.getElem_cons_succ, Act.put, List.setIfInBounds_toArray, List.set_cons_zero, List.set_cons_succ])
          | (refine wpPlan_skip (by assumption) rfl rfl ?_; simp only [List.getElem_toArray, List.getElem_cons_zero, List.getElem_cons_succ, Act.put, List.setIfInBounds_toArray, List.set_cons_zero, List.set_cons_succ]))
        refine wpPlan_nil ?_
        go_wp2
        go_roundw
        case rel => exact ⟨k + 1, by omega, by go_num, fun j hj hjk => by
          by_cases e : j = k
          · subst e; exact Hb.out
          · exact hok.out j hj (by omega), hblk.kept hS, hbl.trans (hS.mono hbl.size)⟩
        case measure => simp [intOf]; omega
      cases t2 : (l[k].slot.author == s.slot.author)
      · have Hb := Lib.hid (eqSign_2 (x := l[k]) t2)
        go_wp2
        refine wp_region_plan (fun w' => Below wr.heap.size wr w') [(0, true), (1, true), (2, true), (3, true), (4, true), (5, true), (6, true), (7, true), (8, true), (9, true), (10, true), (11, true), (12, true), (13, true), (14, true), (15, true), (16, true), (17, true), (18, true), (19, true), (20, true), (21, true), (22, true), (23, true), (24, true), (25, true), (26, true), (27, true), (28, true), (29, true), (30, true), (31, true), (32, true), (33, true), (34, true), (35, true), (36, true), (37, true), (38, true), (39, true), (40, true), (41, true), (42, false), (43, true)] (by kernel_rfl) (by kernel_rfl) (fun _ _ d _ _ h => by cases d <;> exact h) rfl (by kernel_rfl) ?_ ?_
        · exact below_drew _
        intro W1 hS
        repeat (first
          | (refine wpPlan_takes rfl rfl ?_; apply Exists.intro; refine ⟨fun w' hS => ?_, ?_⟩; (· (have hq := hblk.kept hS; have g0 := hq.cell 0; have g1 := hq.cell 1; have g2 := hq.cell 2; have g3 := hq.cell 3; simp at g0 g1 g2 g3; have h1 := vle_below hS _ _ c0; have h2 := vle_below hS _ _ c1; have h3 := vle_below hS _ _ c2; have h4 := vle_below hS _ _ c3; go_simp; exact rfl)); simp only [List.getElem_toArray, List.getElem_cons_zero, List.getElem_cons_succ, Act.put, List.setIfInBounds_toArray, List.set_cons_zero, List.set_cons_succ])
          | (refine wpPlan_skip (by assumption) rfl rfl ?_; simp only [List.getElem_toArray, List.getElem_cons_zero, List.getElem_cons_succ, Act.put, List.setIfInBounds_toArray, List.set_cons_zero, List.set_cons_succ]))
        refine wpPlan_nil ?_
        go_wp2
        go_roundw
        case rel => exact ⟨k + 1, by omega, by go_num, fun j hj hjk => by
          by_cases e : j = k
          · subst e; exact Hb.out
          · exact hok.out j hj (by omega), hblk.kept hS, hbl.trans (hS.mono hbl.size)⟩
        case measure => simp [intOf]; omega
      cases t3 : (l[k].slot.round == s.slot.round)
      · have Hb := Lib.hid (eqSign_3 (x := l[k]) t3)
        go_wp2
        refine wp_region_plan (fun w' => Below wr.heap.size wr w') [(0, true), (1, true), (2, true), (3, true), (4, true), (5, true), (6, true), (7, true), (8, true), (9, true), (10, true), (11, true), (12, true), (13, true), (14, true), (15, true), (16, true), (17, true), (18, true), (19, true), (20, true), (21, true), (22, true), (23, true), (24, true), (25, true), (26, true), (27, true), (28, true), (29, true), (30, true), (31, true), (32, true), (33, true), (34, true), (35, true), (36, true), (37, true), (38, true), (39, true), (40, true), (41, true), (42, false), (43, true)] (by kernel_rfl) (by kernel_rfl) (fun _ _ d _ _ h => by cases d <;> exact h) rfl (by kernel_rfl) ?_ ?_
        · exact below_drew _
        intro W1 hS
        repeat (first
          | (refine wpPlan_takes rfl rfl ?_; apply Exists.intro; refine ⟨fun w' hS => ?_, ?_⟩; (· (have hq := hblk.kept hS; have g0 := hq.cell 0; have g1 := hq.cell 1; have g2 := hq.cell 2; have g3 := hq.cell 3; simp at g0 g1 g2 g3; have h1 := vle_below hS _ _ c0; have h2 := vle_below hS _ _ c1; have h3 := vle_below hS _ _ c2; have h4 := vle_below hS _ _ c3; go_simp; exact rfl)); simp only [List.getElem_toArray, List.getElem_cons_zero, List.getElem_cons_succ, Act.put, List.setIfInBounds_toArray, List.set_cons_zero, List.set_cons_succ])
          | (refine wpPlan_skip (by assumption) rfl rfl ?_; simp only [List.getElem_toArray, List.getElem_cons_zero, List.getElem_cons_succ, Act.put, List.setIfInBounds_toArray, List.set_cons_zero, List.set_cons_succ]))
        refine wpPlan_nil ?_
        go_wp2
        go_roundw
        case rel => exact ⟨k + 1, by omega, by go_num, fun j hj hjk => by
          by_cases e : j = k
          · subst e; exact Hb.out
          · exact hok.out j hj (by omega), hblk.kept hS, hbl.trans (hS.mono hbl.size)⟩
        case measure => simp [intOf]; omega
      have Hb := Lib.hid (eqSign_4 t1 t2 t3)
      cases t4 : (l[k].slot.digest == s.slot.digest)
      all_goals
        rw [t4] at Hb
        go_wp2
        refine wp_region_plan (fun w' => Below wr.heap.size wr w') [(0, true), (1, true), (2, true), (3, true), (4, true), (5, true), (6, true), (7, true), (8, true), (9, true), (10, true), (11, true), (12, true), (13, true), (14, true), (15, true), (16, true), (17, true), (18, true), (19, true), (20, true), (21, true), (22, true), (23, true), (24, true), (25, true), (26, true), (27, true), (28, true), (29, true), (30, true), (31, true), (32, true), (33, true), (34, true), (35, true), (36, true), (37, true), (38, true), (39, true), (40, true), (41, true), (42, false), (43, true)] (by kernel_rfl) (by kernel_rfl) (fun _ _ d _ _ h => by cases d <;> exact h) rfl (by kernel_rfl) ?_ ?_
        · exact below_drew _
        intro W1 hS
        repeat (first
          | (refine wpPlan_takes rfl rfl ?_; apply Exists.intro; refine ⟨fun w' hS => ?_, ?_⟩; (· (have hq := hblk.kept hS; have g0 := hq.cell 0; have g1 := hq.cell 1; have g2 := hq.cell 2; have g3 := hq.cell 3; simp at g0 g1 g2 g3; have h1 := vle_below hS _ _ c0; have h2 := vle_below hS _ _ c1; have h3 := vle_below hS _ _ c2; have h4 := vle_below hS _ _ c3; go_simp; exact rfl)); simp only [List.getElem_toArray, List.getElem_cons_zero, List.getElem_cons_succ, Act.put, List.setIfInBounds_toArray, List.set_cons_zero, List.set_cons_succ])
          | (refine wpPlan_skip (by assumption) rfl rfl ?_; simp only [List.getElem_toArray, List.getElem_cons_zero, List.getElem_cons_succ, Act.put, List.setIfInBounds_toArray, List.set_cons_zero, List.set_cons_succ]))
        refine wpPlan_do rfl rfl (fun K hK => ?_)
        try simp only [List.getElem_toArray, List.getElem_cons_zero, List.getElem_cons_succ]
        go_simp
        refine (sameBytes_any _ _ l[k].slot.digest s.slot.digest _ (Hd.out.mono (vle_below hS)) (Hsd.out.mono (vle_below (hbl.trans (hS.mono hbl.size))))).mono ?_
        rintro e w' ⟨rfl, rfl⟩
        simp only [t4]
        refine hK.out _ _ (hS) (fun hS => ?_)
        clear hK K
        try simp only [List.getElem_toArray, List.getElem_cons_zero, List.getElem_cons_succ, Act.put, List.setIfInBounds_toArray, List.set_cons_zero, List.set_cons_succ]
        repeat (first
          | (refine wpPlan_takes rfl rfl ?_; apply Exists.intro; refine ⟨fun w' hS => ?_, ?_⟩; (· (skip; go_simp; exact rfl)); simp only [List.getElem_toArray, List.getElem_cons_zero, List.getElem_cons_succ, Act.put, List.setIfInBounds_toArray, List.set_cons_zero, List.set_cons_succ])
          | (refine wpPlan_skip (by assumption) rfl rfl ?_; simp only [List.getElem_toArray, List.getElem_cons_zero, List.getElem_cons_succ, Act.put, List.setIfInBounds_toArray, List.set_cons_zero, List.set_cons_succ]))
        refine wpPlan_nil ?_
        go_wp2
      · go_roundw
        case rel => exact ⟨k + 1, by omega, by go_num, fun j hj hjk => by
          by_cases e : j = k
          · subst e; exact Hb.out
          · exact hok.out j hj (by omega), hblk.kept hS, hbl.trans (hS.mono hbl.size)⟩
        case measure => simp [intOf]; omega
      · go_ret
        exact ⟨ret_bool (any_true_get hlt Hb.out).symm, hbl.trans (hS.mono hbl.size)⟩
    · go_wp2
      go_ret
      exact ⟨ret_bool (any_false_get fun j hj => hok.out j hj (by omega)).symm, hbl⟩
end Go.Proofs.Ytelfbgfggkhpjaa
