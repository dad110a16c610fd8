/- Texts copied, cloned, compared with themselves. -/
import Derived.Test.YtelfbgfggkhpjaaPool
import Derived.Test.YtelfbgfggkhpjaaClone
namespace Go.Proofs.Ytelfbgfggkhpjaa
open Go.ChangeShapes Go.WideShapes Go.ChangeAt Go.RowKit
set_option linter.unusedVariables false
theorem below_2 (w : World) (o1 o2 : Obj) : Below w.heap.size w ((w.alloc o1).alloc o2) := ((Below.refl _ _).alloc (Nat.le_refl _) _).alloc (le_alloc _ (Nat.le_refl _)) _
set_option maxHeartbeats 1000000 in
set_option maxRecDepth 100000 in
theorem cloneS_any (v : Value) (xs : List ByteArray) (w : World) (hr : RTexts w.cell? v xs) :
    Calls Try.prog 32 #[v] w fun e w' => ∃ v', e = .returned v' ∧ Below w.heap.size w w' ∧ OwnS w' w.heap.size v' xs := by
  have hb : xs.length * 16 ≤ 140737488355328 := by obtain ⟨A, c, _, _, _, h, _⟩ := hr; exact h
  have hb1 := Lib.hid hb
  obtain ⟨A, c, rfl, _⟩ := id hr
  have e1 := @Lib.run_eql_slice_nil Try.prog
  clear hb
  cases A with
  | none =>
    obtain ⟨rfl, h1, rfl⟩ := hr.isNil
    go_enter Try.func32, Try.ntmps32
    go_wp2
    go_ret
    exact ⟨_, rfl, Below.refl _ _, OwnVec.nil _ _ _ _⟩
  | some a =>
    have hr' := hr.mono (vle_below ((Below.refl _ _).alloc (Nat.le_refl _) (.cells #[] 9)))
    clear hr
    go_enter Try.func32, Try.ntmps32
    go_wp2_with (at_builtin; refine wpList_append_vec (n := 140737488355328) elemStr encS_one _ _ rfl rfl rfl (OwnVec.made _ _ _ _ (Nat.le_refl _)) ((Below.refl _ _).alloc (Nat.le_refl _) _) (le_alloc _ (Nat.le_refl _)) rfl hr' (Nat.le_refl _) (by simpa using hb1.out) (by have := hb1.out; simp; omega) ?_)
    intro v' w1 ho hbl _
    go_wp2
    go_ret
    exact ⟨v', rfl, hbl, by simpa using ho⟩
set_option maxHeartbeats 1000000 in
set_option maxRecDepth 100000 in
theorem sameTexts_same (va vb : Value) (l : List ByteArray) (w : World) (ha : RTexts w.cell? va l) (hb : RTexts w.cell? vb l) :
    Calls Try.prog 35 #[va, vb] w fun e w' => e = .returned (.bool true) ∧ Below w.heap.size w w' := by
  obtain ⟨A, c, rfl, hlen, hel⟩ := ha.form
  obtain ⟨B, d, rfl, _, hel2⟩ := hb.form
  have Hel := Lib.hid hel
  have Hel2 := Lib.hid hel2
  clear hel hel2 ha hb
  go_enter Try.func35, Try.ntmps35
  go_wp2
  go_loopw [5] (fun i wr => ∃ k : Nat, k ≤ l.length ∧ i = .int .i64 k ∧ Below w.heap.size w wr) (fun i _ => l.length - (intOf i).toNat)
  case atStart => exact ⟨0, Nat.zero_le _, rfl, Below.refl _ _⟩
  case round =>
    obtain ⟨k, hk, rfl, hbl⟩ := hrel
    by_cases hlt : k < l.length
    · obtain ⟨b0, o0, rfl, hcell⟩ := Hel.out k hlt
      obtain ⟨b1, o1, rfl, hcell2⟩ := Hel2.out k hlt
      have c1 : wr.cell? ⟨b0, o0 + k, none⟩ = some (.string l[k]) := vle_below hbl _ _ hcell
      have c2 : wr.cell? ⟨b1, o1 + k, none⟩ = some (.string l[k]) := vle_below hbl _ _ hcell2
      clear hcell hcell2
      go_wp2
      refine wp_region_plan (fun w' => Below wr.heap.size wr w') [(0, true), (1, true), (2, true), (3, true), (4, true), (5, true), (6, true), (7, true), (8, true)] (by kernel_rfl) (by kernel_rfl) (fun _ _ d _ _ h => by cases d <;> exact h) rfl (by kernel_rfl) ?_ ?_
      · exact below_drew _
      intro W1 hS
      repeat (first
        | (refine wpPlan_takes rfl rfl ?_; apply Exists.intro; refine ⟨fun w' hS => ?_, ?_⟩; (· (have h1 := vle_below hS _ _ c1; have h2 := vle_below hS _ _ c2; go_simp; exact rfl)); simp only [List.getElem_toArray, List.getElem_cons_zero, List.getElem_cons_succ, Act.put, List.setIfInBounds_toArray, List.set_cons_zero, List.set_cons_succ])
        | (refine wpPlan_skip (by assumption) rfl rfl ?_; simp only [List.getElem_toArray, List.getElem_cons_zero, List.getElem_cons_succ, Act.put, List.setIfInBounds_toArray, List.set_cons_zero, List.set_cons_succ]))
      refine wpPlan_nil ?_
      go_wp2
      go_roundw
      case rel => exact ⟨k + 1, by omega, by go_num, hbl.trans (hS.mono hbl.size)⟩
      case measure => simp [intOf]; omega
    · go_wp2
      go_ret
      exact ⟨rfl, hbl⟩
set_option maxHeartbeats 1000000 in
set_option maxRecDepth 100000 in
theorem samePool_same (a : Int) (va vb : Value) (l : List ByteArray) (w : World) (ha : RTexts w.cell? va l) (hb : RTexts w.cell? vb l) :
    Calls Try.prog 13 #[.agg #[.int .i64 a, va], .agg #[.int .i64 a, vb]] w fun e w' => e = .returned (.bool true) ∧ Below w.heap.size w w' := by
  go_enter Try.func13, Try.ntmps13
  go_wp2_with fail
  refine (sameTexts_same _ _ l _ (ha.mono (vle_below (below_2 _ _ _))) (hb.mono (vle_below (below_2 _ _ _)))).mono ?_
  rintro e w1 ⟨rfl, hk⟩
  go_wp2
  go_ret
  exact ⟨rfl, (below_2 _ _ _).trans (hk.mono (by simp; omega))⟩
set_option maxHeartbeats 1000000 in
set_option maxRecDepth 100000 in
theorem sameBatch_same (a r : Int) (va vb : Value) (l : List ByteArray) (w : World) (ha : RTexts w.cell? va l) (hb : RTexts w.cell? vb l) :
    Calls Try.prog 14 #[.agg #[.int .i64 a, .int .i64 r, va], .agg #[.int .i64 a, .int .i64 r, vb]] w fun e w' => e = .returned (.bool true) ∧ Below w.heap.size w w' := by
  go_enter Try.func14, Try.ntmps14
  go_wp2_with fail
  refine (sameTexts_same _ _ l _ (ha.mono (vle_below (below_2 _ _ _))) (hb.mono (vle_below (below_2 _ _ _)))).mono ?_
  rintro e w1 ⟨rfl, hk⟩
  go_wp2
  go_ret
  exact ⟨rfl, (below_2 _ _ _).trans (hk.mono (by simp; omega))⟩
end Go.Proofs.Ytelfbgfggkhpjaa
