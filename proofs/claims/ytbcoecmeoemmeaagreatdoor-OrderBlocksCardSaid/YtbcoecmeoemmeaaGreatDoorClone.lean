/- slices.Clone at []byte and at []string. -/
import Derived.Test.YtbcoecmeoemmeaaGreatDoorCopy
import Derived.WalkSpells
namespace Go.Proofs.YtbcoecmeoemmeaaGreatDoor
open Go.ChangeShapes Go.WideShapes Go.ChangeAt Go.RowKit
set_option linter.unusedVariables false
/-- a slice of no room, just made -/
theorem OwnVec.made {α : Type} (enc : α → Value) (e : TypeId) (w : World) (base : Nat) (h : base ≤ w.heap.size) : OwnVec enc e (w.alloc (.cells #[] e)) base (.slice (some ⟨w.heap.size, 0, none⟩) 0 0) [] :=
  ⟨World.ownsRow_made w #[] 0 h (Nat.zero_le _) rfl⟩
theorem RVec.isNil {α : Type} {enc : α → Value} {bs : Nat} {h : View} {n c : Nat} {xs : List α} (hr : RVec enc bs h (.slice none n c) xs) : xs = [] ∧ n = 0 ∧ c = 0 := by
  obtain ⟨A', c', e, h1, _, _, h4, _⟩ := hr
  injection e with e1 e2 e3
  have hc := h4 e1.symm
  have : xs.length = 0 := by omega
  exact ⟨List.eq_nil_of_length_eq_zero this, by omega, by omega⟩
set_option maxHeartbeats 1000000 in
set_option maxRecDepth 100000 in
theorem cloneB_any (v : Value) (xs : List UInt8) (w : World) (hr : RBytes w.cell? v xs) :
    Calls Tryz.prog 40 #[v] w fun e w' => ∃ v', e = .returned v' ∧ Below w.heap.size w w' ∧ OwnB w' w.heap.size v' xs := by
  have hb : xs.length ≤ 140737488355328 := by obtain ⟨A, c, _, _, _, h, _⟩ := hr; omega
  have hb1 := Lib.hid hb
  obtain ⟨A, c, rfl, _⟩ := id hr
  have e1 := @Lib.run_eql_slice_nil Tryz.prog
  clear hb
  cases A with
  | none =>
    obtain ⟨rfl, h1, rfl⟩ := hr.isNil
    go_enter Tryz.func40, Tryz.ntmps40
    go_wp2
    go_ret
    exact ⟨_, rfl, Below.refl _ _, OwnVec.nil _ _ _ _⟩
  | some a =>
    have hr' := hr.mono (vle_below ((Below.refl _ _).alloc (Nat.le_refl _) (.cells #[] 5)))
    clear hr
    go_enter Tryz.func40, Tryz.ntmps40
    go_wp2_with (at_builtin; refine wpList_append_vec (n := 140737488355328) elemByte encB_one _ _ rfl rfl rfl (OwnVec.made _ _ _ _ (Nat.le_refl _)) ((Below.refl _ _).alloc (Nat.le_refl _) _) (le_alloc _ (Nat.le_refl _)) rfl hr' (Nat.le_refl _) (by simpa using hb1.out) (by simpa using hb1.out) ?_)
    intro v' w1 ho hbl _
    go_wp2
    go_ret
    exact ⟨v', rfl, hbl, by simpa using ho⟩
end Go.Proofs.YtbcoecmeoemmeaaGreatDoor
