/- CheckSlot and SlotFault answer one number. -/
import Derived.Test.YtedealljhmokoaaNum
namespace Go.Proofs.Ytedealljhmokoaa
open Go.ChangeShapes Go.WideShapes Go.ChangeAt Go.RowKit
set_option linter.unusedVariables false
def slotF (au ro : Int) (l : Nat) : Int := if !inB au 0 3 || !inB ro 1 1048576 then 2 else if l ≠ 32 then 4 else 0
theorem slotFault_any (au ro : Int) (s : Option Addr) (l c : Nat) (w : World) : Calls Try.prog 62 #[.agg #[.int .i64 au, .int .i64 ro, .slice s l c]] w fun e w' => e = .returned (.int .i64 (slotF au ro l)) ∧ Below w.heap.size w w' := by
  have hf : slotF au ro l = if !inB au 0 3 || !inB ro 1 1048576 then 2 else if l ≠ 32 then 4 else 0 := rfl
  by_cases h3 : l = 32 <;> cases ha : inB au 0 3 <;> cases hb : inB ro 1 1048576
  all_goals
    try subst h3
    try simp only [ha, hb] at hf
    simp [*] at hf
    have Hf := Lib.hid hf
    clear hf
    go_enter Try.func62, Try.ntmps62
    go_wp2_with (go_at_call 46; refine (in_any _ _ _ _).mono ?_; rintro e w' ⟨rfl, rfl⟩)
    go_ret
    exact ⟨ret_int Hf.out.symm, (Below.refl _ _).alloc (Nat.le_refl _) _⟩
theorem checkSlot_any (au ro : Int) (s : Option Addr) (l c : Nat) (w : World) : Calls Try.prog 54 #[.agg #[.int .i64 au, .int .i64 ro, .slice s l c]] w fun e w' => e = .returned (.int .i64 (slotF au ro l)) ∧ Below w.heap.size w w' := by
  have hf : slotF au ro l = if !inB au 0 3 || !inB ro 1 1048576 then 2 else if l ≠ 32 then 4 else 0 := rfl
  by_cases h3 : l = 32 <;> cases ha : inB au 0 3 <;> cases hb : inB ro 1 1048576
  all_goals
    try subst h3
    try simp only [ha, hb] at hf
    simp [*] at hf
    have Hf := Lib.hid hf
    clear hf
    go_enter Try.func54, Try.ntmps54
    go_wp2_with (first | (go_at_call 51; refine (node_any _ _).mono ?_; rintro e w' ⟨rfl, rfl⟩) | (go_at_call 56; refine (count_any _ _).mono ?_; rintro e w' ⟨rfl, rfl⟩))
    go_ret
    exact ⟨ret_int Hf.out.symm, (Below.refl _ _).alloc (Nat.le_refl _) _⟩
end Go.Proofs.Ytedealljhmokoaa
