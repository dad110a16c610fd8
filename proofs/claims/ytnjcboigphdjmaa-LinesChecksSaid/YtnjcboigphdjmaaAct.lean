/- Acts: lines.Check and ActFault answer one number. -/
import Derived.Test.YtnjcboigphdjmaaNum
namespace Go.Proofs.Ytnjcboigphdjmaa
open Go.ChangeShapes Go.WideShapes Go.ChangeAt Go.RowKit
set_option linter.unusedVariables false
def hN (k : Int) : Bool := k == 1 || k == 2 || k == 3 || k == 7 || k == 8 || k == 9
def hP (k : Int) : Bool := inB k 4 7
def hT (k : Int) : Bool := k == 1 || k == 9
def actF (k n p : Int) (s : ByteArray) : Int :=
  if !inB k 1 10 then 3 else if hN k && !inB n 0 3 || hP k && !inB p 0 400000 then 2 else if hT k && decide (4000 < s.size) then 1
  else if !hN k && n != 0 || !hP k && p != 0 || !hT k && !(s.toList == []) then 4 else 0
set_option maxHeartbeats 1000000 in
set_option maxRecDepth 100000 in
theorem has_any (k : Int) (w : World) : Calls Try.prog 6 #[.int .i64 k] w fun e w' => e = .returned (.tuple #[.bool (hN k), .bool (hP k), .bool (hT k)]) ∧ w = w' := by
  cases h1 : (k == 1)
  cases h9 : (k == 9)
  cases h2 : (k == 2)
  cases h3 : (k == 3)
  cases h8 : (k == 8)
  cases h4 : (k == 4)
  cases h5 : (k == 5)
  cases h6 : (k == 6)
  cases h7 : (k == 7)
  all_goals
    have Hq : Hid (hN k = (k == 1 || k == 2 || k == 3 || k == 7 || k == 8 || k == 9) ∧ hP k = inB k 4 7 ∧ hT k = (k == 1 || k == 9)) := ⟨rfl, rfl, rfl⟩
    go_enter Try.func6, Try.ntmps6
    go_wp2
    go_ret3
    exact ⟨by obtain ⟨q1, q2, q3⟩ := Hq.out; rw [q1, q2, q3]; simp_all [inB]; try omega, rfl⟩
set_option maxHeartbeats 1000000 in
set_option maxRecDepth 100000 in
theorem hasNode_any (k : Int) (w : World) : Calls Try.prog 8 #[.int .i64 k] w fun e w' => e = .returned (.bool (hN k)) ∧ w = w' := by
  cases h1 : (k == 1)
  cases h2 : (k == 2)
  cases h3 : (k == 3)
  cases h7 : (k == 7)
  cases h8 : (k == 8)
  cases h9 : (k == 9)
  all_goals
    have Hq : Hid (hN k = (k == 1 || k == 2 || k == 3 || k == 7 || k == 8 || k == 9)) := rfl
    go_enter Try.func8, Try.ntmps8
    go_wp2
    go_ret
    exact ⟨ret_bool (by rw [Hq.out]; simp_all), rfl⟩
theorem hasText_any (k : Int) (w : World) : Calls Try.prog 10 #[.int .i64 k] w fun e w' => e = .returned (.bool (hT k)) ∧ w = w' := by
  cases h1 : (k == 1)
  cases h9 : (k == 9)
  all_goals
    have Hq : Hid (hT k = (k == 1 || k == 9)) := rfl
    go_enter Try.func10, Try.ntmps10
    go_wp2
    go_ret
    exact ⟨ret_bool (by rw [Hq.out]; simp_all), rfl⟩
theorem hasPick_any (k : Int) (w : World) : Calls Try.prog 9 #[.int .i64 k] w fun e w' => e = .returned (.bool (hP k)) ∧ w = w' := by
  go_enter Try.func9, Try.ntmps9
  go_wp2_with (go_at_call 7; refine (in_any _ _ _ _).mono ?_; rintro e w' ⟨rfl, rfl⟩)
  go_ret
  exact ⟨rfl, rfl⟩
set_option maxHeartbeats 4000000 in
set_option maxRecDepth 100000 in
theorem actFault_any (k n p : Int) (s : ByteArray) (w : World) (hs : s.size ≤ 140737488355328) :
    Calls Try.prog 5 #[.agg #[.int .i64 k, .int .i64 n, .int .i64 p, .string s]] w fun e w' => e = .returned (.int .i64 (actF k n p s)) ∧ Below w.heap.size w w' := by
  have Hq : Hid (actF k n p s = if !inB k 1 10 then 3 else if hN k && !inB n 0 3 || hP k && !inB p 0 400000 then 2 else if hT k && decide (4000 < s.size) then 1
      else if !hN k && n != 0 || !hP k && p != 0 || !hT k && !(s.toList == []) then 4 else 0) := rfl
  cases hk : inB k 1 10
  · go_enter Try.func5, Try.ntmps5
    go_wp2_with (go_at_call 7; refine (in_any _ _ _ _).mono ?_; rintro e w' ⟨rfl, rfl⟩)
    go_ret
    exact ⟨ret_int (by rw [Hq.out, hk]; rfl), (Below.refl _ _).alloc (Nat.le_refl _) _⟩
  cases h1 : hN k <;> cases h2 : hP k <;> cases h3 : hT k
  all_goals
    go_enter Try.func5, Try.ntmps5
    go_wp2_with (first | (go_at_call 7; refine (in_any _ _ _ _).mono ?_; rintro e w' ⟨rfl, rfl⟩) | (go_at_call 8; refine (hasNode_any _ _).mono ?_; rintro e w' ⟨rfl, rfl⟩) | (go_at_call 9; refine (hasPick_any _ _).mono ?_; rintro e w' ⟨rfl, rfl⟩) | (go_at_call 10; refine (hasText_any _ _).mono ?_; rintro e w' ⟨rfl, rfl⟩))
  all_goals
    go_ret
    refine ⟨ret_int ?_, (Below.refl _ _).alloc (Nat.le_refl _) _⟩
    rw [Hq.out]
    clear Hq hs
    first
      | (simp [*]; done)
      | (simp [*]; omega)
end Go.Proofs.Ytnjcboigphdjmaa
