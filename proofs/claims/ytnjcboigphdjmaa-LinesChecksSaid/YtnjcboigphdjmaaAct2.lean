/- lines.Check answers what ActFault answers. -/
import Derived.Test.YtnjcboigphdjmaaAct
namespace Go.Proofs.Ytnjcboigphdjmaa
open Go.ChangeShapes Go.WideShapes Go.ChangeAt Go.RowKit
set_option linter.unusedVariables false
set_option maxHeartbeats 4000000 in
set_option maxRecDepth 100000 in
theorem linesCheck_any (k n p : Int) (s : ByteArray) (w : World) (hs : s.size ≤ 140737488355328) :
    Calls Try.prog 4 #[.agg #[.int .i64 k, .int .i64 n, .int .i64 p, .string s]] w fun e w' => e = .returned (.int .i64 (actF k n p s)) ∧ Below w.heap.size w w' := by
  have Hq : Hid (actF k n p s = if !inB k 1 10 then 3 else if hN k && !inB n 0 3 || hP k && !inB p 0 400000 then 2 else if hT k && decide (4000 < s.size) then 1
      else if !hN k && n != 0 || !hP k && p != 0 || !hT k && !(s.toList == []) then 4 else 0) := rfl
  by_cases hk1 : k < 1
  · go_enter Try.func4, Try.ntmps4
    go_wp2
    go_ret
    exact ⟨ret_int (by rw [Hq.out]; have : inB k 1 10 = false := by (simp [inB]; omega)
                       simp [this]), (Below.refl _ _).alloc (Nat.le_refl _) _⟩
  by_cases hk2 : 10 < k
  · go_enter Try.func4, Try.ntmps4
    go_wp2
    go_ret
    exact ⟨ret_int (by rw [Hq.out]; have : inB k 1 10 = false := by (simp [inB]; omega)
                       simp [this]), (Below.refl _ _).alloc (Nat.le_refl _) _⟩
  have Hk : Hid (inB k 1 10 = true) := by show _ = _; simp [inB]; omega
  cases h1 : hN k <;> cases h2 : hP k <;> cases h3 : hT k
  all_goals
    go_enter Try.func4, Try.ntmps4
    go_wp2_with (go_at_call 6; refine (has_any _ _).mono ?_; rintro e w' ⟨rfl, rfl⟩)
  all_goals
    go_ret
    refine ⟨ret_int ?_, (Below.refl _ _).alloc (Nat.le_refl _) _⟩
    rw [Hq.out, Hk.out]
    clear Hq Hk hs
    first
      | (simp [*]; done)
      | (simp [*, inB]; done)
      | (simp [*, inB]; omega)
end Go.Proofs.Ytnjcboigphdjmaa
