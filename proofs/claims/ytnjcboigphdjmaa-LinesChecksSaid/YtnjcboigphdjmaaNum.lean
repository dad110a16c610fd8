/- In, node, count: is a number between two? -/
import Derived.Test.YtnjcboigphdjmaaBase
namespace Go.Proofs.Ytnjcboigphdjmaa
open Go.ChangeShapes Go.WideShapes Go.ChangeAt Go.RowKit
set_option linter.unusedVariables false
def inB (n lo hi : Int) : Bool := decide (lo ≤ n ∧ n ≤ hi)
theorem inB_true {n lo hi : Int} (h1 : lo ≤ n) (h2 : n ≤ hi) : inB n lo hi = true := decide_eq_true ⟨h1, h2⟩
theorem inB_false {n lo hi : Int} (h : n < lo ∨ hi < n) : inB n lo hi = false := decide_eq_false (fun ⟨h1, h2⟩ => by omega)
theorem in_any (n lo hi : Int) (w : World) : Calls Try.prog 7 #[.int .i64 n, .int .i64 lo, .int .i64 hi] w fun e w' => e = .returned (.bool (inB n lo hi)) ∧ w = w' := by
  go_enter Try.func7, Try.ntmps7
  by_cases h1 : lo ≤ n <;> by_cases h2 : n ≤ hi
  all_goals
    have hB : inB n lo hi = decide (lo ≤ n ∧ n ≤ hi) := rfl
    simp only [h1, h2] at hB
    simp at hB
    go_wp2
    go_ret
    exact ⟨ret_bool (by simp [inB]; try omega), rfl⟩
end Go.Proofs.Ytnjcboigphdjmaa
