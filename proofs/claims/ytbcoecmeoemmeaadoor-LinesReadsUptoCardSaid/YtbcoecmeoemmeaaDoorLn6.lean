/- The reference's lines: actWord, actLine. -/
import Derived.Test.YtbcoecmeoemmeaaDoorLn5
namespace Go.Proofs.YtbcoecmeoemmeaaDoor
open Go.ChangeShapes Go.WideShapes Go.ChangeAt Go.RowKit
set_option linter.unusedVariables false
set_option linter.unusedSimpArgs false
namespace Ln
theorem dec_any (n : Int) (h0 : 0 ≤ n) (h1 : n ≤ 400000) (w : World) :
    Calls Tryd.prog 30 #[.int .i64 n] w fun e w' => ∃ s : ByteArray, e = .returned (.string s) ∧ Hid (s = mkS (decL n)) ∧ s.size ≤ 400001 ∧ Below w.heap.size w w' := by
  obtain ⟨m, rfl⟩ : ∃ m : Nat, n = m := ⟨n.toNat, by omega⟩
  have hl := decL_len m h0
  refine (dec_nat m w (by omega)).mono ?_
  rintro e w' ⟨rfl, hb⟩
  exact ⟨_, rfl, Lib.hid rfl, by show (Lib.decDigits m).length ≤ _; unfold decL at hl; rw [Int.toNat_natCast] at hl; omega, hb⟩
set_option maxHeartbeats 2000000 in
set_option maxRecDepth 100000 in
theorem actWord_any (k : Nat) (h1 : 1 ≤ k) (h2 : k ≤ 10) (w : World) :
    Calls Tryd.prog 29 #[.int .i64 k] w fun e w' => e = .returned (.string (mkS (wordL k))) ∧ Below w.heap.size w w' := by
  have hk : k = 1 ∨ k = 2 ∨ k = 3 ∨ k = 4 ∨ k = 5 ∨ k = 6 ∨ k = 7 ∨ k = 8 ∨ k = 9 ∨ k = 10 := by omega
  rcases hk with rfl | rfl | rfl | rfl | rfl | rfl | rfl | rfl | rfl | rfl
  all_goals
    go_enter Tryd.func29, Tryd.ntmps29
    go_wp2
    go_ret
    exact ⟨rfl, below_one _ _⟩
theorem hexL_get (l : List UInt8) (k : Nat) (h : k < l.length) : hexL (l.take (k + 1)) = hexL (l.take k) ++ [hexd (l[k].toNat / 16), hexd (l[k].toNat % 16)] := by
  rw [List.take_succ_eq_append_getElem h, hexL_snoc, List.append_assoc]
  rfl
end Ln
end Go.Proofs.YtbcoecmeoemmeaaDoor
