/- Turns of a word, the table of first words: what the functions answer. -/
import Derived.Test.YtbcoecmeoemmeaaGreatDoorBlakeSpec
import Derived.Test.YtbcoecmeoemmeaaGreatDoorChg
import Derived.Test.YtbcoecmeoemmeaaGreatDoorPlan2
import Derived.Test.YtbcoecmeoemmeaaGreatDoorNum
import Derived.Lib.EndianBits
namespace Go.Proofs.YtbcoecmeoemmeaaGreatDoor
open Go.ChangeShapes Go.WideShapes Go.ChangeAt Go.RowKit
set_option linter.unusedVariables false
set_option linter.unusedSimpArgs false
set_option maxHeartbeats 1000000 in
set_option maxRecDepth 100000 in
theorem rotl16_any (x : Nat) (w : World) (hx : W32 x) : Calls Tryz.prog 183 #[.int .u32 x, .int .i64 (-16)] w fun e w' => e = .returned (.int .u32 (rot x 16 : Nat)) ∧ w = w' := by
  have H := Lib.hid (u32_rot (s := 16) hx (by decide))
  unfold W32 at hx
  have e0 : bits .and .u64 (IntKind.u64.wrap (-16)) 31 = 16 := by decide
  have e1 : IntKind.u64.wrap (32 - 16) = 16 := by decide
  go_enter Tryz.func183, Tryz.ntmps183
  go_wp2
  go_ret
  exact ⟨congrArg _ (congrArg _ H.out), rfl⟩
set_option maxHeartbeats 1000000 in
set_option maxRecDepth 100000 in
theorem rotl12_any (x : Nat) (w : World) (hx : W32 x) : Calls Tryz.prog 183 #[.int .u32 x, .int .i64 (-12)] w fun e w' => e = .returned (.int .u32 (rot x 12 : Nat)) ∧ w = w' := by
  have H := Lib.hid (u32_rot (s := 12) hx (by decide))
  unfold W32 at hx
  have e0 : bits .and .u64 (IntKind.u64.wrap (-12)) 31 = 20 := by decide
  have e1 : IntKind.u64.wrap (32 - 20) = 12 := by decide
  go_enter Tryz.func183, Tryz.ntmps183
  go_wp2
  go_ret
  exact ⟨congrArg _ (congrArg _ H.out), rfl⟩
set_option maxHeartbeats 1000000 in
set_option maxRecDepth 100000 in
theorem rotl8_any (x : Nat) (w : World) (hx : W32 x) : Calls Tryz.prog 183 #[.int .u32 x, .int .i64 (-8)] w fun e w' => e = .returned (.int .u32 (rot x 8 : Nat)) ∧ w = w' := by
  have H := Lib.hid (u32_rot (s := 8) hx (by decide))
  unfold W32 at hx
  have e0 : bits .and .u64 (IntKind.u64.wrap (-8)) 31 = 24 := by decide
  have e1 : IntKind.u64.wrap (32 - 24) = 8 := by decide
  go_enter Tryz.func183, Tryz.ntmps183
  go_wp2
  go_ret
  exact ⟨congrArg _ (congrArg _ H.out), rfl⟩
set_option maxHeartbeats 1000000 in
set_option maxRecDepth 100000 in
theorem rotl7_any (x : Nat) (w : World) (hx : W32 x) : Calls Tryz.prog 183 #[.int .u32 x, .int .i64 (-7)] w fun e w' => e = .returned (.int .u32 (rot x 7 : Nat)) ∧ w = w' := by
  have H := Lib.hid (u32_rot (s := 7) hx (by decide))
  unfold W32 at hx
  have e0 : bits .and .u64 (IntKind.u64.wrap (-7)) 31 = 25 := by decide
  have e1 : IntKind.u64.wrap (32 - 25) = 7 := by decide
  go_enter Tryz.func183, Tryz.ntmps183
  go_wp2
  go_ret
  exact ⟨congrArg _ (congrArg _ H.out), rfl⟩
set_option maxHeartbeats 1000000 in
set_option maxRecDepth 100000 in
theorem turned_any (x s : Nat) (z : Int) (hz : z = s) (w : World) (hx : W32 x) (hs : 2 ≤ s) (hs' : s ≤ 32) : Calls Tryz.prog 218 #[.int .i64 x, .int .i64 z] w fun e w' => e = .returned (.int .i64 (rot x s : Nat)) ∧ Below w.heap.size w w' := by
  subst hz
  have H := Lib.hid (i64_rot (s := s) hx hs hs')
  have e0 : IntKind.i64.wrap (32 - (s : Int)) = ((32 - s : Nat) : Int) := by rw [wraps62 _ (by omega) (by omega)]; omega
  have e1 := i64_shl hx hs hs'
  unfold W32 at hx
  have e2 : (32 - s : Nat) ≤ 64 := by omega
  go_enter Tryz.func218, Tryz.ntmps218
  go_wp2
  refine wp_region_plan (fun w' => Below w.heap.size w w') [(0, true), (1, true), (2, true), (3, true), (4, true), (5, true), (6, true), (7, true), (8, true), (9, true)] (by kernel_rfl) (by kernel_rfl) (fun _ _ d _ _ h => by cases d <;> exact h) rfl (by kernel_rfl) ?_ ?_
  · exact below_drew _
  intro W1 hS
  repeat (first
    | (refine wpPlan_takes rfl rfl ?_; apply Exists.intro; refine ⟨fun w' hS => ?_, ?_⟩; (· (skip; go_simp; exact rfl)); simp only [List.getElem_toArray, List.getElem_cons_zero, List.getElem_cons_succ, Act.put, List.setIfInBounds_toArray, List.set_cons_zero, List.set_cons_succ])
    | (refine wpPlan_skip (by assumption) rfl rfl ?_; simp only [List.getElem_toArray, List.getElem_cons_zero, List.getElem_cons_succ, Act.put, List.setIfInBounds_toArray, List.set_cons_zero, List.set_cons_succ]))
  refine wpPlan_nil ?_
  go_wp2
  go_ret
  exact ⟨ret_int H.out, hS⟩
set_option maxHeartbeats 1000000 in
set_option maxRecDepth 100000 in
theorem firstWord_any (k : Nat) (w : World) (hk : k < 8) : Calls Tryz.prog 141 #[.int .i64 k] w fun e w' => e = .returned (.int .i64 (at0 first8 k : Nat)) ∧ Below w.heap.size w w' := by
  have hk' : k = 0 ∨ k = 1 ∨ k = 2 ∨ k = 3 ∨ k = 4 ∨ k = 5 ∨ k = 6 ∨ k = 7 := by omega
  rcases hk' with rfl | rfl | rfl | rfl | rfl | rfl | rfl | rfl
  all_goals
    go_enter Tryz.func141, Tryz.ntmps141
    go_wp2
    go_ret
    exact ⟨rfl, by repeat (first
  | assumption
  | exact Below.refl _ _
  | refine Below.drew ?_
  | (refine Below.alloc ?_ ?sa _; (case sa => first | omega | (simp; done) | (simp; omega)))
  | (refine Below.setCell ?_ ?sa _; (case sa => first | (dsimp only; omega) | (simp; done) | (simp; omega))))⟩
end Go.Proofs.YtbcoecmeoemmeaaGreatDoor
