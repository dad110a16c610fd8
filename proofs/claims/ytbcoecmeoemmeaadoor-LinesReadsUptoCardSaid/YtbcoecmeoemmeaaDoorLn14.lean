/- Words parted by the library; numbers and Booleans in one contract. -/
import Derived.Test.YtbcoecmeoemmeaaDoorLn13
import Derived.Deep.DeepCutAuto
import Derived.Deep.CutBlock
namespace Go.Proofs.YtbcoecmeoemmeaaDoor
open Go.ChangeShapes Go.WideShapes Go.ChangeAt Go.RowKit
set_option linter.unusedVariables false
set_option linter.unusedSimpArgs false
namespace Ln
theorem split_any (s : ByteArray) (hs : s.size ≤ 1048576) (w : World) (hE : Env w) :
    Calls Tryd.prog 33 #[.string s, .string { data := #[32] }] w fun e w' => e = .returned (.slice (some ⟨w.heap.size, 0, none⟩) (spl 32 s.data.toList).length (spl 32 s.data.toList).length) ∧ w' = w.alloc (.cells (((spl 32 s.data.toList).map fun x => Value.string (mkS x)).toArray) 9) := by
  obtain ⟨m, hm⟩ := hE.mx
  refine (strings_Split s { data := #[32] } m w (by omega) hm (by decide)).mono ?_
  rintro e w' ⟨rfl, rfl⟩
  have h1 : Lib.countB s { data := #[32] } + 1 = (spl 32 s.data.toList).length := countB_one 32 s
  have h2 : Lib.splitB { data := #[32] } 0 (Lib.countB s { data := #[32] }) s = (spl 32 s.data.toList).map mkS := splitB_one 32 s
  rw [h1, h2, List.map_map]
  exact ⟨rfl, rfl⟩
theorem cut_any (s : ByteArray) (hs : s.size ≤ 1048576) (w : World) (hE : Env w) :
    Calls Tryd.prog 19 #[.string s, .string { data := #[10] }] w fun e w' => e = .returned (.tuple #[.string (mkS (Lib.cut s.data.toList [10]).1), .string (mkS (Lib.cut s.data.toList [10]).2.1), .bool (Lib.cut s.data.toList [10]).2.2]) ∧ ∃ n, w' = w.drewN n := by
  obtain ⟨m, hm⟩ := hE.mx
  exact strings_Cut s { data := #[10] } m w (by omega) hm
theorem number_any (s : ByteArray) (hs : s.size ≤ 1048576) (w : World) (hE : Env w) :
    Calls Tryd.prog 34 #[.string s] w fun e w' => ∃ (v : Int) (b : Bool), e = .returned (.tuple #[.int .i64 v, .bool b]) ∧ Hid (b = true → numP s.data.toList = some v) ∧ Hid (b = false → numP s.data.toList = none) ∧ Below w.heap.size w w' := by
  cases h : numP s.data.toList with
  | some v =>
    refine (number_some s v hs h w hE).mono ?_
    rintro e w' ⟨rfl, hb⟩
    exact ⟨v, true, rfl, fun _ => rfl, (by intro e; cases e), hb⟩
  | none =>
    refine (number_none s hs h w hE).mono ?_
    rintro e w' ⟨v, rfl, hb⟩
    exact ⟨v, false, rfl, (by intro e; cases e), fun _ => rfl, hb⟩
theorem unhex_bool (s : ByteArray) (hs : s.size ≤ 1048576) (w : World) :
    Calls Tryd.prog 35 #[.string s] w fun e w' => ∃ (x : ByteArray) (b : Bool), e = .returned (.tuple #[.string x, .bool b]) ∧ Hid (b = true → unhexL s.data.toList = some x.data.toList) ∧ Hid (b = false → unhexL s.data.toList = none) ∧ Below w.heap.size w w' := by
  refine (unhex_any s hs w).mono ?_
  rintro e w' ⟨⟨x, b, rfl, hm⟩, hb⟩
  refine ⟨x, b, rfl, ?_, ?_, hb⟩
  · intro e
    cases h : unhexL s.data.toList with
    | none => rw [h] at hm; rw [e] at hm; cases hm
    | some t => rw [h] at hm; rw [hm.1]; rfl
  · intro e
    cases h : unhexL s.data.toList with
    | none => rfl
    | some t => rw [h] at hm; rw [e] at hm; cases hm.2
theorem run_eql_bools (a b c x y z : Bool) (w : World) : (binOp .eql 62 (.agg #[.bool a, .bool b, .bool c]) (.agg #[.bool x, .bool y, .bool z])).run Tryd.prog w = .ok (.bool (a == x && (b == y && c == z))) w := by
  cases a <;> cases b <;> cases c <;> cases x <;> cases y <;> cases z <;> kernel_rfl
/-- an act out of a line, or none -/
def OneOut (o : Option Ac) (w : World) (e : Ending) (w' : World) : Prop := (∃ (k n p : Int) (t : ByteArray) (b : Bool), e = .returned (.tuple #[.agg #[.int .i64 k, .int .i64 n, .int .i64 p, .string t], .bool b]) ∧ match o with | some x => x = ⟨k, n, p, t⟩ ∧ b = true | none => b = false) ∧ Below w.heap.size w w'
end Ln
end Go.Proofs.YtbcoecmeoemmeaaDoor
