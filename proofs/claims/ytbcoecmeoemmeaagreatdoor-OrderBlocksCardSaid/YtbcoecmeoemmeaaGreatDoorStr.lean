/- A []byte as a string; two of them compared. -/
import Derived.Test.YtbcoecmeoemmeaaGreatDoorCopy
import Derived.Laws.BytesArg
namespace Go.Proofs.YtbcoecmeoemmeaaGreatDoor
open Go.ChangeShapes Go.WideShapes Go.ChangeAt Go.RowKit
set_option linter.unusedVariables false
def bstr (xs : List UInt8) : ByteArray := ⟨xs.toArray⟩
theorem bstr_toList (xs : List UInt8) : (bstr xs).toList = xs := by rw [ByteArray.toList_eq]; rfl
theorem bstr_size (xs : List UInt8) : (bstr xs).size = xs.length := by simp [bstr, ByteArray.size]
theorem bstr_eq (a b : List UInt8) : ((bstr a).toList == (bstr b).toList) = (a == b) := by rw [bstr_toList, bstr_toList]
theorem strOfNums_bstr (xs : List UInt8) : strOfNums (xs.map fun x => (x.toNat : Int)) = bstr xs := by
  simp only [strOfNums, bstr, List.map_map]
  congr 2
  conv => rhs; rw [← List.map_id xs]
  refine List.map_congr_left fun x _ => ?_
  simp
set_option maxHeartbeats 1000000 in
set_option maxRecDepth 100000 in
theorem run_toStr {w : World} {v : Value} {xs : List UInt8} (hr : RBytes w.cell? v xs) : (convert 41 9 v).run Tryz.prog w = .ok (.string (bstr xs)) w := by
  obtain ⟨A, c, rfl, h1, h2, h3, h4, h5⟩ := hr
  cases A with
  | none =>
    have hc := h4 rfl
    have : xs = [] := List.eq_nil_of_length_eq_zero (by omega)
    subst this
    exact run_convert_bytes_nil w 41 5 Tryz.underlying41 Tryz.underlying5 _ _ 9 Tryz.underlying9
  | some a =>
    rcases Nat.eq_zero_or_pos xs.length with h0 | h0
    · have : xs = [] := List.eq_nil_of_length_eq_zero h0
      subst this
      rw [run_convert_bytes_string w 41 9 5 _ _ c Tryz.underlying41 Tryz.underlying5 Tryz.underlying9, run_bytesToString w a ([] : List UInt8).length c [] (by simp [loadCells, loadCellsFrom])]
      rfl
    · obtain ⟨b, o, e, hc⟩ := h5 h0
      obtain rfl := Option.some.inj e
      have hcell : ∀ i, i < xs.length → w.cell? ⟨b, o + i, none⟩ = some (.int .u8 ((xs.map fun x => (x.toNat : Int)).getD i 0)) := by
        intro i hi
        rw [hc i hi]
        simp only [encB, List.getD, List.getElem?_map, List.getElem?_eq_getElem hi, Option.map_some, Option.getD_some]
      have hx := run_convert_bytes_arg (P := Tryz.prog) w 41 5 Tryz.underlying41 Tryz.underlying5 b o xs.length c (xs.map fun x => (x.toNat : Int)) (List.length_map _) hcell 9 Tryz.underlying9
      rw [hx]
      have e := strOfNums_bstr xs
      rw [e]
set_option maxHeartbeats 1000000 in
set_option maxRecDepth 100000 in
theorem sameBytes_any (va vb : Value) (a b : List UInt8) (w : World) (ha : RBytes w.cell? va a) (hb : RBytes w.cell? vb b) :
    Calls Tryz.prog 66 #[va, vb] w fun e w' => e = .returned (.bool (a == b)) ∧ w = w' := by
  have ga := run_toStr ha
  have gb := run_toStr hb
  have He := Lib.hid (bstr_eq a b)
  clear ha hb
  go_enter Tryz.func66, Tryz.ntmps66
  go_wp2
  go_ret
  exact ⟨ret_bool He.out, rfl⟩
set_option maxHeartbeats 1000000 in
set_option maxRecDepth 100000 in
theorem bytesEqual_any (va vb : Value) (a b : List UInt8) (w : World) (ha : RBytes w.cell? va a) (hb : RBytes w.cell? vb b) :
    Calls Tryz.prog 55 #[va, vb] w fun e w' => e = .returned (.bool (a == b)) ∧ w = w' := by
  have ga := run_toStr ha
  have gb := run_toStr hb
  have He := Lib.hid (bstr_eq a b)
  clear ha hb
  go_enter Tryz.func55, Tryz.ntmps55
  go_wp2
  go_ret
  exact ⟨ret_bool He.out, rfl⟩
end Go.Proofs.YtbcoecmeoemmeaaGreatDoor
