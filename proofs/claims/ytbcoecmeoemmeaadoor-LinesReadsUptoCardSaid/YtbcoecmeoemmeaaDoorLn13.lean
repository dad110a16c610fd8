/- A line parted by blanks: by the reference, by the library. -/
import Derived.Test.YtbcoecmeoemmeaaDoorLn12
namespace Go.Proofs.YtbcoecmeoemmeaaDoor
open Go.ChangeShapes Go.WideShapes Go.ChangeAt Go.RowKit
set_option linter.unusedVariables false
set_option linter.unusedSimpArgs false
namespace Ln
/-- words parted, as strings -/
abbrev RWords (h : View) (v : Value) (l : List (List UInt8)) : Prop := RTexts h v (l.map mkS)
theorem extract_mkS (s : ByteArray) (f k : Nat) : s.extract f k = mkS ((s.data.toList.drop f).take (k - f)) := by
  rw [← mkS_data (s.extract f k)]
  refine congrArg mkS ?_
  rw [ByteArray.data_extract, Array.toList_extract]
theorem spl_piece {l : List UInt8} {f k : Nat} (hf : f ≤ k) (hk : k < l.length) (hc : l[k] = 32) (hn : ∀ j (hj : j < l.length), f ≤ j → j < k → l[j] ≠ 32) : spl 32 (l.drop f) = (l.drop f).take (k - f) :: spl 32 (l.drop (k + 1)) := by
  have h1 : fst1 32 (l.drop f) = k - f := by
    refine fst1_eq (k := k - f) (by rw [List.length_drop]; omega) ?_ (fun j hj hjk => ?_)
    · rw [List.getElem_drop]
      have : f + (k - f) = k := by omega
      simp only [this]
      exact hc
    · rw [List.getElem_drop]
      rw [List.length_drop] at hj
      exact hn _ (by omega) (by omega) (by omega)
  rw [spl_hit 32 (l.drop f) (by rw [h1, List.length_drop]; omega), h1, List.drop_drop]
  congr 3
  omega
theorem spl_last {l : List UInt8} {f : Nat} (hn : ∀ j (hj : j < l.length), f ≤ j → l[j] ≠ 32) : spl 32 (l.drop f) = [(l.drop f).take (l.length - f)] := by
  rw [spl_miss, List.take_of_length_le (by rw [List.length_drop]; exact Nat.le_refl _)]
  have : fst1 32 (l.drop f) = (l.drop f).length := by
    refine fst1_none (fun j hj => ?_)
    rw [List.getElem_drop]
    rw [List.length_drop] at hj
    exact hn _ (by omega) (by omega)
  omega
theorem spl_len (c : UInt8) (l : List UInt8) : (spl c l).length ≤ l.length + 1 := by
  induction l with
  | nil => exact Nat.le_refl _
  | cons b l ih =>
    unfold spl
    split
    · simp; omega
    · split
      · rename_i h t e
        rw [e] at ih
        simp at ih ⊢
        omega
      · simp
/-- how far the blanks have been gone through -/
structure PInv (l : List UInt8) (out : List (List UInt8)) (f k : Nat) : Prop where
  run : k ≤ l.length → f ≤ k ∧ spl 32 l = out ++ spl 32 (l.drop f) ∧ ∀ j (hj : j < l.length), f ≤ j → j < k → l[j] ≠ 32
  fin : l.length < k → spl 32 l = out
  len : out.length ≤ k
set_option maxHeartbeats 4000000 in
set_option maxRecDepth 100000 in
theorem partsOf_any (s : ByteArray) (hs : s.size ≤ 1048576) (w : World) : Calls Tryd.prog 36 #[.string s] w fun e w' => ∃ v, e = .returned v ∧ RWords w'.cell? v (spl 32 s.data.toList) ∧ Below w.heap.size w w' := by
  have hll : s.data.toList.length = s.size := Array.length_toList
  go_enter Tryd.func36, Tryd.ntmps36
  go_wp2
  go_loopw [3, 4, 5] (fun v f i wr => ∃ (k q : Nat) (out : List (List UInt8)), k ≤ s.size + 1 ∧ i = .int .i64 k ∧ f = .int .i64 q ∧ q ≤ s.size + 1 ∧ OwnS wr w.heap.size v (out.map mkS) ∧ PInv s.data.toList out q k ∧ Below w.heap.size w wr) (fun _ _ i _ => s.size + 1 - (intOf i).toNat)
  case atStart => exact ⟨0, 0, [], Nat.zero_le _, rfl, rfl, Nat.zero_le _, OwnVec.nil _ _ _ _, ⟨fun _ => ⟨Nat.le_refl _, rfl, fun j _ _ h => by omega⟩, fun h => by omega, Nat.le_refl _⟩, Below.refl _ _⟩
  case round =>
    obtain ⟨k, q, out, hk, rfl, rfl, hq, ho, hP, hbl⟩ := hrel
    have hbs := hbl.size
    have hol := hP.len
    have holm : (out.map mkS).length = out.length := List.length_map _
    by_cases hke : k = s.size
    · obtain ⟨p1, p2, p3⟩ := hP.run (by omega)
      have hP2 : PInv s.data.toList (out ++ [(s.data.toList.drop q).take (k - q)]) (k + 1) (k + 1) := by
        refine ⟨fun h => by omega, fun _ => ?_, by simp; omega⟩
        rw [p2, spl_last (fun j hj h1 => p3 j hj h1 (by omega)), hke, hll]
      subst hke
      obtain ⟨U, hU⟩ : ∃ U, s.extract q s.size = U := ⟨_, rfl⟩
      have hex : Hid (U = mkS ((s.data.toList.drop q).take (s.size - q))) := by show _ = _; rw [← hU]; exact extract_mkS s q s.size
      clear hP p2 p3
      go_wp2_with (at_builtin; refine wpList_append_vec1 (n := 140737488355328) U elemStr encS_one _ _ rfl rfl rfl ho hbl hbs rfl (Nat.le_refl _) (by rw [holm]; omega) (by rw [holm]; omega) ?_)
      intro v3 w3 ho3 hb3 _
      have ho4 : OwnS w3 w.heap.size v3 ((out ++ [(s.data.toList.drop q).take (s.size - q)]).map mkS) := by
        rw [List.map_append, List.map_singleton, ← hex.out]; exact ho3
      clear ho ho3 hex
      go_wp2
      go_roundw
      case rel => exact ⟨s.size + 1, s.size + 1, _, by omega, by go_num, by go_num, by omega, ho4, hP2, hb3⟩
      case measure => simp [intOf]
    · by_cases hlt : k < s.size
      · obtain ⟨p1, p2, p3⟩ := hP.run (by omega)
        obtain ⟨c, hc⟩ : ∃ c : UInt8, s[k] = c := ⟨_, rfl⟩
        have hc2 : s.data.toList[k]'(by rw [hll]; exact hlt) = c := hc
        have hkq : ((k : Int) == (s.size : Int)) = false := by rw [beq_eq_false_iff_ne]; omega
        by_cases hb : c = 32
        · have hcb : ((c.toNat : Int) == 32) = true := by rw [hb]; rfl
          have hP2 : PInv s.data.toList (out ++ [(s.data.toList.drop q).take (k - q)]) (k + 1) (k + 1) := by
            refine ⟨fun h => ⟨Nat.le_refl _, ?_, fun j _ h1 h2 => by omega⟩, fun h => by omega, by simp; omega⟩
            rw [p2, spl_piece p1 (by omega) (hc2.trans hb) (fun j hj h1 h2 => p3 j hj h1 h2), List.append_assoc]; rfl
          obtain ⟨U, hU⟩ : ∃ U, s.extract q k = U := ⟨_, rfl⟩
          have hex : Hid (U = mkS ((s.data.toList.drop q).take (k - q))) := by show _ = _; rw [← hU]; exact extract_mkS s q k
          clear hP p2 p3 hb hc2
          go_wp2_with (at_builtin; refine wpList_append_vec1 (n := 140737488355328) U elemStr encS_one _ _ rfl rfl rfl ho hbl hbs rfl (Nat.le_refl _) (by rw [holm]; omega) (by rw [holm]; omega) ?_)
          intro v3 w3 ho3 hb3 _
          have ho4 : OwnS w3 w.heap.size v3 ((out ++ [(s.data.toList.drop q).take (k - q)]).map mkS) := by
            rw [List.map_append, List.map_singleton, ← hex.out]; exact ho3
          clear ho ho3 hex
          go_wp2
          go_roundw
          case rel => exact ⟨k + 1, k + 1, _, by omega, by go_num, by go_num, by omega, ho4, hP2, hb3⟩
          case measure => simp [intOf]; omega
        · have hcb : ((c.toNat : Int) == 32) = false := by
            rw [beq_eq_false_iff_ne]
            exact fun e => hb (UInt8.toNat_inj.1 (by have : (32 : UInt8).toNat = 32 := rfl; omega))
          have hP2 : PInv s.data.toList out q (k + 1) := by
            refine ⟨fun h => ⟨by omega, p2, fun j hj h1 h2 => ?_⟩, fun h => by omega, by omega⟩
            rcases Nat.lt_or_ge j k with h3 | h3
            · exact p3 j hj h1 h3
            · obtain rfl : j = k := by omega
              rw [hc2]; exact hb
          clear hP p2 p3 hb hc2
          go_wp2
          go_roundw
          case rel => exact ⟨k + 1, q, out, by omega, by go_num, rfl, by omega, ho, hP2, hbl⟩
          case measure => simp [intOf]; omega
      · have hf := hP.fin (by omega)
        go_wp2
        go_ret
        refine ⟨_, rfl, ?_, hbl⟩
        rw [hf]
        exact ho.reads (by rw [holm]; omega)
end Ln
end Go.Proofs.YtbcoecmeoemmeaaDoor
