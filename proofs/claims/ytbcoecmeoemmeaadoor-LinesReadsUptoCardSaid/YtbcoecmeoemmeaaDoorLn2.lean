/- A text in digits of sixteen: lines.hex. -/
import Derived.Test.YtbcoecmeoemmeaaDoorLn1
import Derived.Test.YtbcoecmeoemmeaaDoorLnL
import Derived.Test.YtbcoecmeoemmeaaDoorAct2
namespace Go.Proofs.YtbcoecmeoemmeaaDoor
open Go.ChangeShapes Go.WideShapes Go.ChangeAt Go.RowKit
set_option linter.unusedVariables false
set_option linter.unusedSimpArgs false
namespace Ln
theorem Bld.lib {w : World} {b : Nat} {l : List UInt8} (h : Bld w b l) : Lib.IsBuilder 35 5 b b (Lib.byteCells l) w := by
  obtain ⟨p, v, h1, h2, h3⟩ := h
  have h4 := (h3.base (Nat.le_succ b)).own
  have hb : Lib.BuilderAt 35 5 b b p (Lib.byteCells l) w := by
    refine ⟨Nat.le_refl _, v, h1, ?_, fun e => ?_⟩
    · have e1 : Lib.byteCells l = l.map encB := rfl
      rw [e1, List.length_map]
      exact h4
    · have := (h3.own.lt b e).1
      omega
  rcases h2 with rfl | rfl
  · exact .inl hb
  · exact .inr hb
theorem string_any (b : Nat) (l : List UInt8) (w : World) (h : Bld w b l) :
    Calls Tryd.prog 16 #[.pointer (some ⟨b, 0, none⟩)] w fun e w' => e = .returned (.string (mkS l)) ∧ Below b w w' :=
  Builder_String_any b b l w h.lib (by have := h.lt; omega)
theorem hexL_snoc (l : List UInt8) (c : UInt8) : hexL (l ++ [c]) = hexL l ++ [hexd (c.toNat / 16)] ++ [hexd (c.toNat % 16)] := by
  unfold hexL
  simp [List.flatMap_append]
theorem hexL_len (l : List UInt8) : (hexL l).length = 2 * l.length := by
  induction l with
  | nil => rfl
  | cons c l ih =>
    have : hexL (c :: l) = [hexd (c.toNat / 16), hexd (c.toNat % 16)] ++ hexL l := rfl
    rw [this, List.length_append, ih]; simp; omega
theorem take_snoc (s : ByteArray) (k : Nat) (h : k < s.size) : s.data.toList.take (k + 1) = s.data.toList.take k ++ [s[k]] := by
  rw [List.take_succ_eq_append_getElem (by simpa using h)]; rfl
theorem digit_at (n : Nat) (h : n < 16) : (((({ data := #[48, 49, 50, 51, 52, 53, 54, 55, 56, 57, 97, 98, 99, 100, 101, 102] } : ByteArray)[n]'(h)).toNat : Nat) : Int) = (hexd n).toNat := by
  have h0 : ∀ m : Fin 16, ((({ data := #[48, 49, 50, 51, 52, 53, 54, 55, 56, 57, 97, 98, 99, 100, 101, 102] } : ByteArray)[m.val]'(m.isLt)).toNat : Nat) = (hexd m.val).toNat := by decide +kernel
  exact congrArg Int.ofNat (h0 ⟨n, h⟩)
set_option maxHeartbeats 2000000 in
set_option maxRecDepth 100000 in
theorem hex_any (s : ByteArray) (w : World) (hs : s.size ≤ 4000) :
    Calls Tryd.prog 15 #[.string s] w fun e w' => e = .returned (.string (mkS (hexL s.data.toList))) ∧ Below w.heap.size w w' := by
  go_enter Tryd.func15, Tryd.ntmps15
  go_wp2
  go_loopw [7] (fun i wr => ∃ k : Nat, k ≤ s.size ∧ i = .int .i64 k ∧ Bld wr w.heap.size (hexL (s.data.toList.take k)) ∧ Below w.heap.size w wr) (fun i _ => s.size - (intOf i).toNat)
  case atStart => exact ⟨0, Nat.zero_le _, rfl, Bld.new w, below_one _ _⟩
  case round =>
    obtain ⟨k, hk, rfl, hB, hbl⟩ := hrel
    have hL := hexL_len (s.data.toList.take k)
    have hl2 : (s.data.toList.take k).length ≤ k := List.length_take_le _ _
    by_cases hlt : k < s.size
    · have hsn : Hid (hexL (s.data.toList.take (k + 1)) = hexL (s.data.toList.take k) ++ [hexd (s[k].toNat / 16)] ++ [hexd (s[k].toNat % 16)]) := by
        show _ = _
        rw [take_snoc s k hlt, hexL_snoc]
      have hc := UInt8.toNat_lt s[k]
      have hc1 : s[k].toNat / 16 < 16 := by omega
      have hc2 : (s[k].toNat : Int) / 16 < 16 := by omega
      have hc3 : s[k].toNat % 16 < 16 := by omega
      have hc4 : (s[k].toNat : Int) % 16 < 16 := by omega
      obtain ⟨L, hLL⟩ : ∃ L, Hid (hexL (s.data.toList.take k) = L) := ⟨_, rfl⟩
      rw [hLL.out] at hB hL hsn
      have hL2 : L.length ≤ 8000 := by omega
      clear hL hl2
      go_wp2_with fail
      refine (writeByte_any _ L (hexd (s[k].toNat / 16)) _ hB (by omega) _ (digit_at _ hc1)).mono ?_
      rintro e w1 ⟨rfl, hB1, hb1, _⟩
      go_wp2_with fail
      refine (writeByte_any _ _ (hexd (s[k].toNat % 16)) _ hB1 (by simp; omega) _ (digit_at _ hc3)).mono ?_
      rintro e w2 ⟨rfl, hB2, hb2, _⟩
      have hbl2 := (hbl.trans hb1).trans hb2
      have hB3 : Bld w2 w.heap.size (hexL (s.data.toList.take (k + 1))) := by rw [hsn.out]; exact hB2
      clear hB hB1 hB2 hb1 hb2 hbl
      go_wp2
      go_roundw
      case rel => exact ⟨k + 1, by omega, by go_num, hB3, hbl2⟩
      case measure => simp [intOf]; omega
    · have hke : k = s.size := by omega
      have hB3 : Bld wr w.heap.size (hexL s.data.toList) := by
        rw [hke, List.take_of_length_le (by simp)] at hB
        exact hB
      clear hB hL hl2
      go_wp2_with fail
      refine (string_any _ _ _ hB3).mono ?_
      rintro e w2 ⟨rfl, hb2⟩
      go_wp2
      go_ret
      exact ⟨rfl, hbl.trans hb2⟩
end Ln
end Go.Proofs.YtbcoecmeoemmeaaDoor
