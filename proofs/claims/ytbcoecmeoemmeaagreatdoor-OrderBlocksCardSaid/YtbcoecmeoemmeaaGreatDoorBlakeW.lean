/- The words of a block, byte by byte. -/
import Derived.Test.YtbcoecmeoemmeaaGreatDoorBlakeSpec
import Derived.Lib.EndianBits
namespace Go.Proofs.YtbcoecmeoemmeaaGreatDoor
open Go.ChangeShapes Go.WideShapes Go.ChangeAt Go.RowKit
set_option linter.unusedVariables false
def bt (b : List UInt8) (k i : Nat) : Nat := if i < k then (b.getD i 0).toNat else 0
theorem bt_take (b : List UInt8) (k i : Nat) : ((b.take k).getD i 0).toNat = bt b k i := by
  unfold bt
  rw [List.getD_eq_getElem?_getD, List.getElem?_take]
  split
  · rw [List.getD_eq_getElem?_getD]
  · rfl
theorem bt_same {b : List UInt8} {k i : Nat} (h : i ≠ k) : bt b (k + 1) i = bt b k i := by
  unfold bt
  by_cases h1 : i < k
  · rw [if_pos h1, if_pos (by omega)]
  · rw [if_neg h1, if_neg (by omega)]
theorem bt_new {b : List UInt8} {k : Nat} (h : k < b.length) : bt b (k + 1) k = b[k].toNat := by
  unfold bt
  rw [if_pos (by omega)]
  simp [h]
theorem bt_zero {b : List UInt8} {k i : Nat} (h : k ≤ i) : bt b k i = 0 := by unfold bt; rw [if_neg (by omega)]
theorem bt_lt (b : List UInt8) (k i : Nat) : bt b k i < 256 := by
  unfold bt
  split
  · exact UInt8.toNat_lt _
  · decide
theorem wordAt_take (b : List UInt8) (k j : Nat) : wordAt (b.take k) j = bt b k (4 * j) + 256 * bt b k (4 * j + 1) + 65536 * bt b k (4 * j + 2) + 16777216 * bt b k (4 * j + 3) := by
  unfold wordAt
  rw [bt_take, bt_take, bt_take, bt_take]
theorem words_len (b : List UInt8) : (words b).length = 16 := by simp [words]
theorem at0_words {b : List UInt8} {j : Nat} (hj : j < 16) : at0 (words b) j = wordAt b j := by
  unfold at0 words
  rw [List.getD_eq_getElem?_getD, List.getElem?_map, List.getElem?_range hj]
  rfl
theorem wordAt_lt (b : List UInt8) (j : Nat) : wordAt b j < 4294967296 := by
  unfold wordAt
  have h1 := UInt8.toNat_lt (b.getD (4 * j) 0)
  have h2 := UInt8.toNat_lt (b.getD (4 * j + 1) 0)
  have h3 := UInt8.toNat_lt (b.getD (4 * j + 2) 0)
  have h4 := UInt8.toNat_lt (b.getD (4 * j + 3) 0)
  omega
theorem Ws.words (b : List UInt8) : Ws 16 (words b) := by
  refine ⟨words_len b, fun i => ?_⟩
  by_cases hi : i < 16
  · rw [at0_words hi]; exact wordAt_lt b i
  · unfold at0
    rw [List.getD_eq_getElem?_getD, List.getElem?_eq_none (by rw [words_len]; omega)]
    show (0 : Nat) < _
    decide
/-- what is there of the word is below the next byte's place -/
theorem word_below (b : List UInt8) (k : Nat) (hk : k < 64) : at0 (words (b.take k)) (k / 4) < 2 ^ (8 * (k % 4)) := by
  rw [at0_words (by omega), wordAt_take]
  have h0 := bt_lt b k (4 * (k / 4))
  have h1 := bt_lt b k (4 * (k / 4) + 1)
  have h2 := bt_lt b k (4 * (k / 4) + 2)
  rw [bt_zero (i := 4 * (k / 4) + 3) (by omega)]
  have ht : k % 4 = 0 ∨ k % 4 = 1 ∨ k % 4 = 2 ∨ k % 4 = 3 := by omega
  rcases ht with ht | ht | ht | ht
  · rw [bt_zero (i := 4 * (k / 4)) (by omega), bt_zero (i := 4 * (k / 4) + 1) (by omega), bt_zero (i := 4 * (k / 4) + 2) (by omega), ht]; decide
  · rw [bt_zero (i := 4 * (k / 4) + 1) (by omega), bt_zero (i := 4 * (k / 4) + 2) (by omega), ht]; simp; omega
  · rw [bt_zero (i := 4 * (k / 4) + 2) (by omega), ht]; simp; omega
  · rw [ht]; simp; omega
theorem word_step (b : List UInt8) (k : Nat) (hk : k < 64) (hl : k < b.length) : at0 (words (b.take k)) (k / 4) + b[k].toNat * 2 ^ (8 * (k % 4)) = wordAt (b.take (k + 1)) (k / 4) := by
  rw [at0_words (by omega), wordAt_take, wordAt_take]
  have hn := bt_new hl
  have ht : k % 4 = 0 ∨ k % 4 = 1 ∨ k % 4 = 2 ∨ k % 4 = 3 := by omega
  rcases ht with ht | ht | ht | ht
  · have e : 4 * (k / 4) = k := by omega
    rw [ht, bt_same (i := 4 * (k / 4) + 1) (by omega), bt_same (i := 4 * (k / 4) + 2) (by omega), bt_same (i := 4 * (k / 4) + 3) (by omega), bt_zero (k := k) (i := 4 * (k / 4)) (by omega)]
    rw [e, hn]; omega
  · have e : 4 * (k / 4) + 1 = k := by omega
    rw [ht, bt_same (i := 4 * (k / 4)) (by omega), bt_same (i := 4 * (k / 4) + 2) (by omega), bt_same (i := 4 * (k / 4) + 3) (by omega), bt_zero (k := k) (i := 4 * (k / 4) + 1) (by omega)]
    rw [e, hn]; omega
  · have e : 4 * (k / 4) + 2 = k := by omega
    rw [ht, bt_same (i := 4 * (k / 4)) (by omega), bt_same (i := 4 * (k / 4) + 1) (by omega), bt_same (i := 4 * (k / 4) + 3) (by omega), bt_zero (k := k) (i := 4 * (k / 4) + 2) (by omega)]
    rw [e, hn]; omega
  · have e : 4 * (k / 4) + 3 = k := by omega
    rw [ht, bt_same (i := 4 * (k / 4)) (by omega), bt_same (i := 4 * (k / 4) + 1) (by omega), bt_same (i := 4 * (k / 4) + 2) (by omega), bt_zero (k := k) (i := 4 * (k / 4) + 3) (by omega)]
    rw [e, hn]; omega
theorem words_step (b : List UInt8) (k : Nat) (hk : k < 64) (hl : k < b.length) : (words (b.take k)).set (k / 4) (at0 (words (b.take k)) (k / 4) + b[k].toNat * 2 ^ (8 * (k % 4))) = words (b.take (k + 1)) := by
  rw [word_step b k hk hl]
  refine List.ext_getElem (by simp [words_len]) (fun j h1 h2 => ?_)
  rw [List.getElem_set]
  have hj : j < 16 := by rw [words_len] at h2; exact h2
  split
  · rename_i e
    subst e
    simp [words]
  · rename_i e
    simp only [words, List.getElem_map, List.getElem_range]
    rw [wordAt_take, wordAt_take, bt_same (by omega), bt_same (by omega), bt_same (by omega), bt_same (by omega)]
theorem words_nil : words [] = List.replicate 16 0 := by decide
theorem words_step_lt (b : List UInt8) (k : Nat) (hk : k < 64) (hl : k < b.length) : at0 (words (b.take k)) (k / 4) + b[k].toNat * 2 ^ (8 * (k % 4)) < 4294967296 := by
  rw [word_step b k hk hl]; exact wordAt_lt _ _
theorem u32_or_step (m c s : Nat) (hs : s = 0 ∨ s = 8 ∨ s = 16 ∨ s = 24) (hm : m < 2 ^ s) (hc : c < 256) : bits .or .u32 m (IntKind.u32.wrap ((c : Int) * 2 ^ s)) = ((m + c * 2 ^ s : Nat) : Int) := by
  rcases hs with rfl | rfl | rfl | rfl
  · have : m = 0 := by simpa using hm
    subst this
    rw [IntKind.wrap_u32]
    have := (bits_nat .u32 32 (by decide) wraps32 0 c (by decide) (by omega)).2
    simp at this ⊢
    rw [show ((c : Int) % 4294967296) = c by omega, this]
  · rw [IntKind.wrap_u32, show ((c : Int) * 2 ^ 8) % 4294967296 = c * 256 by omega, u32_or8 _ _ (by omega) (by omega) (by omega) (by omega) (by omega)]; omega
  · rw [IntKind.wrap_u32, show ((c : Int) * 2 ^ 16) % 4294967296 = c * 65536 by omega, u32_or16 _ _ (by omega) (by omega) (by omega) (by omega) (by omega)]; omega
  · rw [IntKind.wrap_u32, show ((c : Int) * 2 ^ 24) % 4294967296 = c * 16777216 by omega, u32_or24 _ _ (by omega) (by omega) (by omega) (by omega) (by omega)]; omega
end Go.Proofs.YtbcoecmeoemmeaaGreatDoor
