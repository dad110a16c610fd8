/- Lengths of what is valid. -/
import Derived.Test.YtbcoecmeoemmeaaGreatDoorByt2
import Derived.Test.YtbcoecmeoemmeaaGreatDoorHead2
namespace Go.Proofs.YtbcoecmeoemmeaaGreatDoor
open Go.ChangeShapes Go.WideShapes Go.ChangeAt Go.RowKit
set_option linter.unusedVariables false
set_option linter.unusedSimpArgs false
theorem digs_one {h : View} {g : Nat} {d : Value} {x : List UInt8} (hc : h ⟨g, 0, none⟩ = some d) (hd : RBytes h d x) : RDigs h (.slice (some ⟨g, 0, none⟩) 1 1) [x] :=
  ⟨_, _, rfl, by simp, by decide, by simp, (fun h => by cases h), fun _ => ⟨g, 0, rfl, fun i hi => by
    have : i = 0 := by simp at hi; exact hi
    subst this
    exact ⟨[d], rfl, fun j hj => by
      have : j = 0 := by omega
      subst this; simpa using hc, d, rfl, by simpa using hd⟩⟩⟩
theorem texts_bound : ∀ (l : List ByteArray), l.all txOk = true → (textsB l).length ≤ l.length * 21
  | [], _ => by simp [textsB]
  | s :: l, h => by
    rw [List.all_cons, Bool.and_eq_true] at h
    have ih := texts_bound l h.2
    have hs : s.size ≤ 20 := by have := h.1; simp [txOk] at this; omega
    have e : textsB (s :: l) = (byteI s.size :: sbytes s) ++ textsB l := rfl
    rw [e, List.length_append, List.length_cons, List.length_cons, sbytes_len]
    omega
theorem batchF_zero {a n : Int} {l : List ByteArray} (h : batchF a n l = 0) : 1 ≤ n ∧ n ≤ 1048576 ∧ (textsB l).length ≤ 84 := by
  unfold batchF at h
  split at h
  · cases h
  · rename_i h1
    split at h
    · cases h
    · split at h
      · rename_i h2 h3
        have hb := texts_bound l h3
        have hn : inB n 1 1048576 = true := by
          cases hq : inB n 1 1048576
          · simp [hq] at h1
          · rfl
        simp [inB] at hn
        omega
      · cases h
theorem digsF_zero {l : List (List UInt8)} (h : digsF l = 0) : ∀ k (hk : k < l.length), l[k].length = 32 := by
  intro k hk
  refine Classical.byContradiction fun hne => ?_
  have h4 := digAt_len hk hne
  unfold digsF at h
  split at h
  · rename_i i hi
    have := (List.find?_eq_some_iff_append.1 hi).1
    simp [h] at this
  · rename_i hno
    rw [List.find?_eq_none] at hno
    have := hno k (List.mem_range.2 hk)
    simp [h4] at this
theorem flat_32 : ∀ (l : List (List UInt8)), (∀ k (hk : k < l.length), l[k].length = 32) → l.flatten.length = 32 * l.length
  | [], _ => rfl
  | x :: l, h => by
    have h0 := h 0 (by simp)
    simp only [List.getElem_cons_zero] at h0
    have ih := flat_32 l (fun k hk => by have := h (k + 1) (by simp; omega); simpa using this)
    rw [List.flatten_cons, List.length_append, h0, ih, List.length_cons]
    omega
theorem headF_zero {a r : Int} {b p : List (List UInt8)} (h : headF a r b p = 0) : 1 ≤ r ∧ r ≤ 1048576 ∧ b.flatten.length ≤ 96 ∧ p.flatten.length ≤ 128 := by
  unfold headF at h
  split at h
  · rename_i h1
    split at h
    · cases h
    · rename_i h2
      split at h
      · rename_i h3; exact absurd h h3
      · rename_i h3
        split at h
        · rename_i h4; exact absurd h h4
        · rename_i h4
          have hb := flat_32 b (digsF_zero (Classical.not_not.1 h3))
          have hp := flat_32 p (digsF_zero (Classical.not_not.1 h4))
          simp [inB] at h1
          omega
  · cases h
theorem headF_digs {a r : Int} {b p : List (List UInt8)} (h : headF a r b p = 0) : (∀ k (hk : k < b.length), b[k].length = 32) ∧ (∀ k (hk : k < p.length), p[k].length = 32) := by
  unfold headF at h
  split at h
  · split at h
    · cases h
    · split at h
      · rename_i h3; exact absurd h h3
      · rename_i h3
        split at h
        · rename_i h4; exact absurd h h4
        · rename_i h4
          exact ⟨digsF_zero (Classical.not_not.1 h3), digsF_zero (Classical.not_not.1 h4)⟩
  · cases h
theorem headerB_len (a r : Int) (b p : List (List UInt8)) : (headerB a r b p).length = 6 + b.flatten.length + p.flatten.length := by
  simp only [headerB, digsB, wideB, List.length_append, List.length_cons, List.length_nil]; omega
theorem batchB_len (a n : Int) (l : List ByteArray) : (batchB a n l).length = 5 + (textsB l).length := by
  simp only [batchB, wideB, List.length_append, List.length_cons, List.length_nil]
end Go.Proofs.YtbcoecmeoemmeaaGreatDoor
