/- Copies: a []byte joined of two, a []string copied: they read as what they were made of, in new memory. -/
import Derived.Test.YtbcoecmeoemmeaaGreatDoorBase
namespace Go.Proofs.YtbcoecmeoemmeaaGreatDoor
open Go.ChangeShapes Go.WideShapes Go.ChangeAt Go.RowKit
set_option linter.unusedVariables false
theorem elemByte : Elem1 Tryz.prog 41 5 1 := elem1 (z := .int .u8 0) Tryz.underlying41 (by kernel_rfl) rfl
theorem elemStr : Elem1 Tryz.prog 43 9 16 := elem1 (z := .string ByteArray.empty) Tryz.underlying43 (by kernel_rfl) rfl
def encS (s : ByteArray) : Value := .string s
theorem encB_one (b : UInt8) : (encB b).oneCell' = true := rfl
theorem encS_one (b : ByteArray) : (encS b).oneCell' = true := rfl
abbrev RTexts := RVec encS 16
abbrev OwnB := OwnVec encB 5
abbrev OwnS := OwnVec encS 9

set_option maxHeartbeats 400000 in
theorem octets_any (v : Value) (xs : List UInt8) (w : World) (hr : RBytes w.cell? v xs) :
    Calls Tryz.prog 14 #[v] w fun e w' => ∃ v', e = .returned v' ∧ Below w.heap.size w w' ∧ OwnB w' w.heap.size v' xs := by
  have hb : xs.length ≤ 140737488355328 := by obtain ⟨A, c, _, _, _, h, _⟩ := hr; omega
  go_enter Tryz.func14, Tryz.ntmps14
  go_wp2_with (at_builtin; refine wpList_append_vec (n := 140737488355328) elemByte encB_one _ _ rfl rfl rfl (OwnVec.nil _ _ _ _) (Below.refl _ _) (Nat.le_refl _) rfl hr (Nat.le_refl _) (by simpa using hb) (by simpa using hb) ?_)
  intro v' w1 ho hbl _
  go_wp2
  go_ret
  exact ⟨v', rfl, hbl, ho⟩
set_option maxHeartbeats 400000 in
theorem texts_any (v : Value) (xs : List ByteArray) (w : World) (hr : RTexts w.cell? v xs) :
    Calls Tryz.prog 45 #[v] w fun e w' => ∃ v', e = .returned v' ∧ Below w.heap.size w w' ∧ OwnS w' w.heap.size v' xs := by
  have hb : xs.length * 16 ≤ 140737488355328 := by obtain ⟨A, c, _, _, _, h, _⟩ := hr; exact h
  go_enter Tryz.func45, Tryz.ntmps45
  go_wp2_with (at_builtin; refine wpList_append_vec (n := 140737488355328) elemStr encS_one _ _ rfl rfl rfl (OwnVec.nil _ _ _ _) (Below.refl _ _) (Nat.le_refl _) rfl hr (Nat.le_refl _) (by simpa using hb) (by simp; omega) ?_)
  intro v' w1 ho hbl _
  go_wp2
  go_ret
  exact ⟨v', rfl, hbl, ho⟩
set_option maxHeartbeats 1000000 in
theorem joined_any (va vb : Value) (a b : List UInt8) (w : World) (ha : RBytes w.cell? va a) (hb : RBytes w.cell? vb b) (n : Nat) (hn : n ≤ 140737488355328) (hsz : a.length + b.length ≤ n) :
    Calls Tryz.prog 102 #[va, vb] w fun e w' => ∃ v, e = .returned v ∧ Below w.heap.size w w' ∧ OwnB w' w.heap.size v (a ++ b) := by
  obtain ⟨Aa, ca, rfl, hca, hca', hca2, _, hra⟩ := ha
  obtain ⟨Ab, cb, rfl, hcb, hcb', hcb2, _, hrb⟩ := hb
  have Hra := Lib.hid hra
  have Hrb := Lib.hid hrb
  clear hra hrb hca' hcb'
  go_enter Tryz.func102, Tryz.ntmps102
  go_wp2
  go_loopw [5, 6] (fun v i wr => ∃ k : Nat, k ≤ a.length ∧ i = .int .i64 k ∧ OwnB wr w.heap.size v (a.take k) ∧ Below w.heap.size w wr) (fun _ i _ => a.length - (intOf i).toNat)
  case atStart => exact ⟨0, Nat.zero_le _, rfl, OwnVec.nil _ _ _ _, Below.refl _ _⟩
  case round =>
    obtain ⟨k, hk, rfl, hown, hbl⟩ := hrel
    have hbs := hbl.size
    by_cases hlt : k < a.length
    · obtain ⟨b0, o0, rfl, hcell⟩ := Hra.out (by omega)
      have hc' : wr.cell? ⟨b0, o0 + k, none⟩ = some (.int .u8 (a[k].toNat)) := vle_below hbl _ _ (hcell k hlt)
      clear hcell
      go_wp2_with (at_builtin; go_loud (refine wpList_append_vec1 (n := n) a[k] elemByte encB_one _ _ rfl rfl rfl hown hbl hbs rfl hn (by simp; omega) (by simp; omega) ?_))
      intro v' w1 ho hbl' hg
      clear hg hown
      go_wp2
      go_roundw
      case rel => exact ⟨k + 1, by omega, by go_num, by simpa using ho, hbl'⟩
      case measure => simp [intOf]; omega
    · have : k = a.length := by omega
      subst this
      clear Hra
      go_wp2
      go_loopw [5, 7] (fun v i wr => ∃ k : Nat, k ≤ b.length ∧ i = .int .i64 k ∧ OwnB wr w.heap.size v (a ++ b.take k) ∧ Below w.heap.size w wr) (fun _ i _ => b.length - (intOf i).toNat)
      case atStart => exact ⟨0, Nat.zero_le _, rfl, by simpa using hown, hbl⟩
      case round =>
        clear hown hbl hbs
        obtain ⟨k, hk, rfl, hown, hbl⟩ := hrel
        have hbs := hbl.size
        by_cases hlt : k < b.length
        · obtain ⟨b0, o0, rfl, hcell⟩ := Hrb.out (by omega)
          have hc' : wr.cell? ⟨b0, o0 + k, none⟩ = some (.int .u8 (b[k].toNat)) := vle_below hbl _ _ (hcell k hlt)
          clear hcell
          go_wp2_with (at_builtin; go_loud (refine wpList_append_vec1 (n := n) b[k] elemByte encB_one _ _ rfl rfl rfl hown hbl hbs rfl hn (by simp; omega) (by simp; omega) ?_))
          intro v' w1 ho hbl' hg
          clear hg hown
          go_wp2
          go_roundw
          case rel => exact ⟨k + 1, by omega, by go_num, by simpa using ho, hbl'⟩
          case measure => simp [intOf]; omega
        · have : k = b.length := by omega
          subst this
          go_wp2
          go_ret
          exact ⟨_, rfl, hbl, by simpa using hown⟩
end Go.Proofs.YtbcoecmeoemmeaaGreatDoor
