/- The reference reads digits and numbers. -/
import Derived.Test.YtbcoecmeoemmeaaDoorLn10
namespace Go.Proofs.YtbcoecmeoemmeaaDoor
open Go.ChangeShapes Go.WideShapes Go.ChangeAt Go.RowKit
set_option linter.unusedVariables false
set_option linter.unusedSimpArgs false
namespace Ln
set_option maxHeartbeats 4000000 in
set_option maxRecDepth 100000 in
theorem valueOf_any (c : UInt8) (w : World) : Calls Tryd.prog 46 #[.int .u8 c.toNat] w fun e w' => e = .returned (.int .i64 (hexI c)) ∧ w' = w := by
  obtain ⟨V, hV⟩ : ∃ V, Hid (hexI c = V) := ⟨_, rfl⟩
  rw [hV.out]
  go_enter Tryd.func46, Tryd.ntmps46
  go_wp2
  go_loop [3] (fun i => ∃ k : Nat, k ≤ 16 ∧ i = .int .i64 k ∧ Hid (∀ m, m < k → hexd m ≠ c)) (fun i => 16 - (intOf i).toNat)
  case atStart => exact ⟨0, by decide, rfl, fun m hm => by omega⟩
  case round =>
    obtain ⟨k, hk, rfl, hno⟩ := hrel
    by_cases hlt : k < 16
    · by_cases he : hexd k = c
      · have hb : (((hexd k).toNat : Int) == (c.toNat : Int)) = true := by rw [he]; simp
        have hv : V = k := by rw [← hV.out]; exact hexI_some ((hexd_v k hlt c).1 he)
        clear he
        go_wp2_with fail
        ((with_reducible refine (hexDigit_any k _ rfl hlt _).mono ?_))
        rintro e w1 ⟨rfl, rfl⟩
        go_wp2
        go_ret
        exact ⟨ret_int hv.symm, rfl⟩
      · have hb : (((hexd k).toNat : Int) == (c.toNat : Int)) = false := by
          rw [beq_eq_false_iff_ne]
          intro e
          exact he (UInt8.toNat_inj.1 (by omega))
        have hno2 : Hid (∀ m, m < k + 1 → hexd m ≠ c) := by
          show ∀ m, m < k + 1 → hexd m ≠ c
          intro m hm
          rcases Nat.lt_or_ge m k with h | h
          · exact hno.out m h
          · obtain rfl : m = k := by omega
            exact he
        clear he
        go_wp2_with fail
        ((with_reducible refine (hexDigit_any k _ rfl hlt _).mono ?_))
        rintro e w1 ⟨rfl, rfl⟩
        go_wp2
        go_round
        case rel => exact ⟨k + 1, by omega, by go_num, hno2⟩
        case measure => simp [intOf]; omega
    · have hv : V = -1 := by
        rw [← hV.out]
        refine hexI_none ?_
        cases hx : hexv c with
        | none => rfl
        | some m => exact absurd ((hexd_v m (hexv_lt hx) c).2 hx) (hno.out m (by have := hexv_lt hx; omega))
      go_wp2
      go_ret
      exact ⟨rfl, rfl⟩
theorem mul_val (a b : Nat) (ha : a < 16) (hb : b < 16) : (16 * (a : Int) + (b : Int)) % 256 = ((UInt8.ofNat (16 * a + b)).toNat : Int) := by
  rw [UInt8.toNat_ofNat']
  omega
set_option maxHeartbeats 4000000 in
set_option maxRecDepth 100000 in
theorem bytesOfHex_any (s : ByteArray) (hs : s.size ≤ 1048576) (w : World) : Calls Tryd.prog 39 #[.string s] w (UnOut (unhexL s.data.toList) w) := by
  have hll : s.data.toList.length = s.size := Array.length_toList
  obtain ⟨O, hO⟩ : ∃ O, Hid (unhexL s.data.toList = O) := ⟨_, rfl⟩
  rw [hO.out]
  go_enter Tryd.func39, Tryd.ntmps39
  go_wp2
  go_loopw [4, 5] (fun v i wr => ∃ (k : Nat) (bs : List UInt8), k ≤ s.size ∧ k % 2 = 0 ∧ i = .int .i64 k ∧ bs.length ≤ k ∧ OwnB wr w.heap.size v bs ∧ Hid (unhexL s.data.toList = (unhexL (s.data.toList.drop k)).map (bs ++ ·)) ∧ Below w.heap.size w wr) (fun _ i _ => s.size - (intOf i).toNat)
  case atStart => exact ⟨0, [], Nat.zero_le _, rfl, rfl, Nat.le_refl _, OwnVec.nil _ _ _ _, by show _ = _; simp, Below.refl _ _⟩
  case round =>
    obtain ⟨k, bs, hk, hk2, rfl, hbl2, ho, hH, hbl⟩ := hrel
    by_cases hlt1 : k + 1 < s.size
    · have hlt : k < s.size := by omega
      obtain ⟨ca, hca⟩ : ∃ c : UInt8, s[k] = c := ⟨_, rfl⟩
      obtain ⟨cb, hcb⟩ : ∃ c : UInt8, s[k + 1] = c := ⟨_, rfl⟩
      have e1 : s.data.toList[k]'(by rw [hll]; exact hlt) = ca := hca
      have e2 : s.data.toList[k + 1]'(by rw [hll]; exact hlt1) = cb := hcb
      have hst : Hid (∀ a b, hexv ca = some a → hexv cb = some b → unhexL s.data.toList = (unhexL (s.data.toList.drop (k + 2))).map ((bs ++ [UInt8.ofNat (16 * a + b)]) ++ ·)) := by
        intro a b ha hb
        exact un_step hH.out (by rw [hll]; exact hlt1) (by rw [e1]; exact ha) (by rw [e2]; exact hb)
      have hbd : Hid (hexv ca = none ∨ hexv cb = none → O = none) := by
        intro hq
        rw [← hO.out]
        exact un_bad hH.out (by rw [hll]; exact hlt1) (by rw [e1, e2]; exact hq)
      have hcb' : s[k + 1]'(hlt1) = cb := hcb
      clear e1 e2 hH hcb
      go_wp2_with fail
      ((with_reducible refine (valueOf_any ca _).mono ?_))
      rintro e w2 ⟨rfl, rfl⟩
      obtain ⟨VA, hVA⟩ : ∃ V, Hid (hexI ca = V) := ⟨_, rfl⟩
      rw [hVA.out]
      go_wp2_with fail
      ((with_reducible refine (valueOf_any cb _).mono ?_))
      rintro e w2 ⟨rfl, rfl⟩
      obtain ⟨VB, hVB⟩ : ∃ V, Hid (hexI cb = V) := ⟨_, rfl⟩
      rw [hVB.out]
      cases ha : hexv ca with
      | none =>
        obtain rfl : -1 = VA := (hexI_none ha).symm.trans hVA.out
        have hn : O = none := hbd.out (.inl ha)
        clear hst hbd
        go_wp2
        go_ret2
        exact unout_no _ hn hbl
      | some va =>
        obtain rfl : (va : Int) = VA := (hexI_some ha).symm.trans hVA.out
        have hva := hexv_lt ha
        cases hb : hexv cb with
        | none =>
          obtain rfl : -1 = VB := (hexI_none hb).symm.trans hVB.out
          have hn : O = none := hbd.out (.inr hb)
          clear hst hbd
          go_wp2
          go_ret2
          exact unout_no _ hn hbl
        | some vb =>
          obtain rfl : (vb : Int) = VB := (hexI_some hb).symm.trans hVB.out
          have hvb := hexv_lt hb
          have hst2 := Lib.hid (hst.out va vb ha hb)
          clear hst hbd ha hb hVA hVB
          obtain ⟨cc, hcc⟩ : ∃ cc, Hid (UInt8.ofNat (16 * va + vb) = cc) := ⟨_, rfl⟩
          have hbv : (16 * (va : Int) + (vb : Int)) % 256 = (cc.toNat : Int) := by rw [← hcc.out]; exact mul_val va vb hva hvb
          have hbw : IntKind.u8.wrap (16 * (va : Int) + (vb : Int)) = (cc.toNat : Int) := by
            have : 16 * (va : Int) + (vb : Int) < 256 := by omega
            rw [← hbv]
            simp [IntKind.wrap, IntKind.signed, IntKind.bits]
          have hcl : 16 * (va : Int) + (vb : Int) = (cc.toNat : Int) := by omega
          rw [hcc.out] at hst2
          have hbs := hbl.size
          go_wp2_with (at_builtin; refine wpList_append_vec1 (n := 140737488355328) cc elemByte encB_one _ _ rfl rfl rfl ho hbl hbs rfl (Nat.le_refl _) (by omega) (by omega) ?_)
          intro v3 w3 ho3 hb3 _
          clear hbv hbw hcl
          go_wp2
          go_roundw
          case rel => exact ⟨k + 2, bs ++ [cc], by omega, by omega, by go_num, by simp; omega, ho3, hst2, hb3⟩
          case measure => simp [intOf]; omega
    · have hbz := hblS_len hbl2 hk hs
      have ga := run_toStr (ho.reads (bs := 1) hbz)
      rw [mkS_bstr] at ga
      obtain ⟨U, hU⟩ : ∃ U, Hid (mkS bs = U) := ⟨_, rfl⟩
      rw [hU.out] at ga
      have eq2 : (s.size : Int).tmod 2 = ((s.size % 2 : Nat) : Int) := (Int.ofNat_tmod _ 2).symm
      by_cases hke : k = s.size
      · have hO2 : O = some bs := by
          rw [← hO.out, hH.out, hke, unhex_end _ _ (by rw [hll]; exact Nat.le_refl _)]
          simp
        have hz : (s.size : Int) % 2 = 0 := by omega
        clear hH ho hke eq2
        go_wp2
        go_ret2
        exact unout_yes hO2 hU.out.symm hbl
      · have hO2 : O = none := by
          rw [← hO.out, hH.out, unhex_last _ _ (by rw [hll]; omega)]
          rfl
        have hz : (s.size : Int) % 2 = 1 := by omega
        clear hH ho hke eq2
        go_wp2
        go_ret2
        exact unout_no _ hO2 hbl
end Ln
end Go.Proofs.YtbcoecmeoemmeaaDoor
