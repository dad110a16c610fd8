/- The reference reads numbers; a line parted by blanks. -/
import Derived.Test.YtbcoecmeoemmeaaDoorLn11
namespace Go.Proofs.YtbcoecmeoemmeaaDoor
open Go.ChangeShapes Go.WideShapes Go.ChangeAt Go.RowKit
set_option linter.unusedVariables false
set_option linter.unusedSimpArgs false
namespace Ln
theorem run_gtr_str (x y : ByteArray) (w : World) : (binOp .gtr 9 (.string x) (.string y)).run Tryd.prog w = .ok (.bool (!(Op.bytesLess x.toList y.toList || x.toList == y.toList))) w := by
  simp [binOp, run_underlying Tryd.underlying9, Op.stringOp]
set_option maxHeartbeats 4000000 in
set_option maxRecDepth 100000 in
theorem tooGreat_any (s : ByteArray) (w : World) : Calls Tryd.prog 38 #[.string s] w fun e w' => e = .returned (.bool (great s.data.toList)) ∧ w' = w := by
  have hll : s.data.toList.length = s.size := Array.length_toList
  have hls : s.toList = s.data.toList := ByteArray.toList_eq s
  obtain ⟨V, hV⟩ : ∃ V, Hid (great s.data.toList = V) := ⟨_, rfl⟩
  rw [hV.out]
  rcases Nat.lt_trichotomy s.size 19 with h | h | h
  · have hv : V = false := by
      rw [← hV.out]; unfold great
      rw [hll, decide_eq_false (by omega), decide_eq_false (by omega)]; rfl
    subst hv
    have d1 : decide ((19 : Int) < s.size) = false := decide_eq_false (by omega)
    have d2 : ((s.size : Int) == 19) = false := by rw [beq_eq_false_iff_ne]; omega
    clear hls hll hV
    go_enter Tryd.func38, Tryd.ntmps38
    go_wp2
    go_ret
    exact ⟨rfl, rfl⟩
  · have hv : Hid (V = !(Op.bytesLess s.toList mostS || s.toList == mostS)) := by
      show _ = _
      rw [← hV.out]; unfold great
      rw [hll, hls, decide_eq_false (by omega), decide_eq_true h]; rfl
    have hgt : (binOp .gtr 9 (.string s) (.string { data := #[57, 50, 50, 51, 51, 55, 50, 48, 51, 54, 56, 53, 52, 55, 55, 53, 56, 48, 55] })).run Tryd.prog w = .ok (.bool V) w := by
      rw [run_gtr_str, hv.out, show ({ data := #[57, 50, 50, 51, 51, 55, 50, 48, 51, 54, 56, 53, 52, 55, 55, 53, 56, 48, 55] } : ByteArray).toList = mostS from ByteArray.toList_eq _]
    clear hls hll hV hv
    go_enter Tryd.func38, Tryd.ntmps38
    go_wp2
    go_ret
    exact ⟨rfl, rfl⟩
  · have hv : V = true := by
      rw [← hV.out]; unfold great
      rw [hll, decide_eq_true h]; rfl
    subst hv
    have d1 : decide ((19 : Int) < s.size) = true := decide_eq_true (by omega)
    clear hls hll hV
    go_enter Tryd.func38, Tryd.ntmps38
    go_wp2
    go_ret
    exact ⟨rfl, rfl⟩
theorem numF_cons (a : Nat) (c : UInt8) (r : List UInt8) : numF a (c :: r) = if 48 ≤ c.toNat ∧ c.toNat ≤ 57 then numF (min (10 * a + (c.toNat - 48)) 1000000) r else -1 := rfl
set_option maxHeartbeats 4000000 in
set_option maxRecDepth 100000 in
theorem numberOf_any (s : ByteArray) (hs : s.size ≤ 1048576) (w : World) : Calls Tryd.prog 37 #[.string s] w fun e w' => e = .returned (.int .i64 (numR s.data.toList)) ∧ w' = w := by
  have hll : s.data.toList.length = s.size := Array.length_toList
  obtain ⟨V, hV⟩ : ∃ V, Hid (numR s.data.toList = V) := ⟨_, rfl⟩
  rw [hV.out]
  by_cases hz : s.size = 0
  · have hv : V = -1 := by rw [← hV.out]; unfold numR; rw [hll, if_pos (.inl hz)]
    subst hv
    clear hV hll
    go_enter Tryd.func37, Tryd.ntmps37
    go_wp2
    go_ret
    exact ⟨rfl, rfl⟩
  have hp : 0 < s.size := by omega
  have hz0 : ((s.size : Int) == 0) = false := by rw [beq_eq_false_iff_ne]; omega
  have hhd : s.data.toList.head? = some (s[0]) := by
    have : s.data.toList = s[0] :: s.data.toList.drop 1 := by
      have := List.drop_eq_getElem_cons (l := s.data.toList) (i := 0) (by rw [hll]; exact hp)
      rw [List.drop_zero] at this
      exact this
    rw [this]; rfl
  obtain ⟨c0, hc0⟩ : ∃ c : UInt8, s[0] = c := ⟨_, rfl⟩
  rw [hc0] at hhd
  by_cases hb : 1 < s.size ∧ c0 = 48
  · have hv : V = -1 := by rw [← hV.out]; unfold numR; rw [hll, if_pos (.inr ⟨hb.1, by rw [hhd, hb.2]⟩)]
    subst hv
    have h1 : 1 < s.size := hb.1
    have hcq : ((c0.toNat : Int) == 48) = true := by rw [hb.2]; rfl
    have d1 : decide ((1 : Int) < s.size) = true := decide_eq_true (by omega)
    clear hV hll hhd hb hz
    go_enter Tryd.func37, Tryd.ntmps37
    go_wp2
    go_ret
    exact ⟨rfl, rfl⟩
  have hV0 : Hid (V = numF 0 s.data.toList) := by
    show _ = _
    rw [← hV.out]; unfold numR
    rw [if_neg]
    rintro (e | ⟨e1, e2⟩)
    · rw [hll] at e; omega
    · rw [hll] at e1
      rw [hhd] at e2
      injection e2 with e2
      exact hb ⟨e1, e2⟩
  have hne : 1 < s.size → ((c0.toNat : Int) == 48) = false := fun h1 => by
    rw [beq_eq_false_iff_ne]
    exact fun e => hb ⟨h1, UInt8.toNat_inj.1 (by have : (48 : UInt8).toNat = 48 := rfl; omega)⟩
  have Hne := Lib.hid hne
  clear hV hhd hb hne
  have hre : True := trivial
  by_cases h1 : 1 < s.size
  · have hnb := Hne.out h1
    have d1 : decide ((1 : Int) < s.size) = true := decide_eq_true (by omega)
    clear Hne
    go_enter Tryd.func37, Tryd.ntmps37
    go_wp2
    go_loopw [3, 4] (fun nv i wr => ∃ k a : Nat, k ≤ s.size ∧ i = .int .i64 k ∧ nv = .int .i64 a ∧ a ≤ 1000000 ∧ Hid (V = numF a (s.data.toList.drop k)) ∧ w = wr) (fun _ i _ => s.size - (intOf i).toNat)
    case atStart => exact ⟨0, 0, Nat.zero_le _, rfl, rfl, by decide, by rw [List.drop_zero]; exact hV0, rfl⟩
    case round =>
      clear d1 hz0 hz
      (try clear hnb)
      obtain ⟨k, a, hk, rfl, rfl, ha, hH, rfl⟩ := hrel
      by_cases hlt : k < s.size
      · obtain ⟨c, hc⟩ : ∃ c : UInt8, s[k] = c := ⟨_, rfl⟩
        have hst : Hid (V = if 48 ≤ c.toNat ∧ c.toNat ≤ 57 then numF (min (10 * a + (c.toNat - 48)) 1000000) (s.data.toList.drop (k + 1)) else -1) := by
          show _ = _
          rw [hH.out, List.drop_eq_getElem_cons (by rw [hll]; exact hlt), numF_cons]
          have : s.data.toList[k]'(by rw [hll]; exact hlt) = c := hc
          rw [this]
        have hcl := UInt8.toNat_lt c
        clear hH
        by_cases hd : 48 ≤ c.toNat ∧ c.toNat ≤ 57
        · obtain ⟨d1', d2'⟩ := hd
          have hin : inB (c.toNat : Int) 48 57 = true := by simp [inB]; omega
          by_cases hbig : 1000000 < 10 * a + (c.toNat - 48)
          · have hst2 : Hid (V = numF 1000000 (s.data.toList.drop (k + 1))) := by
              show _ = _
              rw [hst.out, if_pos ⟨d1', d2'⟩, Nat.min_eq_right (by omega)]
            have g1 : (1000000 : Int) < 10 * (a : Int) + ((c.toNat : Int) - 48) := by omega
            clear hst
            go_wp2_with (go_at_call 25; refine (in_any _ _ _ _).mono ?_; rintro e w' ⟨rfl, rfl⟩)
            go_roundw
            case rel => exact ⟨k + 1, 1000000, by omega, by go_num, rfl, by decide, hst2, trivial⟩
            case measure => simp [intOf]; omega
          · obtain ⟨a2, ha2⟩ : ∃ a2, Hid (10 * a + (c.toNat - 48) = a2) := ⟨_, rfl⟩
            have hst2 : Hid (V = numF a2 (s.data.toList.drop (k + 1))) := by
              show _ = _
              rw [hst.out, if_pos ⟨d1', d2'⟩, Nat.min_eq_left (by omega), ha2.out]
            have g1 : 10 * (a : Int) + ((c.toNat : Int) - 48) = (a2 : Int) := by have := ha2.out; omega
            have g2 : a2 ≤ 1000000 := by have := ha2.out; omega
            clear hst hbig
            go_wp2_with (go_at_call 25; refine (in_any _ _ _ _).mono ?_; rintro e w' ⟨rfl, rfl⟩)
            go_roundw
            case rel => exact ⟨k + 1, a2, by omega, by go_num, rfl, g2, hst2, trivial⟩
            case measure => simp [intOf]; omega
        · have hin : inB (c.toNat : Int) 48 57 = false := by simp [inB]; omega
          have hv : Hid (V = -1) := by show _ = _; rw [hst.out, if_neg hd]
          clear hst hd
          go_wp2_with (go_at_call 25; refine (in_any _ _ _ _).mono ?_; rintro e w' ⟨rfl, rfl⟩)
          go_ret
          exact ⟨ret_int hv.out.symm, rfl⟩
      · have hv : Hid (V = a) := by
          show _ = _
          rw [hH.out, List.drop_eq_nil_of_le (by rw [hll]; omega)]; rfl
        clear hH
        go_wp2
        go_ret
        exact ⟨ret_int hv.out.symm, rfl⟩
  · have d1 : decide ((1 : Int) < s.size) = false := decide_eq_false (by omega)
    clear Hne
    go_enter Tryd.func37, Tryd.ntmps37
    go_wp2
    go_loopw [3, 4] (fun nv i wr => ∃ k a : Nat, k ≤ s.size ∧ i = .int .i64 k ∧ nv = .int .i64 a ∧ a ≤ 1000000 ∧ Hid (V = numF a (s.data.toList.drop k)) ∧ w = wr) (fun _ i _ => s.size - (intOf i).toNat)
    case atStart => exact ⟨0, 0, Nat.zero_le _, rfl, rfl, by decide, by rw [List.drop_zero]; exact hV0, rfl⟩
    case round =>
      clear d1 hz0 hz
      (try clear hnb)
      obtain ⟨k, a, hk, rfl, rfl, ha, hH, rfl⟩ := hrel
      by_cases hlt : k < s.size
      · obtain ⟨c, hc⟩ : ∃ c : UInt8, s[k] = c := ⟨_, rfl⟩
        have hst : Hid (V = if 48 ≤ c.toNat ∧ c.toNat ≤ 57 then numF (min (10 * a + (c.toNat - 48)) 1000000) (s.data.toList.drop (k + 1)) else -1) := by
          show _ = _
          rw [hH.out, List.drop_eq_getElem_cons (by rw [hll]; exact hlt), numF_cons]
          have : s.data.toList[k]'(by rw [hll]; exact hlt) = c := hc
          rw [this]
        have hcl := UInt8.toNat_lt c
        clear hH
        by_cases hd : 48 ≤ c.toNat ∧ c.toNat ≤ 57
        · obtain ⟨d1', d2'⟩ := hd
          have hin : inB (c.toNat : Int) 48 57 = true := by simp [inB]; omega
          by_cases hbig : 1000000 < 10 * a + (c.toNat - 48)
          · have hst2 : Hid (V = numF 1000000 (s.data.toList.drop (k + 1))) := by
              show _ = _
              rw [hst.out, if_pos ⟨d1', d2'⟩, Nat.min_eq_right (by omega)]
            have g1 : (1000000 : Int) < 10 * (a : Int) + ((c.toNat : Int) - 48) := by omega
            clear hst
            go_wp2_with (go_at_call 25; refine (in_any _ _ _ _).mono ?_; rintro e w' ⟨rfl, rfl⟩)
            go_roundw
            case rel => exact ⟨k + 1, 1000000, by omega, by go_num, rfl, by decide, hst2, trivial⟩
            case measure => simp [intOf]; omega
          · obtain ⟨a2, ha2⟩ : ∃ a2, Hid (10 * a + (c.toNat - 48) = a2) := ⟨_, rfl⟩
            have hst2 : Hid (V = numF a2 (s.data.toList.drop (k + 1))) := by
              show _ = _
              rw [hst.out, if_pos ⟨d1', d2'⟩, Nat.min_eq_left (by omega), ha2.out]
            have g1 : 10 * (a : Int) + ((c.toNat : Int) - 48) = (a2 : Int) := by have := ha2.out; omega
            have g2 : a2 ≤ 1000000 := by have := ha2.out; omega
            clear hst hbig
            go_wp2_with (go_at_call 25; refine (in_any _ _ _ _).mono ?_; rintro e w' ⟨rfl, rfl⟩)
            go_roundw
            case rel => exact ⟨k + 1, a2, by omega, by go_num, rfl, g2, hst2, trivial⟩
            case measure => simp [intOf]; omega
        · have hin : inB (c.toNat : Int) 48 57 = false := by simp [inB]; omega
          have hv : Hid (V = -1) := by show _ = _; rw [hst.out, if_neg hd]
          clear hst hd
          go_wp2_with (go_at_call 25; refine (in_any _ _ _ _).mono ?_; rintro e w' ⟨rfl, rfl⟩)
          go_ret
          exact ⟨ret_int hv.out.symm, rfl⟩
      · have hv : Hid (V = a) := by
          show _ = _
          rw [hH.out, List.drop_eq_nil_of_le (by rw [hll]; omega)]; rfl
        clear hH
        go_wp2
        go_ret
        exact ⟨ret_int hv.out.symm, rfl⟩
end Ln
end Go.Proofs.YtbcoecmeoemmeaaDoor
