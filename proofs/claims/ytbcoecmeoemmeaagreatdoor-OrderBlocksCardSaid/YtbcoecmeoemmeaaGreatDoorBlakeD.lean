/- The document's digest of bytes. -/
import Derived.Test.YtbcoecmeoemmeaaGreatDoorBlakeT
namespace Go.Proofs.YtbcoecmeoemmeaaGreatDoor
open Go.ChangeShapes Go.WideShapes Go.ChangeAt Go.RowKit
set_option linter.unusedVariables false
set_option linter.unusedSimpArgs false
theorem ws_closed {s v : List Nat} (hs : Ws 8 s) (hv : Ws 16 v) : Ws 8 ((List.range 8).map (closed s v)) := by
  refine ⟨by simp, fun i => ?_⟩
  by_cases hi : i < 8
  · have : at0 ((List.range 8).map (closed s v)) i = closed s v i := by unfold at0; simp [hi]
    rw [this]
    exact xor32_lt (xor32_lt (hs.2 i) (hv.2 i)) (hv.2 (i + 8))
  · unfold at0
    rw [List.getD_eq_getElem?_getD, List.getElem?_eq_none (by simp; omega)]
    show (0 : Nat) < _
    decide
theorem ws_startOf {s : List Nat} (h : Ws 8 s) {many : Nat} (hm : W32 many) (last : Bool) : Ws 16 (startOf s many last) := by
  have h0 := ws_start h
  have h1 := h0.set (i := 12) (xor32_lt (h0.2 12) hm)
  unfold startOf
  dsimp only
  split
  · exact h1.set (xor32_lt (h1.2 14) (by unfold W32; decide))
  · exact h1
theorem ws_takenOf {s : List Nat} (h : Ws 8 s) (b : List UInt8) {many : Nat} (hm : W32 many) (last : Bool) : Ws 8 (takenOf s b many last) := ws_closed h ((ws_startOf h hm last).roundsTo _ _)
theorem ws_init : Ws 8 init8 := by
  have : Ws 8 first8 := ⟨rfl, fun i => by
    by_cases hi : i < 8
    · have : ∀ i : Fin 8, at0 first8 i < 4294967296 := by decide
      exact this ⟨i, hi⟩
    · unfold at0
      rw [List.getD_eq_getElem?_getD, List.getElem?_eq_none (by show 8 ≤ i; omega)]
      show (0 : Nat) < _
      decide⟩
  exact this.set (xor32_lt (this.2 0) (by unfold W32; decide))
theorem RVec.part {α : Type} {enc : α → Value} {bs : Nat} {h : View} {A : Option Addr} {n c : Nat} {xs : List α} (hr : RVec enc bs h (.slice A n c) xs) {lo m : Nat} (hm : lo + m ≤ xs.length) : RVec enc bs h (.slice (A.map fun x => x.add lo) m (c - lo)) ((xs.drop lo).take m) := by
  obtain ⟨A', c', e, h1, h2, h3, h4, h5⟩ := hr
  injection e with e1 e2 e3
  subst e1 e2 e3
  have hl : ((xs.drop lo).take m).length = m := by simp; omega
  refine ⟨_, _, by rw [hl], by omega, Nat.le_trans (Nat.sub_le _ _) h2, ?_, ?_, fun hp => ?_⟩
  · rw [hl]; exact Nat.le_trans (Nat.mul_le_mul_right _ (by omega)) h3
  · intro hA
    cases A with
    | none => have := h4 rfl; omega
    | some a => simp at hA
  · obtain ⟨b, o, ea, hc⟩ := h5 (by omega)
    subst ea
    refine ⟨b, o + lo, by simp [add_off], fun i hi => ?_⟩
    rw [hl] at hi
    have := hc (lo + i) (by omega)
    rw [show o + lo + i = o + (lo + i) by omega, this]
    simp
theorem RVec.stub {α : Type} (enc : α → Value) (bs : Nat) (h : View) (A : Option Addr) {m : Nat} {xs : List α} (hm : m = 0) (hx : xs.length = m) : RVec enc bs h (.slice A m 0) xs := by
  subst hm
  have : xs = [] := List.eq_nil_of_length_eq_zero hx
  subst this
  exact ⟨A, 0, rfl, Nat.le_refl _, Nat.zero_le _, by simp, fun _ => rfl, fun h => by simp at h⟩
theorem ws_blocksTo (b : List UInt8) {k : Nat} (hk : 64 * k ≤ 100000) : Ws 8 (blocksTo b k) := by
  induction k with
  | zero => exact ws_init
  | succ k ih =>
    rw [blocksTo_succ]
    exact ws_takenOf (ih (by omega)) _ (by unfold W32; omega) _
set_option maxHeartbeats 4000000 in
set_option maxRecDepth 100000 in
theorem digested_any (v : Value) (b : List UInt8) (w : World) (hv : RBytes w.cell? v b) (hb : b.length ≤ 4000) :
    Calls Tryz.prog 104 #[v] w fun e w' => ∃ d, e = .returned d ∧ Below w.heap.size w w' ∧ OwnB w' w.heap.size d (sumB b) := by
  obtain ⟨A, c, rfl, hlc, _⟩ := id hv
  obtain ⟨n, hn0⟩ : ∃ n, Hid (b.length = n) := ⟨_, rfl⟩
  rw [hn0.out] at hv hlc hb ⊢
  have Hv := Lib.hid hv
  clear hv
  go_enter Tryz.func104, Tryz.ntmps104
  go_wp2
  go_loopw [3, 4] (fun v i wr => ∃ k : Nat, k ≤ 8 ∧ i = .int .i64 k ∧ OwnN wr w.heap.size v (first8.take k) ∧ Below w.heap.size w wr) (fun _ i _ => 8 - (intOf i).toNat)
  case atStart => exact ⟨0, Nat.zero_le _, rfl, OwnVec.nil _ _ _ _, Below.refl _ _⟩
  case round =>
    obtain ⟨k, hk, rfl, hown, hbl⟩ := hrel
    have hz := hbl.size
    by_cases hlt : k < 8
    · have hki : (k : Int) < 8 := by omega
      have Hn := Lib.hid (take_at0 (xs := first8) (k := k) (by exact hlt))
      have hlen : (first8.take k).length ≤ 8 := by rw [List.length_take]; omega
      go_wp2_with fail
      refine (firstWord_any k _ hlt).mono ?_
      rintro e w2 ⟨rfl, hb2⟩
      have hown2 := hown.kept hb2
      have hbl2 := hbl.trans (hb2.mono hz)
      have hz2 := hb2.size
      go_wp2_with (at_builtin; go_loud (refine wpList_append_vec1 (n := 1024) (W := w) (at0 first8 k) elemN8 encN_one _ _ rfl rfl rfl hown2 hbl2 (by omega) rfl (by decide) (by omega) (by omega) ?_))
      intro v' w3 ho3 hb3 hg3
      clear hg3 hlen
      go_wp2
      go_roundw
      case rel => exact ⟨k + 1, by omega, by go_num, by rw [Hn.out]; exact ho3, hb3⟩
      case measure => simp [intOf]; omega
    · rw [List.take_of_length_le (by show 8 ≤ k; omega)] at hown
      obtain ⟨F, hF⟩ : ∃ F, Hid (first8 = F) := ⟨_, rfl⟩
      have hWF : F.length = 8 ∧ W32 (at0 F 0) := hF.out ▸ ⟨rfl, by unfold W32; decide⟩
      rw [hF.out] at hown
      obtain ⟨g, cg, e, hg1, hg2⟩ := hown.there (by omega)
      rw [hWF.1] at e
      subst e
      have hx1 := ownN_at hown (i := 0) (by omega)
      have e1 : bits .xor .i64 (at0 F 0 : Nat) 16842784 = (xor32 (at0 F 0) 16842784 : Nat) := i64_xor hWF.2 (show W32 16842784 by unfold W32; decide)
      go_wp2_with (refine wpList_store_vec (xs := F) (i := 0) (xor32 (at0 F 0) 16842784) rfl rfl rfl rfl (by kernel_rfl) rfl rfl hown (by omega) ?_)
      intro w2 ho2 hg
      have hbl2 : Below w.heap.size w w2 := hbl.trans ((Chg.of_grown (G := [g]) hg (by simp)).below (by simpa using hg1) hz)
      have hz2 := hbl2.size
      rw [show F.set 0 (xor32 (at0 F 0) 16842784) = blocksTo b 0 from by rw [← hF.out]; rfl] at ho2
      clear hown hbl hx1 e1 hg hg2
      go_wp2
      go_loopw [3, 5] (fun v i wr => ∃ k : Nat, (k = 0 ∨ 64 * k < n) ∧ i = .int .i64 ((64 * k : Nat) : Int) ∧ OwnN wr w.heap.size v (blocksTo b k) ∧ Below w.heap.size w wr) (fun _ i _ => n - (intOf i).toNat)
      case atStart => exact ⟨0, .inl rfl, rfl, ho2, hbl2⟩
      case round =>
        clear ho2 hbl2
        obtain ⟨k, hk, rfl, hown, hbl⟩ := hrel
        have hz := hbl.size
        have hWs := ws_blocksTo b (k := k) (by omega)
        obtain ⟨S0, hS0⟩ : ∃ S0, Hid (blocksTo b k = S0) := ⟨_, rfl⟩
        rw [hS0.out] at hWs hown
        by_cases hlt : 64 < n - 64 * k
        · obtain ⟨at', hat⟩ : ∃ at' : Nat, Hid (64 * k = at') := ⟨_, rfl⟩
          have hat1 : at' + 64 < n := by have := hat.out; omega
          rw [hat.out]
          have hpart := (Hv.out.mono (vle_below hbl)).part (lo := at') (m := 64) (by have := hn0.out; omega)
          obtain ⟨P, hP⟩ : ∃ P, Hid ((b.drop at').take 64 = P) := ⟨_, rfl⟩
          have hPl : P.length ≤ 64 := hP.out ▸ (by rw [List.length_take]; omega)
          have hn : Hid (takenOf S0 P (at' + 64) false = blocksTo b (k + 1)) := by show _ = _; rw [blocksTo_succ, hat.out, hS0.out, hP.out]
          rw [hP.out] at hpart
          obtain ⟨at2, hat2⟩ : ∃ at2, Hid (at' + 64 = at2) := ⟨_, rfl⟩
          have e2 : (at' : Int) + 64 = at2 := by have := hat2.out; omega
          have e3 : at2 - at' = 64 := by have := hat2.out; omega
          have e4 : at2 ≤ n := by have := hat2.out; omega
          rw [hat2.out] at hn
          go_wp2_with fail
          refine (taken_any _ _ S0 P at2 false _ (hown.reads (by rw [hWs.1]; decide)) hWs hpart hPl (by unfold W32; omega)).mono ?_
          rintro e w3 ⟨v3, rfl, hb3, ho3⟩
          rw [hn.out] at ho3
          go_wp2
          go_roundw
          case rel => exact ⟨k + 1, .inr (by have := hat.out; omega), by have := hat.out; have := hat2.out; congr 1; omega, ho3.base hz, hbl.trans (hb3.mono hz)⟩
          case measure => simp [intOf]; omega
        · obtain ⟨at', hat⟩ : ∃ at' : Nat, Hid (64 * k = at') := ⟨_, rfl⟩
          have hka : k = ahead b.length := by rw [hn0.out]; unfold ahead; omega
          have hat1 : at' ≤ n := by have := hat.out; omega
          have hat2 : ¬ (64 : Int) < (n : Int) - at' := by have := hat.out; omega
          rw [hat.out]
          have hpart := (Hv.out.mono (vle_below hbl)).part (lo := at') (m := n - at') (by have := hn0.out; omega)
          have hfull : (b.drop at').take (n - at') = b.drop at' := List.take_of_length_le (by have := hn0.out; simp; omega)
          rw [hfull] at hpart
          obtain ⟨P, hP⟩ : ∃ P, Hid (b.drop at' = P) := ⟨_, rfl⟩
          have hPl : P.length ≤ 64 := hP.out ▸ (by simp; have := hat.out; have := hn0.out; omega)
          rw [hP.out] at hpart
          have k1 := hown.reads (bs := 8) (by rw [hWs.1]; decide)
          have k2 : W32 n := by unfold W32; omega
          have hPn : P.length = n - at' := hP.out ▸ (by simp [hn0.out])
          go_wp2_with fail
          all_goals
            refine (taken_any _ _ S0 P n true _ k1 hWs (by first | exact hpart | exact RVec.stub _ _ _ _ (by omega) (by omega)) hPl k2).mono ?_
            rintro e w3 ⟨v3, rfl, hb3, ho3⟩
            obtain ⟨S, hS⟩ : ∃ S, Hid (takenOf S0 P n true = S) := ⟨_, rfl⟩
            have hWS : Ws 8 S := hS.out ▸ ws_takenOf hWs _ (by unfold W32; omega) _
            rw [hS.out] at ho3
            have hbl3 := hbl.trans (hb3.mono hz)
            have hz3 := hbl3.size
            have hsum : Hid (sumB b = (List.range 32).map (byteOf S)) := by
              show _ = _
              unfold sumB
              rw [← hka, hn0.out, hat.out, hS0.out, hP.out, hS.out]
            obtain ⟨gs, cs, e, _, _⟩ := ho3.there (by rw [hWS.1]; decide)
            rw [hWS.1] at e
            subst e
            clear hown hpart hfull hb3 hbl hk hka
            go_wp2
            go_loopw [6, 7] (fun v i wr => ∃ j : Nat, j ≤ 32 ∧ i = .int .i64 j ∧ OwnB wr w3.heap.size v ((List.range j).map (byteOf S)) ∧ Below w3.heap.size w3 wr) (fun _ i _ => 32 - (intOf i).toNat)
            case atStart => exact ⟨0, Nat.zero_le _, rfl, OwnVec.nil _ _ _ _, Below.refl _ _⟩
            case round =>
              obtain ⟨j, hj, rfl, hown, hbl⟩ := hrel
              have hzr := hbl.size
              by_cases hlt : j < 32
              · have hji : (j : Int) < 32 := by omega
                have hc2 := vle_below hbl _ _ (ownN_at ho3 (i := j / 4) (by rw [hWS.1]; omega))
                have q1 : IntKind.i64.wrap ((j : Int) / 4) = ((j / 4 : Nat) : Int) := by rw [wraps62 _ (by omega) (by omega)]; omega
                have q2 : Int.tmod (j : Int) 4 = ((j % 4 : Nat) : Int) := by rw [Int.tmod_eq_emod_of_nonneg (by omega)]; omega
                have q3 : IntKind.i64.wrap (8 * ((j % 4 : Nat) : Int)) = ((8 * (j % 4) : Nat) : Int) := by rw [wraps62 _ (by omega) (by omega)]; omega
                have hq : j / 4 < 8 := by omega
                have hs : 8 * (j % 4) ≤ 64 := by omega
                have hU : (at0 S (j / 4) / 2 ^ (8 * (j % 4))) % 256 = (byteOf S j).toNat := by unfold byteOf; rw [UInt8.toNat_ofNat']; omega
                have Hn := Lib.hid (show (List.range (j + 1)).map (byteOf S) = (List.range j).map (byteOf S) ++ [byteOf S j] by rw [List.range_succ, List.map_append]; rfl)
                have hlen : ((List.range j).map (byteOf S)).length = j := by simp
                generalize byteOf S j = U at hU Hn
                generalize at0 S (j / 4) = x at hc2 hU
                generalize j / 4 = q at hc2 q1 hq
                generalize 8 * (j % 4) = t at q3 hs hU
                generalize j % 4 = r at q2 q3
                have hqi : (q : Int) < 8 := by omega
                have q4 : IntKind.u8.wrap ((x : Int) / 2 ^ t) = (U.toNat : Int) := by
                  rw [show (x : Int) / 2 ^ t = ((x / 2 ^ t : Nat) : Int) by push_cast; rfl, IntKind.wrap_u8, ← hU]
                  omega
                generalize hL : (List.range j).map (byteOf S) = L at hown hlen Hn
                go_wp2_with (at_builtin; go_loud (refine wpList_append_vec1 (n := 1024) (W := w3) U elemByte encB_one _ _ rfl rfl rfl hown hbl hzr rfl (by decide) (by omega) (by omega) ?_))
                intro v' w5 ho5 hb5 hg5
                clear hg5
                go_wp2
                go_roundw
                case rel => exact ⟨j + 1, by omega, by go_num, by rw [Hn.out]; exact ho5, hb5⟩
                case measure => simp [intOf]; omega
              · have hj32 : j = 32 := by omega
                rw [hj32, ← hsum.out] at hown
                go_wp2
                go_ret
                exact ⟨_, rfl, hbl3.trans (hbl.mono hz3), hown.base hz3⟩
end Go.Proofs.YtbcoecmeoemmeaaGreatDoor
