/- The program's sum of bytes; Sum. -/
import Derived.Test.YtbcoecmeoemmeaaGreatDoorBlakeK
namespace Go.Proofs.YtbcoecmeoemmeaaGreatDoor
open Go.ChangeShapes Go.WideShapes Go.ChangeAt Go.RowKit
set_option linter.unusedVariables false
set_option linter.unusedSimpArgs false
theorem first_cells {w : World} (h : Tabs w.cell?) : ∀ j v, (first8.map encU)[j]? = some v → w.cell? ((⟨0, 0, none⟩ : Addr).add j) = some v := fun j v hj => by
  have hjl : j < first8.length := by have := (List.getElem?_eq_some_iff.1 hj).1; simpa using this
  rw [add_off, Nat.zero_add, h.first j hjl, ← at0_get hjl]
  simpa [hjl] using hj
theorem u8_byte {x t : Nat} : IntKind.u8.wrap ((x : Int) / 2 ^ t) = ((UInt8.ofNat (x / 2 ^ t % 256)).toNat : Int) := by
  rw [show (x : Int) / 2 ^ t = ((x / 2 ^ t : Nat) : Int) by push_cast; rfl, IntKind.wrap_u8, UInt8.toNat_ofNat']
  omega
theorem vle_but_new {w W : World} {g : Nat} (hb : Below w.heap.size w W) (hg : w.heap.size ≤ g) : VLe w.cell? (View.but W.cell? (some g)) := fun a u hu => by
  have hlt := World.block_lt_of_cell? w a hu
  unfold View.but
  rw [if_neg (by intro e; injection e with e; omega)]
  exact vle_below hb _ _ hu
theorem index_state8 (s0 s1 s2 s3 s4 s5 s6 s7 : Nat) (j : Nat) (hj : j < 8) (w : World) : (Instr.index 193 (.agg ([s0, s1, s2, s3, s4, s5, s6, s7].map encU).toArray) (.int .i64 j)).run Tryz.prog w = .ok (.int .u32 (at0 [s0, s1, s2, s3, s4, s5, s6, s7] j : Nat)) w :=
  match j, hj with
  | 0, _ => by kernel_rfl
  | 1, _ => by kernel_rfl
  | 2, _ => by kernel_rfl
  | 3, _ => by kernel_rfl
  | 4, _ => by kernel_rfl
  | 5, _ => by kernel_rfl
  | 6, _ => by kernel_rfl
  | 7, _ => by kernel_rfl
theorem index_state (S : List Nat) (hS : S.length = 8) (j : Nat) (hj : j < 8) (w : World) : (Instr.index 193 (.agg (S.map encU).toArray) (.int .i64 j)).run Tryz.prog w = .ok (.int .u32 (at0 S j : Nat)) w :=
  match S, hS with
  | [a, b, c, d, e, f, g, h], _ => index_state8 a b c d e f g h j hj w
theorem RVec.ofBlk {α : Type} {enc : α → Value} {bs : Nat} {w : World} {g : Nat} {t : TypeId} {xs : List α} (hb : Blk w g t (xs.map enc).toArray) (h1 : xs.length ≤ 140737488355328) (h2 : xs.length * bs ≤ 140737488355328) : RVec enc bs w.cell? (.slice (some ⟨g, 0, none⟩) xs.length xs.length) xs :=
  ⟨_, _, rfl, Nat.le_refl _, le_maxLen h1, h2, (fun h => by cases h), fun _ => ⟨g, 0, rfl, fun i hi => by rw [Nat.zero_add, hb.cell]; simp [hi]⟩⟩
theorem bytes4 (S : List Nat) (j : Nat) : (List.range (4 * (j + 1))).map (byteOf S) = (List.range (4 * j)).map (byteOf S) ++ [byteOf S (4 * j), byteOf S (4 * j + 1), byteOf S (4 * j + 2), byteOf S (4 * j + 3)] := by
  rw [show 4 * (j + 1) = 4 * j + 1 + 1 + 1 + 1 by omega, List.range_succ, List.range_succ, List.range_succ, List.range_succ]
  simp
theorem byte_at (S : List Nat) (j r : Nat) (hr : r < 4) : byteOf S (4 * j + r) = UInt8.ofNat (at0 S j / 2 ^ (8 * r) % 256) := by
  unfold byteOf
  rw [show (4 * j + r) / 4 = j by omega, show (4 * j + r) % 4 = r by omega]
set_option maxHeartbeats 4000000 in
set_option maxRecDepth 100000 in
theorem bsum_any (v : Value) (b : List UInt8) (w : World) (hv : RBytes w.cell? v b) (hb : b.length ≤ 4000) (hT : Tabs w.cell?) :
    Calls Tryz.prog 94 #[v] w fun e w' => ∃ d, e = .returned d ∧ Below w.heap.size w w' ∧ OwnB w' w.heap.size d (sumB b) := by
  obtain ⟨A, c, rfl, hlc, _⟩ := id hv
  obtain ⟨n, hn0⟩ : ∃ n, Hid (b.length = n) := ⟨_, rfl⟩
  rw [hn0.out] at hv hlc hb ⊢
  have Hv := Lib.hid hv
  have HT := Lib.hid hT
  have hcs := first_cells hT
  clear hv hT
  obtain ⟨FA, hFA⟩ : ∃ FA : Value, Hid (FA = .agg (first8.map encU).toArray) := ⟨_, rfl⟩
  go_enter Tryz.func94, Tryz.ntmps94
  go_wp2_with (first
    | (refine wpList_load_cells (n := 8) (v := FA) (first8.map encU) hFA.out rfl rfl rfl (by kernel_rfl) (by kernel_rfl) (by kernel_rfl) hcs ?_)
    | (refine wpList_store_whole (n := 8) rfl rfl rfl hFA.out (by kernel_rfl) rfl (Blk.new _ _ _) rfl rfl ?_))
  clear hcs
  intro w1 hB1 hg1
  obtain ⟨F, hF⟩ : ∃ F, Hid (first8 = F) := ⟨_, rfl⟩
  have hWF : F.length = 8 ∧ W32 (at0 F 0) := hF.out ▸ ⟨rfl, by unfold W32; decide⟩
  have hA1 : Arr w1 w.heap.size 193 encU F := by rw [← hF.out]; exact hB1
  have hb1 : Below w.heap.size w w1 := below_grownBy (below_one _ _) (le_alloc _ (Nat.le_refl _)) hg1 (by intro k e; injection e; omega)
  obtain ⟨gs, hgs⟩ : ∃ gs, Hid (w.heap.size = gs) := ⟨_, rfl⟩
  rw [hgs.out] at hA1 ⊢
  have hx1 := arr_at hA1 (i := 0) (by omega)
  have e1 : bits .xor .u32 (at0 F 0 : Nat) 16842784 = (xor32 (at0 F 0) 16842784 : Nat) := u32_xor hWF.2 (show W32 16842784 by unfold W32; decide)
  clear hB1 hg1
  go_wp2_with (refine wpList_store_arr (xs := F) (i := 0) (xor32 (at0 F 0) 16842784) rfl rfl rfl rfl (by kernel_rfl) rfl rfl hA1 (by omega) ?_)
  intro w2 ho2 hg2
  rw [show F.set 0 (xor32 (at0 F 0) 16842784) = blocksTo b 0 from by rw [← hF.out]; rfl] at ho2
  have hb2 : Below w.heap.size w w2 := below_grownBy hb1 hb1.size hg2 (by intro k e; injection e; have := hgs.out; omega)
  clear hg2 hx1 e1 hA1 hb1
  go_wp2_with fail
  go_loopw [0, 4] (fun v i wr => ∃ k : Nat, (k = 0 ∨ 64 * k < n) ∧ i = .int .i64 ((64 * k : Nat) : Int) ∧ (∃ A' c', v = .slice A' (n - 64 * k) c' ∧ Hid (RBytes w.cell? v (b.drop (64 * k)))) ∧ Arr wr gs 193 encU (blocksTo b k) ∧ Below w.heap.size w wr) (fun _ i _ => n - (intOf i).toNat)
  case atStart => exact ⟨0, .inl rfl, rfl, ⟨A, c, rfl, Hv.out⟩, ho2, hb2⟩
  case round =>
    clear ho2 hb2
    obtain ⟨k, hk, rfl, ⟨A', c', rfl, Hr⟩, hown, hbl⟩ := hrel
    have hz := hbl.size
    have hWs := ws_blocksTo b (k := k) (by omega)
    obtain ⟨S0, hS0⟩ : ∃ S0, Hid (blocksTo b k = S0) := ⟨_, rfl⟩
    obtain ⟨at', hat⟩ : ∃ at' : Nat, Hid (64 * k = at') := ⟨_, rfl⟩
    obtain ⟨D, hD⟩ : ∃ D, Hid (b.drop (64 * k) = D) := ⟨_, rfl⟩
    obtain ⟨m, hm⟩ : ∃ m : Nat, Hid (n - 64 * k = m) := ⟨_, rfl⟩
    have hDl : D.length = m := hD.out ▸ (by rw [List.length_drop, hn0.out, hm.out])
    have hatm : at' + m = n := by have := hat.out; have := hm.out; omega
    have hk' : k = 0 ∨ at' < n := by rw [← hat.out]; exact hk
    rw [hD.out, hm.out] at Hr
    rw [hS0.out] at hWs hown
    rw [hm.out, hat.out]
    have hmc : m ≤ c' := by obtain ⟨_, _, e, h, _⟩ := Hr.out; injection e with _ e2 e3; omega
    by_cases hlt : 64 < m
    · have hpart := Hr.out.take (k := 64) (by omega)
      have hpart2 := Hr.out.part (lo := 64) (m := m - 64) (by omega)
      obtain ⟨P, hP⟩ : ∃ P, Hid (D.take 64 = P) := ⟨_, rfl⟩
      have hPl : P.length ≤ 64 := hP.out ▸ (by rw [List.length_take]; omega)
      obtain ⟨at2, hat2⟩ : ∃ at2, Hid (at' + 64 = at2) := ⟨_, rfl⟩
      have hn : Hid (takenOf S0 P at2 false = blocksTo b (k + 1)) := by show _ = _; rw [blocksTo_succ, hD.out, hat.out, hat2.out, hS0.out, hP.out]
      have hd2 : (D.drop 64).take (m - 64) = b.drop (64 * (k + 1)) := by
        rw [List.take_of_length_le (by simp; omega), ← hD.out, List.drop_drop]
        congr 1
      rw [hd2] at hpart2
      rw [hP.out] at hpart
      have Hpart2 := Lib.hid hpart2
      have e2 : (at' : Int) + 64 = at2 := by have := hat2.out; omega
      clear hpart2 hd2
      go_wp2_with fail
      refine (take_any gs S0 _ P at2 false _ hown hWs (hpart.mono (vle_but_new hbl (by rw [hgs.out]; exact Nat.le_refl _))) hPl (by unfold W32; have := hat2.out; omega) (HT.out.mono (vle_but_new hbl (by rw [hgs.out]; exact Nat.le_refl _)))).mono ?_
      rintro e w3 ⟨rfl, ho3, hk3⟩
      rw [hn.out] at ho3
      have hbl3 : Below w.heap.size w w3 := hbl.trans (hk3.below (by simp; have := hgs.out; omega) hz)
      go_wp2_with fail
      go_roundw
      case rel => exact ⟨k + 1, .inr (by have := hat.out; omega), by have := hat.out; have := hat2.out; congr 1; omega, ⟨_, _, by congr 1; have := hat.out; omega, by exact Hpart2.out⟩, ho3, hbl3⟩
      case measure => simp [intOf]; omega
    · have hka : k = ahead b.length := by rw [hn0.out]; unfold ahead; have := hat.out; have := hm.out; omega
      have hki : ¬ (64 : Int) < m := by omega
      have e3 : (at' : Int) + m = n := by omega
      go_wp2_with fail
      refine (take_any gs S0 _ D n true _ hown hWs (Hr.out.mono (vle_but_new hbl (by rw [hgs.out]; exact Nat.le_refl _))) (by omega) (by unfold W32; omega) (HT.out.mono (vle_but_new hbl (by rw [hgs.out]; exact Nat.le_refl _)))).mono ?_
      rintro e w3 ⟨rfl, ho3, hk3⟩
      obtain ⟨S, hS⟩ : ∃ S, Hid (takenOf S0 D n true = S) := ⟨_, rfl⟩
      have hWS : Ws 8 S := hS.out ▸ ws_takenOf hWs _ (by unfold W32; omega) _
      rw [hS.out] at ho3
      have hbl3 : Below w.heap.size w w3 := hbl.trans (hk3.below (by simp; have := hgs.out; omega) hz)
      have hz3 := hbl3.size
      have hsum : Hid (sumB b = (List.range 32).map (byteOf S)) := by
        show _ = _
        unfold sumB
        rw [← hka, hn0.out, hD.out, hS0.out, hS.out]
      clear hown hbl hk hka hk' Hr hk3
      obtain ⟨SA, hSA⟩ : ∃ SA : Value, Hid (SA = .agg (S.map encU).toArray) := ⟨_, rfl⟩
      have hcs : ∀ j v, (S.map encU)[j]? = some v → w3.cell? ((⟨gs, 0, none⟩ : Addr).add j) = some v := fun j v hj => by rw [add_off, Nat.zero_add, Blk.cell ho3]; simpa using hj
      have hxS : ∀ j, j < 8 → ∀ w, (Instr.index 193 SA (.int .i64 (j : Nat))).run Tryz.prog w = .ok (.int .u32 (at0 S j : Nat)) w := by rw [hSA.out]; exact index_state S hWS.1
      have HxS := Lib.hid hxS
      clear hxS
      go_wp2_with (refine wpList_load_cells (n := 8) (v := SA) (S.map encU) hSA.out rfl rfl rfl (by kernel_rfl) (by kernel_rfl) (by rw [List.length_map]; exact hWS.1) hcs ?_)
      clear hcs
      go_loopw [5, 31] (fun v i wr => ∃ j : Nat, j ≤ 8 ∧ i = .int .i64 j ∧ OwnB wr w3.heap.size v ((List.range (4 * j)).map (byteOf S)) ∧ Below w3.heap.size w3 wr) (fun _ i _ => 8 - (intOf i).toNat)
      case atStart => exact ⟨0, Nat.zero_le _, rfl, OwnVec.nil _ _ _ _, Below.refl _ _⟩
      case round =>
        obtain ⟨j, hj, rfl, hown, hbl⟩ := hrel
        have hzr := hbl.size
        by_cases hltj : j < 8
        · have hji : (j : Int) < 8 := by omega
          have hxj := HxS.out j hltj
          have Hn := Lib.hid (bytes4 S j)
          have u0 := u8_byte (x := at0 S j) (t := 8 * 0)
          have u1 := u8_byte (x := at0 S j) (t := 8 * 1)
          have u2 := u8_byte (x := at0 S j) (t := 8 * 2)
          have u3 := u8_byte (x := at0 S j) (t := 8 * 3)
          rw [← byte_at S j 0 (by decide)] at u0
          rw [← byte_at S j 1 (by decide)] at u1
          rw [← byte_at S j 2 (by decide)] at u2
          rw [← byte_at S j 3 (by decide)] at u3
          rw [Nat.add_zero] at u0
          generalize byteOf S (4 * j) = U0 at u0 Hn
          generalize byteOf S (4 * j + 1) = U1 at u1 Hn
          generalize byteOf S (4 * j + 2) = U2 at u2 Hn
          generalize byteOf S (4 * j + 3) = U3 at u3 Hn
          have hlen : ((List.range (4 * j)).map (byteOf S)).length ≤ 32 := by rw [List.length_map, List.length_range]; omega
          generalize hL : (List.range (4 * j)).map (byteOf S) = L at hown hlen Hn
          simp at u0 u1 u2 u3
          go_wp2_with (at_builtin; go_loud (refine wpList_append_vec (n := 1024) (W := w3) (ys := [U0, U1, U2, U3]) elemByte encB_one _ _ rfl rfl rfl (hown.alloc _) (hbl.alloc hzr _) (le_alloc _ hzr) rfl (RVec.ofBlk (xs := [U0, U1, U2, U3]) (Blk.new _ _ _) (by simp) (by simp)) (by decide) (by simp; omega) (by simp; omega) ?_))
          intro v' w5 ho5 hb5 hg5
          clear hg5
          go_wp2
          go_roundw
          case rel => exact ⟨j + 1, by omega, by go_num, by rw [Hn.out]; exact ho5, hb5⟩
          case measure => simp [intOf]; omega
        · have hj8 : j = 8 := by omega
          rw [hj8, ← hsum.out] at hown
          go_wp2
          go_ret
          exact ⟨_, rfl, hbl3.trans (hbl.mono hz3), hown.base hz3⟩
end Go.Proofs.YtbcoecmeoemmeaaGreatDoor
