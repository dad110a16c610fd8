/- lines.Show walked. -/
import Derived.Test.YtbcoecmeoemmeaaDoorLn3
namespace Go.Proofs.YtbcoecmeoemmeaaDoor
open Go.ChangeShapes Go.WideShapes Go.ChangeAt Go.RowKit
set_option linter.unusedVariables false
set_option linter.unusedSimpArgs false
namespace Ln
theorem sh_ws2 {w0 w : World} {L : List UInt8} {m : Nat} (h : Sh w0 w L) (hm : L.length ≤ m) (s : ByteArray) (hs : s.size ≤ 400010) (hl : m + 400010 ≤ 140737488355328) :
    Calls Tryd.prog 13 #[.pointer (some ⟨w0.heap.size, 0, none⟩), .string s] w fun e w' => ∃ L', e = .returned (.tuple #[.int .i64 s.size, .nilIface]) ∧ Hid (L' = L ++ s.data.toList) ∧ L'.length ≤ m + 400010 ∧ Sh w0 w' L' ∧ Others w0.heap.size w w' := by
  have e1 : s.data.toList.length = s.size := Array.length_toList
  refine (sh_ws h s (by omega)).mono ?_
  rintro e w' ⟨rfl, h1⟩
  exact ⟨_, rfl, Lib.hid rfl, by rw [List.length_append, e1]; omega, h1⟩
theorem sh_it2 {w0 w : World} {L : List UInt8} (h : Sh w0 w L) (hP : Pow w0) (n : Int) (h0 : 0 ≤ n) (h1 : n ≤ 400000) :
    Calls Tryd.prog 14 #[.int .i64 n] w fun e w' => ∃ s : ByteArray, e = .returned (.string s) ∧ Hid (s = mkS (decL n)) ∧ s.size ≤ 400001 ∧ Sh w0 w' L ∧ Others w0.heap.size w w' := by
  refine (sh_it h hP n h0 (by omega)).mono ?_
  rintro e w' ⟨rfl, h2⟩
  have := decL_len n h0
  exact ⟨_, rfl, Lib.hid rfl, by rw [mkS_size]; omega, h2⟩
theorem sh_hx2 {w0 w : World} {L : List UInt8} (h : Sh w0 w L) (s : ByteArray) (hs : s.size ≤ 4000) :
    Calls Tryd.prog 15 #[.string s] w fun e w' => ∃ s' : ByteArray, e = .returned (.string s') ∧ Hid (s' = mkS (hexL s.data.toList)) ∧ s'.size ≤ 8000 ∧ Sh w0 w' L ∧ Others w0.heap.size w w' := by
  refine (sh_hx h s hs).mono ?_
  rintro e w' ⟨rfl, h2⟩
  have e1 : s.data.toList.length = s.size := Array.length_toList
  exact ⟨_, rfl, Lib.hid rfl, by rw [mkS_size, hexL_len, e1]; omega, h2⟩
theorem blank_size (s : ByteArray) : (({ data := #[32] } : ByteArray) ++ s).size = 1 + s.size := by rw [ByteArray.size_append]; rfl
theorem blank_data (s : ByteArray) : (({ data := #[32] } : ByteArray) ++ s).data.toList = 32 :: s.data.toList := by
  rw [ByteArray.data_append]; simp
set_option maxHeartbeats 8000000 in
set_option maxRecDepth 100000 in
theorem show_any (v : Value) (l : List Ac) (w : World) (hv : RActs w.cell? v l) (hsz : ∀ a ∈ l, a.text.size ≤ 140737488355328) (hW : Words w.cell?) (hPw : Pow w) :
    Calls Tryd.prog 6 #[v] w fun e w' => e = .returned (.tuple #[.string (mkS (showE l).1), .int .i64 (showE l).2.1, .int .i64 (showE l).2.2]) ∧ Below w.heap.size w w' := by
  obtain ⟨A, c, rfl, h1, h2, h3, hel⟩ := hv.at
  have Hel := Lib.hid hel
  have Hsz := Lib.hid hsz
  clear hel hsz
  have Hq : Hid (showE l = if 3000 < l.length then ([], 0, 1) else if badI l < l.length then ([], badI l, match l[badI l]? with | some a => actE a | none => 0) else (showL l, 0, 0)) := rfl
  obtain ⟨E, hE⟩ : ∃ E, Hid (showE l = E) := ⟨_, rfl⟩
  rw [hE.out] at Hq ⊢
  obtain ⟨n, hn⟩ : ∃ n, Hid (l.length = n) := ⟨_, rfl⟩
  rw [hn.out] at h1 h3 Hq ⊢
  by_cases hbig : 3000 < n
  · have he : E = ([], 0, 1) := by rw [Hq.out, if_pos hbig]
    subst he
    clear Hq hE
    go_enter Tryd.func6, Tryd.ntmps6
    go_wp2
    go_ret3
    exact ⟨rfl, Below.refl _ _⟩
  · replace Hq : Hid (E = if badI l < n then ([], badI l, match l[badI l]? with | some a => actE a | none => 0) else (showL l, 0, 0)) := by
      show _ = _
      rw [Hq.out, if_neg hbig]
    clear hE
    go_enter Tryd.func6, Tryd.ntmps6
    go_wp2
    go_loopw [17] (fun ct wr => ∃ k : Nat, k ≤ n ∧ ct = .int .i64 k ∧ Hid (∀ j (hj : j < l.length), j < k → actE l[j] = 0) ∧ Sh w wr (showL (l.take k))) (fun ct _ => n - (intOf ct).toNat)
    case atStart => exact ⟨0, Nat.zero_le _, rfl, fun j _ hj => by omega, Bld.new w, below_one _ _⟩
    case round =>
      obtain ⟨k, hk, rfl, hno, hS⟩ := hrel
      have hLen : (showL (l.take k)).length ≤ k * 500000 := by
        have := showL_len (l.take k) (fun a ha => by
          obtain ⟨j, hj, rfl⟩ := List.getElem_of_mem ha
          rw [List.getElem_take]
          simp at hj
          exact hno.out j (by omega) (by omega))
        rw [List.length_take, Nat.min_eq_left (by have := hn.out; omega)] at this
        exact this
      by_cases hlt : k < n
      · have hkl : k < l.length := by have := hn.out; omega
        obtain ⟨b, o, rfl, c0, c1, c2, c3⟩ := Hel.out k hkl
        have hts := Hsz.out l[k] (List.getElem_mem hkl)
        obtain ⟨a, ha⟩ : ∃ a, Hid (l[k] = a) := ⟨_, Lib.hid rfl⟩
        rw [ha.out] at c0 c1 c2 c3 hts
        have hv1 := vle_below hS.2
        have c0 := hv1 _ _ c0
        have c1 := hv1 _ _ c1
        have c2 := hv1 _ _ c2
        have c3 := hv1 _ _ c3
        have hsn : Hid (showL (l.take (k + 1)) = showL (l.take k) ++ lineL a) := by
          show _ = _
          rw [showL_snoc l k hkl, ha.out]
        obtain ⟨L, hLL⟩ : ∃ L, Hid (showL (l.take k) = L) := ⟨_, rfl⟩
        rw [hLL.out] at hS hLen hsn
        obtain ⟨ak, an, ap, atx⟩ := a
        simp only at c0 c1 c2 c3 hts
        have hblt := World.block_lt_of_cell? _ _ c0
        go_wp2_with fail
        refine (linesCheck_any ak an ap atx _ hts).mono ?_
        rintro e w1 ⟨rfl, hb1⟩
        have hB0 := Blk.new wr 37 #[.int .i64 ak, .int .i64 an, .int .i64 ap, .string atx]
        have hB1 := hB0.kept hb1
        have hb01 := below_one wr (.cells #[.int .i64 ak, .int .i64 an, .int .i64 ap, .string atx] 37)
        have hbw1 : Below wr.heap.size wr w1 := hb01.trans (hb1.mono hb01.size)
        have hS1 : Sh w w1 L := ⟨hS.1.kept hbw1, hS.2.trans (hbw1.mono hS.2.size)⟩
        have k0 := hB1.cell 0
        have k1 := hB1.cell 1
        have k2 := hB1.cell 2
        have k3 := hB1.cell 3
        simp at k0 k1 k2 k3
        have hblt1 := hB1.lt
        obtain ⟨F, hF⟩ : ∃ F, Hid (actF ak an ap atx = F) := ⟨_, rfl⟩
        rw [hF.out]
        have hFa : Hid (actE ⟨ak, an, ap, atx⟩ = F) := hF
        have hwlt := hS.1.lt
        clear hB0 hb1 hb01 hS c0 c1 c2 c3 hblt hv1
        by_cases hF0 : F = 0
        · subst hF0
          obtain ⟨m1, m2, m3, m4, m5⟩ := act_fine hFa.out
          simp only at m1 m2 m3 m4 m5
          obtain ⟨kk, rfl⟩ : ∃ kk : Nat, ak = kk := ⟨ak.toNat, by omega⟩
          obtain ⟨WD, hWD⟩ : ∃ WD, Hid (mkS (wordL kk) = WD) := ⟨_, rfl⟩
          have hws : WD.size ≤ 6 := by rw [← hWD.out, mkS_size]; exact wordL_len kk
          have cw : w1.cell? ⟨0, kk, none⟩ = some (.string WD) := by rw [← hWD.out]; exact vle_below hS1.2 _ _ (hW kk (by omega))
          have hkb : kk < 11 := by omega
          have hno2 : Hid (∀ j (hj : j < l.length), j < k + 1 → actE l[j] = 0) := by
            show ∀ j (hj : j < l.length), j < k + 1 → actE l[j] = 0
            intro j hj hjk
            rcases Nat.lt_or_ge j k with h | h
            · exact hno.out j hj h
            · obtain rfl : j = k := by omega
              rw [ha.out, hFa.out]
          clear hF hFa
          go_wp2_with fail
          refine (has_any _ _).mono ?_
          rintro e w2 ⟨rfl, rfl⟩
          go_wp2_with fail
          refine (sh_ws2 hS1 hLen WD (by omega) (by omega)).mono ?_
          rintro e w2 ⟨L1, rfl, hL1, hm1, hS2, hO2⟩
          have hB2 := hO2 _ _ _ hB1 (by have := hS2.1.lt; have := hbw1.size; omega) (by decide)
          have k1 := hB2.cell 1
          have k2 := hB2.cell 2
          have k3 := hB2.cell 3
          simp at k1 k2 k3
          clear hB1 hS1 hO2 cw k0 hLen
          cases n1 : hN kk <;> cases n2 : hP kk <;> cases n3 : hT kk
          all_goals
            (try have q1 := m3 n1)
            (try have q2 := m4 n2)
            (try have q3 := m5 n3)
            clear m3 m4 m5
          · go_wp2_with fail
            refine (sh_ws2 hS2 hm1 _ (by decide) (by omega)).mono ?_
            rintro e w3 ⟨L2, rfl, hL2, hm2, hS3, hO3⟩
            have hB3 := hO3 _ _ _ hB2 (by omega) (by decide)
            clear k1 k2 k3 hO3
            have k1 := hB3.cell 1; have k2 := hB3.cell 2; have k3 := hB3.cell 3
            simp at k1 k2 k3
            clear hB2 hS2
            have hfin : Sh w w3 (showL (l.take (k + 1))) := by
              have hx := hS3
              rw [hL2.out, hL1.out] at hx
              rw [hsn.out]
              unfold lineL
              simp only [n1, n2, n3, if_true, if_false, Bool.false_eq_true, Int.toNat_natCast]
              simp only [blank_data, ← hWD.out, data_mkS, List.append_assoc] at hx
              exact hx
            clear hS3 hB3 k1 k2 k3
            go_wp2
            go_roundw
            case rel => exact ⟨k + 1, by omega, by go_num, hno2, hfin⟩
            case measure => simp [intOf]; omega
          · go_wp2_with fail
            refine (sh_hx2 hS2 atx (by omega)).mono ?_
            rintro e w3 ⟨sc, rfl, hsc, hzsc, hS3, hO3⟩
            have hB3 := hO3 _ _ _ hB2 (by omega) (by decide)
            clear k1 k2 k3 hO3
            have k1 := hB3.cell 1; have k2 := hB3.cell 2; have k3 := hB3.cell 3
            simp at k1 k2 k3
            clear hB2 hS2
            go_wp2_with fail
            refine (sh_ws2 hS3 hm1 _ (by rw [blank_size]; omega) (by omega)).mono ?_
            rintro e w4 ⟨L2, rfl, hL2, hm2, hS4, hO4⟩
            have hB4 := hO4 _ _ _ hB3 (by omega) (by decide)
            clear k1 k2 k3 hO4
            have k1 := hB4.cell 1; have k2 := hB4.cell 2; have k3 := hB4.cell 3
            simp at k1 k2 k3
            clear hB3 hS3
            go_wp2_with fail
            refine (sh_ws2 hS4 hm2 _ (by decide) (by omega)).mono ?_
            rintro e w5 ⟨L3, rfl, hL3, hm3, hS5, hO5⟩
            have hB5 := hO5 _ _ _ hB4 (by omega) (by decide)
            clear k1 k2 k3 hO5
            have k1 := hB5.cell 1; have k2 := hB5.cell 2; have k3 := hB5.cell 3
            simp at k1 k2 k3
            clear hB4 hS4
            have hfin : Sh w w5 (showL (l.take (k + 1))) := by
              have hx := hS5
              rw [hL3.out, hL2.out, hL1.out] at hx
              rw [hsn.out]
              unfold lineL
              simp only [n1, n2, n3, if_true, if_false, Bool.false_eq_true, Int.toNat_natCast]
              simp only [blank_data, ← hWD.out, data_mkS, hsc.out, List.append_assoc] at hx
              exact hx
            clear hS5 hB5 k1 k2 k3
            go_wp2
            go_roundw
            case rel => exact ⟨k + 1, by omega, by go_num, hno2, hfin⟩
            case measure => simp [intOf]; omega
          · go_wp2_with fail
            refine (sh_it2 hS2 hPw ap (by omega) (by omega)).mono ?_
            rintro e w3 ⟨sb, rfl, hsb, hzsb, hS3, hO3⟩
            have hB3 := hO3 _ _ _ hB2 (by omega) (by decide)
            clear k1 k2 k3 hO3
            have k1 := hB3.cell 1; have k2 := hB3.cell 2; have k3 := hB3.cell 3
            simp at k1 k2 k3
            clear hB2 hS2
            go_wp2_with fail
            refine (sh_ws2 hS3 hm1 _ (by rw [blank_size]; omega) (by omega)).mono ?_
            rintro e w4 ⟨L2, rfl, hL2, hm2, hS4, hO4⟩
            have hB4 := hO4 _ _ _ hB3 (by omega) (by decide)
            clear k1 k2 k3 hO4
            have k1 := hB4.cell 1; have k2 := hB4.cell 2; have k3 := hB4.cell 3
            simp at k1 k2 k3
            clear hB3 hS3
            go_wp2_with fail
            refine (sh_ws2 hS4 hm2 _ (by decide) (by omega)).mono ?_
            rintro e w5 ⟨L3, rfl, hL3, hm3, hS5, hO5⟩
            have hB5 := hO5 _ _ _ hB4 (by omega) (by decide)
            clear k1 k2 k3 hO5
            have k1 := hB5.cell 1; have k2 := hB5.cell 2; have k3 := hB5.cell 3
            simp at k1 k2 k3
            clear hB4 hS4
            have hfin : Sh w w5 (showL (l.take (k + 1))) := by
              have hx := hS5
              rw [hL3.out, hL2.out, hL1.out] at hx
              rw [hsn.out]
              unfold lineL
              simp only [n1, n2, n3, if_true, if_false, Bool.false_eq_true, Int.toNat_natCast]
              simp only [blank_data, ← hWD.out, data_mkS, hsb.out, List.append_assoc] at hx
              exact hx
            clear hS5 hB5 k1 k2 k3
            go_wp2
            go_roundw
            case rel => exact ⟨k + 1, by omega, by go_num, hno2, hfin⟩
            case measure => simp [intOf]; omega
          · go_wp2_with fail
            refine (sh_it2 hS2 hPw ap (by omega) (by omega)).mono ?_
            rintro e w3 ⟨sb, rfl, hsb, hzsb, hS3, hO3⟩
            have hB3 := hO3 _ _ _ hB2 (by omega) (by decide)
            clear k1 k2 k3 hO3
            have k1 := hB3.cell 1; have k2 := hB3.cell 2; have k3 := hB3.cell 3
            simp at k1 k2 k3
            clear hB2 hS2
            go_wp2_with fail
            refine (sh_ws2 hS3 hm1 _ (by rw [blank_size]; omega) (by omega)).mono ?_
            rintro e w4 ⟨L2, rfl, hL2, hm2, hS4, hO4⟩
            have hB4 := hO4 _ _ _ hB3 (by omega) (by decide)
            clear k1 k2 k3 hO4
            have k1 := hB4.cell 1; have k2 := hB4.cell 2; have k3 := hB4.cell 3
            simp at k1 k2 k3
            clear hB3 hS3
            go_wp2_with fail
            refine (sh_hx2 hS4 atx (by omega)).mono ?_
            rintro e w5 ⟨sc, rfl, hsc, hzsc, hS5, hO5⟩
            have hB5 := hO5 _ _ _ hB4 (by omega) (by decide)
            clear k1 k2 k3 hO5
            have k1 := hB5.cell 1; have k2 := hB5.cell 2; have k3 := hB5.cell 3
            simp at k1 k2 k3
            clear hB4 hS4
            go_wp2_with fail
            refine (sh_ws2 hS5 hm2 _ (by rw [blank_size]; omega) (by omega)).mono ?_
            rintro e w6 ⟨L3, rfl, hL3, hm3, hS6, hO6⟩
            have hB6 := hO6 _ _ _ hB5 (by omega) (by decide)
            clear k1 k2 k3 hO6
            have k1 := hB6.cell 1; have k2 := hB6.cell 2; have k3 := hB6.cell 3
            simp at k1 k2 k3
            clear hB5 hS5
            go_wp2_with fail
            refine (sh_ws2 hS6 hm3 _ (by decide) (by omega)).mono ?_
            rintro e w7 ⟨L4, rfl, hL4, hm4, hS7, hO7⟩
            have hB7 := hO7 _ _ _ hB6 (by omega) (by decide)
            clear k1 k2 k3 hO7
            have k1 := hB7.cell 1; have k2 := hB7.cell 2; have k3 := hB7.cell 3
            simp at k1 k2 k3
            clear hB6 hS6
            have hfin : Sh w w7 (showL (l.take (k + 1))) := by
              have hx := hS7
              rw [hL4.out, hL3.out, hL2.out, hL1.out] at hx
              rw [hsn.out]
              unfold lineL
              simp only [n1, n2, n3, if_true, if_false, Bool.false_eq_true, Int.toNat_natCast]
              simp only [blank_data, ← hWD.out, data_mkS, hsb.out, hsc.out, List.append_assoc] at hx
              exact hx
            clear hS7 hB7 k1 k2 k3
            go_wp2
            go_roundw
            case rel => exact ⟨k + 1, by omega, by go_num, hno2, hfin⟩
            case measure => simp [intOf]; omega
          · go_wp2_with fail
            refine (sh_it2 hS2 hPw an (by omega) (by omega)).mono ?_
            rintro e w3 ⟨sa, rfl, hsa, hzsa, hS3, hO3⟩
            have hB3 := hO3 _ _ _ hB2 (by omega) (by decide)
            clear k1 k2 k3 hO3
            have k1 := hB3.cell 1; have k2 := hB3.cell 2; have k3 := hB3.cell 3
            simp at k1 k2 k3
            clear hB2 hS2
            go_wp2_with fail
            refine (sh_ws2 hS3 hm1 _ (by rw [blank_size]; omega) (by omega)).mono ?_
            rintro e w4 ⟨L2, rfl, hL2, hm2, hS4, hO4⟩
            have hB4 := hO4 _ _ _ hB3 (by omega) (by decide)
            clear k1 k2 k3 hO4
            have k1 := hB4.cell 1; have k2 := hB4.cell 2; have k3 := hB4.cell 3
            simp at k1 k2 k3
            clear hB3 hS3
            go_wp2_with fail
            refine (sh_ws2 hS4 hm2 _ (by decide) (by omega)).mono ?_
            rintro e w5 ⟨L3, rfl, hL3, hm3, hS5, hO5⟩
            have hB5 := hO5 _ _ _ hB4 (by omega) (by decide)
            clear k1 k2 k3 hO5
            have k1 := hB5.cell 1; have k2 := hB5.cell 2; have k3 := hB5.cell 3
            simp at k1 k2 k3
            clear hB4 hS4
            have hfin : Sh w w5 (showL (l.take (k + 1))) := by
              have hx := hS5
              rw [hL3.out, hL2.out, hL1.out] at hx
              rw [hsn.out]
              unfold lineL
              simp only [n1, n2, n3, if_true, if_false, Bool.false_eq_true, Int.toNat_natCast]
              simp only [blank_data, ← hWD.out, data_mkS, hsa.out, List.append_assoc] at hx
              exact hx
            clear hS5 hB5 k1 k2 k3
            go_wp2
            go_roundw
            case rel => exact ⟨k + 1, by omega, by go_num, hno2, hfin⟩
            case measure => simp [intOf]; omega
          · go_wp2_with fail
            refine (sh_it2 hS2 hPw an (by omega) (by omega)).mono ?_
            rintro e w3 ⟨sa, rfl, hsa, hzsa, hS3, hO3⟩
            have hB3 := hO3 _ _ _ hB2 (by omega) (by decide)
            clear k1 k2 k3 hO3
            have k1 := hB3.cell 1; have k2 := hB3.cell 2; have k3 := hB3.cell 3
            simp at k1 k2 k3
            clear hB2 hS2
            go_wp2_with fail
            refine (sh_ws2 hS3 hm1 _ (by rw [blank_size]; omega) (by omega)).mono ?_
            rintro e w4 ⟨L2, rfl, hL2, hm2, hS4, hO4⟩
            have hB4 := hO4 _ _ _ hB3 (by omega) (by decide)
            clear k1 k2 k3 hO4
            have k1 := hB4.cell 1; have k2 := hB4.cell 2; have k3 := hB4.cell 3
            simp at k1 k2 k3
            clear hB3 hS3
            go_wp2_with fail
            refine (sh_hx2 hS4 atx (by omega)).mono ?_
            rintro e w5 ⟨sc, rfl, hsc, hzsc, hS5, hO5⟩
            have hB5 := hO5 _ _ _ hB4 (by omega) (by decide)
            clear k1 k2 k3 hO5
            have k1 := hB5.cell 1; have k2 := hB5.cell 2; have k3 := hB5.cell 3
            simp at k1 k2 k3
            clear hB4 hS4
            go_wp2_with fail
            refine (sh_ws2 hS5 hm2 _ (by rw [blank_size]; omega) (by omega)).mono ?_
            rintro e w6 ⟨L3, rfl, hL3, hm3, hS6, hO6⟩
            have hB6 := hO6 _ _ _ hB5 (by omega) (by decide)
            clear k1 k2 k3 hO6
            have k1 := hB6.cell 1; have k2 := hB6.cell 2; have k3 := hB6.cell 3
            simp at k1 k2 k3
            clear hB5 hS5
            go_wp2_with fail
            refine (sh_ws2 hS6 hm3 _ (by decide) (by omega)).mono ?_
            rintro e w7 ⟨L4, rfl, hL4, hm4, hS7, hO7⟩
            have hB7 := hO7 _ _ _ hB6 (by omega) (by decide)
            clear k1 k2 k3 hO7
            have k1 := hB7.cell 1; have k2 := hB7.cell 2; have k3 := hB7.cell 3
            simp at k1 k2 k3
            clear hB6 hS6
            have hfin : Sh w w7 (showL (l.take (k + 1))) := by
              have hx := hS7
              rw [hL4.out, hL3.out, hL2.out, hL1.out] at hx
              rw [hsn.out]
              unfold lineL
              simp only [n1, n2, n3, if_true, if_false, Bool.false_eq_true, Int.toNat_natCast]
              simp only [blank_data, ← hWD.out, data_mkS, hsa.out, hsc.out, List.append_assoc] at hx
              exact hx
            clear hS7 hB7 k1 k2 k3
            go_wp2
            go_roundw
            case rel => exact ⟨k + 1, by omega, by go_num, hno2, hfin⟩
            case measure => simp [intOf]; omega
          · go_wp2_with fail
            refine (sh_it2 hS2 hPw an (by omega) (by omega)).mono ?_
            rintro e w3 ⟨sa, rfl, hsa, hzsa, hS3, hO3⟩
            have hB3 := hO3 _ _ _ hB2 (by omega) (by decide)
            clear k1 k2 k3 hO3
            have k1 := hB3.cell 1; have k2 := hB3.cell 2; have k3 := hB3.cell 3
            simp at k1 k2 k3
            clear hB2 hS2
            go_wp2_with fail
            refine (sh_ws2 hS3 hm1 _ (by rw [blank_size]; omega) (by omega)).mono ?_
            rintro e w4 ⟨L2, rfl, hL2, hm2, hS4, hO4⟩
            have hB4 := hO4 _ _ _ hB3 (by omega) (by decide)
            clear k1 k2 k3 hO4
            have k1 := hB4.cell 1; have k2 := hB4.cell 2; have k3 := hB4.cell 3
            simp at k1 k2 k3
            clear hB3 hS3
            go_wp2_with fail
            refine (sh_it2 hS4 hPw ap (by omega) (by omega)).mono ?_
            rintro e w5 ⟨sb, rfl, hsb, hzsb, hS5, hO5⟩
            have hB5 := hO5 _ _ _ hB4 (by omega) (by decide)
            clear k1 k2 k3 hO5
            have k1 := hB5.cell 1; have k2 := hB5.cell 2; have k3 := hB5.cell 3
            simp at k1 k2 k3
            clear hB4 hS4
            go_wp2_with fail
            refine (sh_ws2 hS5 hm2 _ (by rw [blank_size]; omega) (by omega)).mono ?_
            rintro e w6 ⟨L3, rfl, hL3, hm3, hS6, hO6⟩
            have hB6 := hO6 _ _ _ hB5 (by omega) (by decide)
            clear k1 k2 k3 hO6
            have k1 := hB6.cell 1; have k2 := hB6.cell 2; have k3 := hB6.cell 3
            simp at k1 k2 k3
            clear hB5 hS5
            go_wp2_with fail
            refine (sh_ws2 hS6 hm3 _ (by decide) (by omega)).mono ?_
            rintro e w7 ⟨L4, rfl, hL4, hm4, hS7, hO7⟩
            have hB7 := hO7 _ _ _ hB6 (by omega) (by decide)
            clear k1 k2 k3 hO7
            have k1 := hB7.cell 1; have k2 := hB7.cell 2; have k3 := hB7.cell 3
            simp at k1 k2 k3
            clear hB6 hS6
            have hfin : Sh w w7 (showL (l.take (k + 1))) := by
              have hx := hS7
              rw [hL4.out, hL3.out, hL2.out, hL1.out] at hx
              rw [hsn.out]
              unfold lineL
              simp only [n1, n2, n3, if_true, if_false, Bool.false_eq_true, Int.toNat_natCast]
              simp only [blank_data, ← hWD.out, data_mkS, hsa.out, hsb.out, List.append_assoc] at hx
              exact hx
            clear hS7 hB7 k1 k2 k3
            go_wp2
            go_roundw
            case rel => exact ⟨k + 1, by omega, by go_num, hno2, hfin⟩
            case measure => simp [intOf]; omega
          · go_wp2_with fail
            refine (sh_it2 hS2 hPw an (by omega) (by omega)).mono ?_
            rintro e w3 ⟨sa, rfl, hsa, hzsa, hS3, hO3⟩
            have hB3 := hO3 _ _ _ hB2 (by omega) (by decide)
            clear k1 k2 k3 hO3
            have k1 := hB3.cell 1; have k2 := hB3.cell 2; have k3 := hB3.cell 3
            simp at k1 k2 k3
            clear hB2 hS2
            go_wp2_with fail
            refine (sh_ws2 hS3 hm1 _ (by rw [blank_size]; omega) (by omega)).mono ?_
            rintro e w4 ⟨L2, rfl, hL2, hm2, hS4, hO4⟩
            have hB4 := hO4 _ _ _ hB3 (by omega) (by decide)
            clear k1 k2 k3 hO4
            have k1 := hB4.cell 1; have k2 := hB4.cell 2; have k3 := hB4.cell 3
            simp at k1 k2 k3
            clear hB3 hS3
            go_wp2_with fail
            refine (sh_it2 hS4 hPw ap (by omega) (by omega)).mono ?_
            rintro e w5 ⟨sb, rfl, hsb, hzsb, hS5, hO5⟩
            have hB5 := hO5 _ _ _ hB4 (by omega) (by decide)
            clear k1 k2 k3 hO5
            have k1 := hB5.cell 1; have k2 := hB5.cell 2; have k3 := hB5.cell 3
            simp at k1 k2 k3
            clear hB4 hS4
            go_wp2_with fail
            refine (sh_ws2 hS5 hm2 _ (by rw [blank_size]; omega) (by omega)).mono ?_
            rintro e w6 ⟨L3, rfl, hL3, hm3, hS6, hO6⟩
            have hB6 := hO6 _ _ _ hB5 (by omega) (by decide)
            clear k1 k2 k3 hO6
            have k1 := hB6.cell 1; have k2 := hB6.cell 2; have k3 := hB6.cell 3
            simp at k1 k2 k3
            clear hB5 hS5
            go_wp2_with fail
            refine (sh_hx2 hS6 atx (by omega)).mono ?_
            rintro e w7 ⟨sc, rfl, hsc, hzsc, hS7, hO7⟩
            have hB7 := hO7 _ _ _ hB6 (by omega) (by decide)
            clear k1 k2 k3 hO7
            have k1 := hB7.cell 1; have k2 := hB7.cell 2; have k3 := hB7.cell 3
            simp at k1 k2 k3
            clear hB6 hS6
            go_wp2_with fail
            refine (sh_ws2 hS7 hm3 _ (by rw [blank_size]; omega) (by omega)).mono ?_
            rintro e w8 ⟨L4, rfl, hL4, hm4, hS8, hO8⟩
            have hB8 := hO8 _ _ _ hB7 (by omega) (by decide)
            clear k1 k2 k3 hO8
            have k1 := hB8.cell 1; have k2 := hB8.cell 2; have k3 := hB8.cell 3
            simp at k1 k2 k3
            clear hB7 hS7
            go_wp2_with fail
            refine (sh_ws2 hS8 hm4 _ (by decide) (by omega)).mono ?_
            rintro e w9 ⟨L5, rfl, hL5, hm5, hS9, hO9⟩
            have hB9 := hO9 _ _ _ hB8 (by omega) (by decide)
            clear k1 k2 k3 hO9
            have k1 := hB9.cell 1; have k2 := hB9.cell 2; have k3 := hB9.cell 3
            simp at k1 k2 k3
            clear hB8 hS8
            have hfin : Sh w w9 (showL (l.take (k + 1))) := by
              have hx := hS9
              rw [hL5.out, hL4.out, hL3.out, hL2.out, hL1.out] at hx
              rw [hsn.out]
              unfold lineL
              simp only [n1, n2, n3, if_true, if_false, Bool.false_eq_true, Int.toNat_natCast]
              simp only [blank_data, ← hWD.out, data_mkS, hsa.out, hsb.out, hsc.out, List.append_assoc] at hx
              exact hx
            clear hS9 hB9 k1 k2 k3
            go_wp2
            go_roundw
            case rel => exact ⟨k + 1, by omega, by go_num, hno2, hfin⟩
            case measure => simp [intOf]; omega
        · have hbad : Hid (E = ([], k, F)) := by
            have e := badI_at l k hkl (by rw [ha.out, hFa.out]; exact hF0) hno.out
            show _ = _
            rw [Hq.out, e, if_pos hlt, List.getElem?_eq_getElem hkl, ha.out]
            show ([], k, actE ⟨ak, an, ap, atx⟩) = _
            rw [hFa.out]
          have hFb : (F != 0) = true := by simpa using hF0
          go_wp2
          go_ret3
          exact ⟨by rw [hbad.out]; rfl, hS1.2⟩
      · have hke : k = n := by omega
        have hnb : Hid (E = (showL l, 0, 0)) := by
          have e := badI_none l (fun j hj => hno.out j hj (by have := hn.out; omega))
          show _ = _
          rw [Hq.out, e, hn.out, if_neg (Nat.lt_irrefl _)]
        have hS2 : Sh w wr (showL l) := by
          rw [hke, List.take_of_length_le (by have := hn.out; omega)] at hS
          exact hS
        clear hS hLen
        go_wp2_with fail
        refine (string_any _ _ _ hS2.1).mono ?_
        rintro e w2 ⟨rfl, hb2⟩
        go_wp2
        go_ret3
        exact ⟨by rw [hnb.out]; rfl, hS2.2.trans hb2⟩
end Ln
end Go.Proofs.YtbcoecmeoemmeaaDoor
