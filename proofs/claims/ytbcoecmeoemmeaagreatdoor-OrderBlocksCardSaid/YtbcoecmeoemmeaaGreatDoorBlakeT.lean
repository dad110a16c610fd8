/- The document's state behind a block. -/
import Derived.Test.YtbcoecmeoemmeaaGreatDoorBlakeR
import Derived.Test.YtbcoecmeoemmeaaGreatDoorChg2
import Derived.Deep.DeepCutAuto
namespace Go.Proofs.YtbcoecmeoemmeaaGreatDoor
open Go.ChangeShapes Go.WideShapes Go.ChangeAt Go.RowKit
set_option linter.unusedVariables false
set_option linter.unusedSimpArgs false
abbrev RNums := RVec encN 8
theorem rnums_at {h : View} {A : Option Addr} {n c : Nat} {xs : List Nat} (hr : RNums h (.slice A n c) xs) {k : Nat} (hk : k < xs.length) : ∃ b o, A = some ⟨b, o, none⟩ ∧ h ⟨b, o + k, none⟩ = some (.int .i64 (at0 xs k : Nat)) := by
  obtain ⟨A', c', e, _, _, _, _, hel⟩ := hr
  injection e with e1 e2 e3
  subst e1
  obtain ⟨b, o, rfl, hc⟩ := hel (by omega)
  exact ⟨b, o, rfl, by rw [hc k hk, at0_get hk]; rfl⟩
theorem take_at0 {xs : List Nat} {k : Nat} (hk : k < xs.length) : xs.take (k + 1) = xs.take k ++ [at0 xs k] := by
  rw [List.take_add_one, List.getElem?_eq_getElem hk, at0_get hk]; rfl
theorem ws_start {s : List Nat} (h : Ws 8 s) : Ws 16 (s ++ first8) := by
  refine ⟨by rw [List.length_append, h.1]; rfl, fun i => ?_⟩
  have hi := h.2 i
  unfold at0 W32 at *
  rw [List.getD_eq_getElem?_getD] at *
  by_cases hl : i < s.length
  · rw [List.getElem?_append_left hl]; exact hi
  · rw [List.getElem?_append_right (by omega)]
    generalize i - s.length = j
    have : ∀ j, (first8[j]?.getD 0) < 4294967296 := fun j => by
      by_cases hj : j < 8
      · have : ∀ j : Fin 8, (first8[(j : Nat)]?.getD 0) < 4294967296 := by decide
        exact this ⟨j, hj⟩
      · rw [List.getElem?_eq_none (by show 8 ≤ j; omega)]; decide
    exact this j
theorem ord_len16 {r : Nat} (hr : r < 10) : (ordRows.getD r []).length = 16 := by
  have : ∀ r : Fin 10, (ordRows.getD r []).length = 16 := by decide
  exact this ⟨r, hr⟩
theorem ord_lt {r i : Nat} (hr : r < 10) (hi : i < 16) : ord r i < 16 := by
  have : ∀ (r : Fin 10) (i : Fin 16), ord r i < 16 := by decide +kernel
  exact this ⟨r, hr⟩ ⟨i, hi⟩
theorem mixLane_a {M V : List Nat} {r j : Nat} (hj : j < 4) : mixLane M r V j = mix V j (j + 4) (j + 8) (j + 12) (at0 M (ord r (2 * j))) (at0 M (ord r (2 * j + 1))) := by
  unfold mixLane lane
  rw [if_pos hj]
theorem mixLane_b {M V : List Nat} {r j : Nat} : mixLane M r V (4 + j) = mix V j (4 + (j + 1) % 4) (8 + (j + 2) % 4) (12 + (j + 3) % 4) (at0 M (ord r (2 * j + 8))) (at0 M (ord r (2 * j + 9))) := by
  unfold mixLane lane
  rw [if_neg (by omega), show 4 + j - 4 = j by omega, show 2 * (4 + j) = 2 * j + 8 by omega, show 2 * j + 8 + 1 = 2 * j + 9 by omega]
set_option maxHeartbeats 8000000 in
set_option maxRecDepth 100000 in
theorem taken_any (vs vb : Value) (s : List Nat) (b : List UInt8) (many : Nat) (last : Bool) (w : World) (hs : RNums w.cell? vs s) (hws : Ws 8 s) (hb : RBytes w.cell? vb b) (hbl : b.length ≤ 64) (hmany : W32 many) :
    Calls Tryz.prog 142 #[vs, vb, .int .i64 many, .bool last] w fun e w' => ∃ v, e = .returned v ∧ Below w.heap.size w w' ∧ OwnN w' w.heap.size v (takenOf s b many last) := by
  obtain ⟨As, cs, rfl, _⟩ := id hs
  have h8 : s.length = 8 := hws.1
  have Hw := Lib.hid hws
  clear hws
  rw [h8]
  rw [h8] at hs
  go_enter Tryz.func142, Tryz.ntmps142
  go_wp2_with fail
  refine (wordsOf_any vb b _ hb hbl).mono ?_
  rintro e w1 ⟨gm, cm, rfl, hb1, hm⟩
  have hs1 := hs.mono (vle_below hb1)
  clear hs hb
  obtain ⟨M, hM⟩ : ∃ M, Hid (words b = M) := ⟨_, rfl⟩
  have hWM : Ws 16 M := hM.out ▸ Ws.words b
  rw [hM.out] at hm
  go_wp2
  go_loopw [10, 11] (fun v i wr => ∃ k : Nat, k ≤ 8 ∧ i = .int .i64 k ∧ OwnN wr w1.heap.size v (s.take k) ∧ Below w1.heap.size w1 wr) (fun _ i _ => 8 - (intOf i).toNat)
  case atStart => exact ⟨0, Nat.zero_le _, rfl, OwnVec.nil _ _ _ _, Below.refl _ _⟩
  case round =>
    obtain ⟨k, hk, rfl, hown, hbl⟩ := hrel
    have hz := hbl.size
    by_cases hlt : k < 8
    · obtain ⟨b0, o0, rfl, hc0⟩ := rnums_at hs1 (k := k) (by omega)
      have hc1 := vle_below hbl _ _ hc0
      clear hc0
      have hki : (k : Int) < 8 := by omega
      have Hn := Lib.hid (take_at0 (xs := s) (k := k) (by omega))
      have hlen : (s.take k).length ≤ 8 := by rw [List.length_take]; omega
      go_wp2_with (at_builtin; go_loud (refine wpList_append_vec1 (n := 1024) (W := w1) (at0 s k) elemN8 encN_one _ _ rfl rfl rfl hown hbl (by omega) rfl (by decide) (by omega) (by omega) ?_))
      intro v' w3 ho3 hb3 hg3
      clear hg3 hlen
      go_wp2
      go_roundw
      case rel => exact ⟨k + 1, by omega, by go_num, by rw [Hn.out]; exact ho3, hb3⟩
      case measure => simp [intOf]; omega
    · rw [List.take_of_length_le (by omega)] at hown
      go_wp2
      obtain ⟨wo, hwo⟩ : ∃ wo : World, wo = wr := ⟨_, rfl⟩
      subst hwo
      go_loopw [10, 12] (fun v i wr => ∃ k : Nat, k ≤ 8 ∧ i = .int .i64 k ∧ OwnN wr w1.heap.size v (s ++ first8.take k) ∧ Below w1.heap.size w1 wr) (fun _ i _ => 8 - (intOf i).toNat)
      case atStart => exact ⟨0, Nat.zero_le _, rfl, by simpa using hown, hbl⟩
      case round =>
        clear hown hbl hz
        obtain ⟨k, hk, rfl, hown, hbl⟩ := hrel
        have hz := hbl.size
        by_cases hlt : k < 8
        · have hki : (k : Int) < 8 := by omega
          have Hn := Lib.hid (take_at0 (xs := first8) (k := k) (by exact hlt))
          have hlen : (s ++ first8.take k).length ≤ 16 := by rw [List.length_append, List.length_take]; omega
          go_wp2_with fail
          refine (firstWord_any k _ hlt).mono ?_
          rintro e w2 ⟨rfl, hb2⟩
          have hown2 := hown.kept hb2
          have hbl2 := hbl.trans (hb2.mono hz)
          have hz2 := hb2.size
          go_wp2_with (at_builtin; go_loud (refine wpList_append_vec1 (n := 1024) (W := w1) (at0 first8 k) elemN8 encN_one _ _ rfl rfl rfl hown2 hbl2 (by omega) rfl (by decide) (by omega) (by omega) ?_))
          intro v' w3 ho3 hb3 hg3
          clear hg3 hlen
          go_wp2
          go_roundw
          case rel => exact ⟨k + 1, by omega, by go_num, by rw [Hn.out]; exact ho3, hb3⟩
          case measure => simp [intOf]; omega
        · rw [List.take_of_length_le (l := first8) (by show 8 ≤ k; omega)] at hown
          obtain ⟨V0, hV0⟩ : ∃ V0, Hid (s ++ first8 = V0) := ⟨_, rfl⟩
          have hW0 : Ws 16 V0 := hV0.out ▸ ws_start Hw.out
          rw [hV0.out] at hown
          obtain ⟨g, cg, e, hg1, hg2⟩ := hown.there (by rw [hW0.1]; decide)
          rw [hW0.1] at e
          subst e
          have hx1 := ownN_at hown (i := 12) (by rw [hW0.1]; decide)
          have e1 := i64_xor (hW0.2 12) hmany
          obtain ⟨V1, hV1⟩ : ∃ V1, Hid (V0.set 12 (xor32 (at0 V0 12) many) = V1) := ⟨_, rfl⟩
          have hW1 : Ws 16 V1 := hV1.out ▸ hW0.set (xor32_lt (hW0.2 12) hmany)
          go_wp2_with (refine wpList_store_vec (xs := V0) (i := 12) (xor32 (at0 V0 12) many) rfl rfl rfl rfl (by kernel_rfl) rfl rfl hown (by rw [hW0.1]; decide) ?_)
          intro w2 ho2 hg
          rw [hV1.out] at ho2
          have hbl2 : Below w1.heap.size w1 w2 := hbl.trans ((Chg.of_grown (G := [g]) hg (by simp)).below (by simpa using hg1) hz)
          have hz2 := hg.size
          clear hg hown hbl hx1 e1
          have hx1 := ownN_at ho2 (i := 14) (by rw [hW1.1]; decide)
          have e1 := i64_xor (hW1.2 14) (show W32 4294967295 by unfold W32; decide)
          obtain ⟨V2, hV2⟩ : ∃ V2, Hid ((if last then V1.set 14 (xor32 (at0 V1 14) 4294967295) else V1) = V2) := ⟨_, rfl⟩
          have hst : Hid (startOf s many last = V2) := by
            show _ = _
            rw [← hV2.out, ← hV1.out, ← hV0.out]; rfl
          have hW2 : Ws 16 V2 := by
            rw [← hV2.out]
            split
            · exact hW1.set (xor32_lt (hW1.2 14) (by unfold W32; decide))
            · exact hW1
          go_upto_if 48 with fail
          go_cut [10] (fun v w => v = .slice (some ⟨g, 0, none⟩) 16 cg ∧ OwnN w w1.heap.size (.slice (some ⟨g, 0, none⟩) 16 cg) V2 ∧ Below w1.heap.size w1 w)
          case first =>
            cases last
            · have e2 : V1 = V2 := hV2.out
              rw [e2] at ho2
              clear hx1 e1 e2
              go_wp2
              go_meet
              exact ⟨rfl, ho2, hbl2⟩
            · have e1 : bits .xor .i64 (at0 V1 14 : Nat) 4294967295 = (xor32 (at0 V1 14) 4294967295 : Nat) := e1
              have e2 : V1.set 14 (xor32 (at0 V1 14) 4294967295) = V2 := hV2.out
              have E2 := Lib.hid e2
              clear e2
              go_wp2_with (refine wpList_store_vec (xs := V1) (i := 14) (xor32 (at0 V1 14) 4294967295) rfl rfl rfl rfl (by kernel_rfl) rfl rfl ho2 (by rw [hW1.1]; decide) ?_)
              intro w3 ho3 hg3
              rw [E2.out] at ho3
              have hbl3 : Below w1.heap.size w1 w3 := hbl2.trans ((Chg.of_grown (G := [g]) hg3 (by simp)).below (by simpa using hg1) (by omega))
              clear ho2 hbl2 hx1 e1 hg3 E2
              go_wp2
              go_meet
              exact ⟨rfl, ho3, hbl3⟩
          case rest =>
            obtain ⟨rfl, ho9, hbl9⟩ := hcut
            clear ho2 hbl2 hx1 e1
            go_wp2
            go_loopw [13] (fun i wr => ∃ k : Nat, k ≤ 10 ∧ i = .int .i64 k ∧ OwnN wr w1.heap.size (.slice (some ⟨g, 0, none⟩) 16 cg) (roundsTo M V2 k) ∧ Below w1.heap.size w1 wr) (fun i _ => 10 - (intOf i).toNat)
            case atStart => exact ⟨0, Nat.zero_le _, rfl, ho9, hbl9⟩
            case round =>
              clear ho9 hbl9
              obtain ⟨k, hk, rfl, hown, hbl⟩ := hrel
              have hz := hbl.size
              obtain ⟨VR, hVR⟩ : ∃ VR, Hid (roundsTo M V2 k = VR) := ⟨_, rfl⟩
              have hWR : Ws 16 VR := hVR.out ▸ hW2.roundsTo M k
              rw [hVR.out] at hown
              by_cases hlt : k < 10
              · obtain ⟨ws, hws⟩ : ∃ ws, ws = wr := ⟨_, rfl⟩
                rw [← hws] at hown hbl hz ⊢
                clear hws
                go_wp2_with fail
                refine (turnsOf_any k _ hlt).mono ?_
                rintro e wt ⟨vo, rfl, hbt, hO1⟩
                obtain ⟨O, hO⟩ : ∃ O, Hid (ordRows.getD k [] = O) := ⟨_, rfl⟩
                have hOl : O.length = 16 := hO.out ▸ ord_len16 hlt
                rw [hO.out] at hO1
                obtain ⟨go, co, e, hgo1, hgo2⟩ := hO1.there (by omega)
                rw [hOl] at e
                subst e
                have hown2 := hown.kept hbt
                have hblt := hbl.trans (hbt.mono hz)
                have hzt0 := hbt.size
                have hgr := hown.own.lt g rfl
                have hgm := hm.own.lt gm rfl
                obtain ⟨hgr1, hgr2⟩ := hgr
                obtain ⟨hgm1, hgm2⟩ := hgm
                clear hown hbl hbt
                go_wp2
                go_loopw [15] (fun i wr => ∃ j : Nat, j ≤ 4 ∧ i = .int .i64 j ∧ OwnN wr w1.heap.size (.slice (some ⟨g, 0, none⟩) 16 cg) (lanesTo M k VR (j)) ∧ Below w1.heap.size w1 wr ∧ OwnN wr ws.heap.size (.slice (some ⟨go, 0, none⟩) 16 co) O ∧ wt.heap.size ≤ wr.heap.size) (fun i _ => 4 - (intOf i).toNat)
                case atStart => exact ⟨0, Nat.zero_le _, rfl, hown2, hblt, hO1, Nat.le_refl _⟩
                case round =>
                  obtain ⟨j, hj, rfl, hoj, hblj, hOj, hzj⟩ := hrel
                  have hz1 := hblj.size
                  obtain ⟨VJ, hVJ⟩ : ∃ VJ, Hid (lanesTo M k VR (j) = VJ) := ⟨_, rfl⟩
                  have hWJ : Ws 16 VJ := hVJ.out ▸ hWR.lanesTo M k (j)
                  rw [hVJ.out] at hoj
                  by_cases hltj : j < 4
                  · have hji : (j : Int) < 4 := by omega
                    have hstep : lanesTo M k VR (j + 1) = mix VJ j (j + 4) (j + 8) (j + 12) (at0 M (ord k (2 * j))) (at0 M (ord k (2 * j + 1))) := by
                      rw [lanesTo_succ, hVJ.out, mixLane_a hltj]
                    have hp16 := ord_lt (i := 2 * j) hlt (by omega)
                    have hq16 := ord_lt (i := 2 * j + 1) hlt (by omega)
                    have hcp : wr.cell? ⟨go, 2 * j, none⟩ = some (.int .i64 (ord k (2 * j) : Nat)) := by
                      have := ownN_at hOj (i := 2 * j) (by rw [hOl]; omega)
                      rw [this, ← hO.out]; rfl
                    have hcq : wr.cell? ⟨go, 2 * j + 1, none⟩ = some (.int .i64 (ord k (2 * j + 1) : Nat)) := by
                      have := ownN_at hOj (i := 2 * j + 1) (by rw [hOl]; omega)
                      rw [this, ← hO.out]; rfl
                    generalize ord k (2 * j) = p at hstep hp16 hcp
                    generalize ord k (2 * j + 1) = q at hstep hq16 hcq
                    have hmp : wr.cell? ⟨gm, p, none⟩ = some (.int .i64 (at0 M p : Nat)) := vle_below hblj _ _ (ownN_at hm (by rw [hWM.1]; exact hp16))
                    have hmq : wr.cell? ⟨gm, q, none⟩ = some (.int .i64 (at0 M q : Nat)) := vle_below hblj _ _ (ownN_at hm (by rw [hWM.1]; exact hq16))
                    have hWp := hWM.2 p
                    have hWq := hWM.2 q
                    generalize at0 M p = x at hmp hstep hWp
                    generalize at0 M q = y at hmq hstep hWq
                    have hpi : (p : Int) < 16 := by omega
                    have hqi : (q : Int) < 16 := by omega
                    obtain ⟨jb, hjb, hjb1⟩ : ∃ jb, Hid (j + 4 = jb) ∧ jb < 16 := ⟨_, rfl, by omega⟩
                    obtain ⟨jc, hjc, hjc1⟩ : ∃ jc, Hid (j + 8 = jc) ∧ jc < 16 := ⟨_, rfl, by omega⟩
                    obtain ⟨jd, hjd, hjd1⟩ : ∃ jd, Hid (j + 12 = jd) ∧ jd < 16 := ⟨_, rfl, by omega⟩
                    obtain ⟨j2, hj2, hj21⟩ : ∃ j2, Hid (2 * j = j2) ∧ j2 < 16 := ⟨_, rfl, by omega⟩
                    obtain ⟨j3, hj3, hj31⟩ : ∃ j3, Hid (2 * j + 1 = j3) ∧ j3 < 16 := ⟨_, rfl, by omega⟩
                    have f1 : IntKind.i64.wrap ((j : Int) + 4) = jb := by have := hjb.out; rw [wraps62 _ (by omega) (by omega)]; omega
                    have f2 : IntKind.i64.wrap ((j : Int) + 8) = jc := by have := hjc.out; rw [wraps62 _ (by omega) (by omega)]; omega
                    have f3 : IntKind.i64.wrap ((j : Int) + 12) = jd := by have := hjd.out; rw [wraps62 _ (by omega) (by omega)]; omega
                    have f4 : IntKind.i64.wrap (2 * (j : Int)) = j2 := by have := hj2.out; rw [wraps62 _ (by omega) (by omega)]; omega
                    have f5 : IntKind.i64.wrap ((j2 : Int) + 1) = j3 := by have := hj2.out; have := hj3.out; rw [wraps62 _ (by omega) (by omega)]; omega
                    have f6 : (j2 : Int) < 16 := by omega
                    have f7 : (j3 : Int) < 16 := by omega
                    rw [hjb.out, hjc.out, hjd.out] at hstep
                    rw [hj2.out] at hcp
                    rw [hj3.out] at hcq
                    have Hstep := Lib.hid hstep
                    clear hstep
                    go_wp2
                    refine wp_region_pl0 (fun w' => Below wr.heap.size wr w') (fun w' => Chg [g] wr w') [] (.q 0 (.q 1 (.q 2 (.q 3 (.q 4 (.q 5 (.q 6 (.q 7 (.q 8 (.q 9 (.q 10 (.q 11 (.q 12 (.q 13 (.q 14 (.q 15 (.q 16 (.q 17 (.q 18 (.q 19 (.q 20 (.q 21 (.q 22 (.q 23 (.q 24 (.l 25 .nil)))))))))))))))))))))))))) (by kernel_rfl) (by kernel_rfl) (fun _ _ d _ _ h => by cases d <;> exact h) rfl (by kernel_rfl) ?_ ?_
                    · exact ⟨below_drew _, (Chg.refl _ _).drew⟩
                    intro W hS0 hS
                    repeat (first
                      | (refine pl_q (by assumption) rfl rfl ?_; apply Exists.intro; refine ⟨fun w' hS => ?_, ?_⟩; (· (have h1 := (hS.cell go j2 (by omega) (by simp; omega)).trans hcp; have h2 := (hS.cell go j3 (by omega) (by simp; omega)).trans hcq; have h3 := (hS.cell gm p (by omega) (by simp; omega)).trans hmp; have h4 := (hS.cell gm q (by omega) (by simp; omega)).trans hmq; go_simp; exact rfl)); simp only [List.getElem_toArray, List.getElem_cons_zero, List.getElem_cons_succ, Act.put, List.setIfInBounds_toArray, List.set_cons_zero, List.set_cons_succ])
                      | (refine pl_qc rfl rfl ?_; apply Exists.intro; refine ⟨fun w' _ => ?_, ?_⟩; (· (go_simp; exact rfl)); simp only [List.getElem_toArray, List.getElem_cons_zero, List.getElem_cons_succ, Act.put, List.setIfInBounds_toArray, List.set_cons_zero, List.set_cons_succ])
                      | (refine pl_skip (by assumption) rfl rfl ?_; simp only [List.getElem_toArray, List.getElem_cons_zero, List.getElem_cons_succ, Act.put, List.setIfInBounds_toArray, List.set_cons_zero, List.set_cons_succ])
                      | (refine pl_skipl (by assumption) rfl rfl ?_; simp only [List.getElem_toArray, List.getElem_cons_zero, List.getElem_cons_succ, Act.put, List.setIfInBounds_toArray, List.set_cons_zero, List.set_cons_succ]))
                    first
                      | refine pl_do rfl rfl (fun K hK => ?_)
                      | refine op_do rfl rfl (fun K hK => ?_)
                    try simp only [List.getElem_toArray, List.getElem_cons_zero, List.getElem_cons_succ]
                    go_simp
                    refine (mixed_any g cg w1.heap.size VJ j jb jc jd x y _ (hoj.kept hS0) hWJ (by omega) hjb1 hjc1 hjd1 hWp hWq).mono ?_
                    rintro e w5 ⟨rfl, ho5, hk5⟩
                    have hk6 := hS.trans hk5
                    refine hK.out _ _ (hk6) (fun hS => ?_)
                    clear hK K
                    try simp only [List.getElem_toArray, List.getElem_cons_zero, List.getElem_cons_succ, Act.put, List.setIfInBounds_toArray, List.set_cons_zero, List.set_cons_succ]
                    refine pl_nil ?_
                    go_wp2
                    go_roundw
                    case rel => exact ⟨j + 1, by omega, by go_num, by rw [show (j + 1) = j + 1 by omega, Hstep.out]; exact ho5, hblj.trans (hk6.below (by simpa using hg1) hz1), hOj.chg' hk6 (by simp; omega), Nat.le_trans hzj hk6.size⟩
                    case measure => simp [intOf]; omega
                  · have hj4 : j = 4 := by omega
                    rw [hj4] at hVJ
                    rw [← hVJ.out] at hoj
                    have hoX := hoj
                    have hblX := hblj
                    have hOX := hOj
                    have hzX := hzj
                    clear hj4 hoj hblj hOj hzj hVJ hWJ hz1
                    go_wp2
                    clear hltj
                    go_loopw [16] (fun i wr => ∃ j : Nat, j ≤ 4 ∧ i = .int .i64 j ∧ OwnN wr w1.heap.size (.slice (some ⟨g, 0, none⟩) 16 cg) (lanesTo M k VR (4 + j)) ∧ Below w1.heap.size w1 wr ∧ OwnN wr ws.heap.size (.slice (some ⟨go, 0, none⟩) 16 co) O ∧ wt.heap.size ≤ wr.heap.size) (fun i _ => 4 - (intOf i).toNat)
                    case atStart => exact ⟨0, Nat.zero_le _, rfl, by rw [Nat.add_zero]; exact hoX, hblX, hOX, hzX⟩
                    case round =>
                      obtain ⟨j, hj, rfl, hoj, hblj, hOj, hzj⟩ := hrel
                      have hz1 := hblj.size
                      obtain ⟨VJ, hVJ⟩ : ∃ VJ, Hid (lanesTo M k VR (4 + j) = VJ) := ⟨_, rfl⟩
                      have hWJ : Ws 16 VJ := hVJ.out ▸ hWR.lanesTo M k (4 + j)
                      rw [hVJ.out] at hoj
                      by_cases hltj : j < 4
                      · have hji : (j : Int) < 4 := by omega
                        have hstep : lanesTo M k VR (4 + j + 1) = mix VJ j (4 + (j + 1) % 4) (8 + (j + 2) % 4) (12 + (j + 3) % 4) (at0 M (ord k (2 * j + 8))) (at0 M (ord k (2 * j + 9))) := by
                          rw [lanesTo_succ, hVJ.out, mixLane_b]
                        have hp16 := ord_lt (i := 2 * j + 8) hlt (by omega)
                        have hq16 := ord_lt (i := 2 * j + 9) hlt (by omega)
                        have hcp : wr.cell? ⟨go, 2 * j + 8, none⟩ = some (.int .i64 (ord k (2 * j + 8) : Nat)) := by
                          have := ownN_at hOj (i := 2 * j + 8) (by rw [hOl]; omega)
                          rw [this, ← hO.out]; rfl
                        have hcq : wr.cell? ⟨go, 2 * j + 9, none⟩ = some (.int .i64 (ord k (2 * j + 9) : Nat)) := by
                          have := ownN_at hOj (i := 2 * j + 9) (by rw [hOl]; omega)
                          rw [this, ← hO.out]; rfl
                        generalize ord k (2 * j + 8) = p at hstep hp16 hcp
                        generalize ord k (2 * j + 9) = q at hstep hq16 hcq
                        have hmp : wr.cell? ⟨gm, p, none⟩ = some (.int .i64 (at0 M p : Nat)) := vle_below hblj _ _ (ownN_at hm (by rw [hWM.1]; exact hp16))
                        have hmq : wr.cell? ⟨gm, q, none⟩ = some (.int .i64 (at0 M q : Nat)) := vle_below hblj _ _ (ownN_at hm (by rw [hWM.1]; exact hq16))
                        have hWp := hWM.2 p
                        have hWq := hWM.2 q
                        generalize at0 M p = x at hmp hstep hWp
                        generalize at0 M q = y at hmq hstep hWq
                        have hpi : (p : Int) < 16 := by omega
                        have hqi : (q : Int) < 16 := by omega
                        obtain ⟨ja, hja⟩ : ∃ ja, Hid (j + 1 = ja) := ⟨_, rfl⟩
                        obtain ⟨jb', hjb'⟩ : ∃ jb', Hid ((j + 1) % 4 = jb') := ⟨_, rfl⟩
                        obtain ⟨jb, hjb, hjb1⟩ : ∃ jb, Hid (4 + (j + 1) % 4 = jb) ∧ jb < 16 := ⟨_, rfl, by omega⟩
                        obtain ⟨je, hje⟩ : ∃ je, Hid (j + 2 = je) := ⟨_, rfl⟩
                        obtain ⟨jc', hjc'⟩ : ∃ jc', Hid ((j + 2) % 4 = jc') := ⟨_, rfl⟩
                        obtain ⟨jc, hjc, hjc1⟩ : ∃ jc, Hid (8 + (j + 2) % 4 = jc) ∧ jc < 16 := ⟨_, rfl, by omega⟩
                        obtain ⟨jf, hjf⟩ : ∃ jf, Hid (j + 3 = jf) := ⟨_, rfl⟩
                        obtain ⟨jd', hjd'⟩ : ∃ jd', Hid ((j + 3) % 4 = jd') := ⟨_, rfl⟩
                        obtain ⟨jd, hjd, hjd1⟩ : ∃ jd, Hid (12 + (j + 3) % 4 = jd) ∧ jd < 16 := ⟨_, rfl, by omega⟩
                        obtain ⟨jg, hjg⟩ : ∃ jg, Hid (2 * j = jg) := ⟨_, rfl⟩
                        obtain ⟨j2, hj2, hj21⟩ : ∃ j2, Hid (2 * j + 8 = j2) ∧ j2 < 16 := ⟨_, rfl, by omega⟩
                        obtain ⟨j3, hj3, hj31⟩ : ∃ j3, Hid (2 * j + 9 = j3) ∧ j3 < 16 := ⟨_, rfl, by omega⟩
                        have f1a : IntKind.i64.wrap ((j : Int) + 1) = ja := by have := hja.out; rw [wraps62 _ (by omega) (by omega)]; omega
                        have f1b : Int.tmod (ja : Int) 4 = jb' := by have := hja.out; have := hjb'.out; rw [Int.tmod_eq_emod_of_nonneg (by omega)]; omega
                        have f1 : IntKind.i64.wrap (4 + (jb' : Int)) = jb := by have := hjb'.out; have := hjb.out; rw [wraps62 _ (by omega) (by omega)]; omega
                        have f2a : IntKind.i64.wrap ((j : Int) + 2) = je := by have := hje.out; rw [wraps62 _ (by omega) (by omega)]; omega
                        have f2b : Int.tmod (je : Int) 4 = jc' := by have := hje.out; have := hjc'.out; rw [Int.tmod_eq_emod_of_nonneg (by omega)]; omega
                        have f2 : IntKind.i64.wrap (8 + (jc' : Int)) = jc := by have := hjc'.out; have := hjc.out; rw [wraps62 _ (by omega) (by omega)]; omega
                        have f3a : IntKind.i64.wrap ((j : Int) + 3) = jf := by have := hjf.out; rw [wraps62 _ (by omega) (by omega)]; omega
                        have f3b : Int.tmod (jf : Int) 4 = jd' := by have := hjf.out; have := hjd'.out; rw [Int.tmod_eq_emod_of_nonneg (by omega)]; omega
                        have f3 : IntKind.i64.wrap (12 + (jd' : Int)) = jd := by have := hjd'.out; have := hjd.out; rw [wraps62 _ (by omega) (by omega)]; omega
                        have f4a : IntKind.i64.wrap (2 * (j : Int)) = jg := by have := hjg.out; rw [wraps62 _ (by omega) (by omega)]; omega
                        have f4 : IntKind.i64.wrap ((jg : Int) + 8) = j2 := by have := hjg.out; have := hj2.out; rw [wraps62 _ (by omega) (by omega)]; omega
                        have f5 : IntKind.i64.wrap ((jg : Int) + 9) = j3 := by have := hjg.out; have := hj3.out; rw [wraps62 _ (by omega) (by omega)]; omega
                        have f6 : (j2 : Int) < 16 := by omega
                        have f7 : (j3 : Int) < 16 := by omega
                        rw [hjb.out, hjc.out, hjd.out] at hstep
                        rw [hj2.out] at hcp
                        rw [hj3.out] at hcq
                        have Hstep := Lib.hid hstep
                        clear hstep
                        go_wp2
                        refine wp_region_pl0 (fun w' => Below wr.heap.size wr w') (fun w' => Chg [g] wr w') [] (.q 0 (.q 1 (.q 2 (.q 3 (.q 4 (.q 5 (.q 6 (.q 7 (.q 8 (.q 9 (.q 10 (.q 11 (.q 12 (.q 13 (.q 14 (.q 15 (.q 16 (.q 17 (.q 18 (.q 19 (.q 20 (.q 21 (.q 22 (.q 23 (.q 24 (.q 25 (.q 26 (.q 27 (.q 28 (.q 29 (.q 30 (.q 31 (.l 32 .nil))))))))))))))))))))))))))))))))) (by kernel_rfl) (by kernel_rfl) (fun _ _ d _ _ h => by cases d <;> exact h) rfl (by kernel_rfl) ?_ ?_
                        · exact ⟨below_drew _, (Chg.refl _ _).drew⟩
                        intro W hS0 hS
                        repeat (first
                          | (refine pl_q (by assumption) rfl rfl ?_; apply Exists.intro; refine ⟨fun w' hS => ?_, ?_⟩; (· (have h1 := (hS.cell go j2 (by omega) (by simp; omega)).trans hcp; have h2 := (hS.cell go j3 (by omega) (by simp; omega)).trans hcq; have h3 := (hS.cell gm p (by omega) (by simp; omega)).trans hmp; have h4 := (hS.cell gm q (by omega) (by simp; omega)).trans hmq; go_simp; exact rfl)); simp only [List.getElem_toArray, List.getElem_cons_zero, List.getElem_cons_succ, Act.put, List.setIfInBounds_toArray, List.set_cons_zero, List.set_cons_succ])
                          | (refine pl_qc rfl rfl ?_; apply Exists.intro; refine ⟨fun w' _ => ?_, ?_⟩; (· (go_simp; exact rfl)); simp only [List.getElem_toArray, List.getElem_cons_zero, List.getElem_cons_succ, Act.put, List.setIfInBounds_toArray, List.set_cons_zero, List.set_cons_succ])
                          | (refine pl_skip (by assumption) rfl rfl ?_; simp only [List.getElem_toArray, List.getElem_cons_zero, List.getElem_cons_succ, Act.put, List.setIfInBounds_toArray, List.set_cons_zero, List.set_cons_succ])
                          | (refine pl_skipl (by assumption) rfl rfl ?_; simp only [List.getElem_toArray, List.getElem_cons_zero, List.getElem_cons_succ, Act.put, List.setIfInBounds_toArray, List.set_cons_zero, List.set_cons_succ]))
                        first
                          | refine pl_do rfl rfl (fun K hK => ?_)
                          | refine op_do rfl rfl (fun K hK => ?_)
                        try simp only [List.getElem_toArray, List.getElem_cons_zero, List.getElem_cons_succ]
                        go_simp
                        refine (mixed_any g cg w1.heap.size VJ j jb jc jd x y _ (hoj.kept hS0) hWJ (by omega) hjb1 hjc1 hjd1 hWp hWq).mono ?_
                        rintro e w5 ⟨rfl, ho5, hk5⟩
                        have hk6 := hS.trans hk5
                        refine hK.out _ _ (hk6) (fun hS => ?_)
                        clear hK K
                        try simp only [List.getElem_toArray, List.getElem_cons_zero, List.getElem_cons_succ, Act.put, List.setIfInBounds_toArray, List.set_cons_zero, List.set_cons_succ]
                        refine pl_nil ?_
                        clear f1a
                        go_wp2
                        go_roundw
                        case rel => exact ⟨j + 1, by omega, by go_num, by rw [show 4 + (j + 1) = 4 + j + 1 by omega, Hstep.out]; exact ho5, hblj.trans (hk6.below (by simpa using hg1) hz1), hOj.chg' hk6 (by simp; omega), Nat.le_trans hzj hk6.size⟩
                        case measure => simp [intOf]; omega
                      · have hj4 : j = 4 := by omega
                        rw [hj4, show 4 + 4 = 8 from rfl] at hVJ
                        rw [← hVJ.out] at hoj
                        clear hj4 hVJ hWJ
                        go_wp2
                        go_roundw
                        case rel => exact ⟨k + 1, by omega, by go_num, by rw [roundsTo_succ, hVR.out]; exact hoj, hblj⟩
                        case measure => simp [intOf]; omega
              · have hk10 : k = 10 := by omega
                have HK := Lib.hid hk10
                clear hk10
                go_wp2
                have hsE := hs1.mono (vle_below hbl)
                obtain ⟨ws, hws⟩ : ∃ ws, ws = wr := ⟨_, rfl⟩
                rw [← hws] at hown hbl hz hsE ⊢
                clear hws
                go_loopw [17, 18] (fun v i wr => ∃ j : Nat, j ≤ 8 ∧ i = .int .i64 j ∧ OwnN wr ws.heap.size v ((List.range j).map (closed s VR)) ∧ Below ws.heap.size ws wr) (fun _ i _ => 8 - (intOf i).toNat)
                case atStart => exact ⟨0, Nat.zero_le _, rfl, OwnVec.nil _ _ _ _, Below.refl _ _⟩
                case round =>
                  obtain ⟨j, hj, rfl, hout, hblj⟩ := hrel
                  have hz1 := hblj.size
                  by_cases hltj : j < 8
                  · have hji : (j : Int) < 8 := by omega
                    have hji' : (j : Int) < 16 := by omega
                    obtain ⟨b0, o0, rfl, hc1⟩ := rnums_at hsE (k := j) (by omega)
                    have hc2 := ownN_at hown (i := j) (by rw [hWR.1]; omega)
                    have hc3 := ownN_at hown (i := j + 8) (by rw [hWR.1]; omega)
                    obtain ⟨j8, hj8, hj81⟩ : ∃ j8, Hid (j + 8 = j8) ∧ j8 < 16 := ⟨_, rfl, by omega⟩
                    have f1 : IntKind.i64.wrap ((j : Int) + 8) = j8 := by have := hj8.out; rw [wraps62 _ (by omega) (by omega)]; omega
                    have f2 : (j8 : Int) < 16 := by omega
                    have hn : (List.range (j + 1)).map (closed s VR) = (List.range j).map (closed s VR) ++ [closed s VR j] := by rw [List.range_succ, List.map_append]; rfl
                    have x1 := i64_xor (Hw.out.2 j) (hWR.2 j)
                    have x2 := i64_xor (xor32_lt (Hw.out.2 j) (hWR.2 j)) (hWR.2 (j + 8))
                    have x3 : xor32 (xor32 (at0 s j) (at0 VR j)) (at0 VR (j + 8)) = closed s VR j := rfl
                    rw [x3] at x2
                    rw [hj8.out] at hc3 x2
                    have Hn := Lib.hid hn
                    have hlen : ((List.range j).map (closed s VR)).length = j := by simp
                    clear hn x3
                    generalize closed s VR j = z at x2 Hn
                    go_wp2
                    refine wp_region_pl0 (fun w' => Below wr.heap.size wr w') (fun w' => Below ws.heap.size ws w') [18] (.q 0 (.q 1 (.q 2 (.q 3 (.q 4 (.q 5 (.q 6 (.q 7 (.q 8 (.q 9 (.q 10 (.q 11 (.q 12 (.q 13 (.q 14 (.q 15 (.l 16 (.l 17 (.qc 18 .nil))))))))))))))))))) (by kernel_rfl) (by kernel_rfl) (fun _ _ d _ _ h => by cases d <;> exact h) rfl (by kernel_rfl) ?_ ?_
                    · exact ⟨below_drew _, hblj.drew⟩
                    intro W hS0 hS
                    have hzW := hS0.size
                    repeat (first
                      | (refine pl_q (by assumption) rfl rfl ?_; apply Exists.intro; refine ⟨fun w' hS => ?_, ?_⟩; (· (have h1 := vle_below hS _ _ hc1; have h2 := vle_below hS _ _ hc2; have h3 := vle_below hS _ _ hc3; go_simp; exact rfl)); simp only [List.getElem_toArray, List.getElem_cons_zero, List.getElem_cons_succ, Act.put, List.setIfInBounds_toArray, List.set_cons_zero, List.set_cons_succ])
                      | (refine pl_qc rfl rfl ?_; apply Exists.intro; refine ⟨fun w' _ => ?_, ?_⟩; (· (go_simp; exact rfl)); simp only [List.getElem_toArray, List.getElem_cons_zero, List.getElem_cons_succ, Act.put, List.setIfInBounds_toArray, List.set_cons_zero, List.set_cons_succ])
                      | (refine pl_skip (by assumption) rfl rfl ?_; simp only [List.getElem_toArray, List.getElem_cons_zero, List.getElem_cons_succ, Act.put, List.setIfInBounds_toArray, List.set_cons_zero, List.set_cons_succ])
                      | (refine pl_skipl (by assumption) rfl rfl ?_; simp only [List.getElem_toArray, List.getElem_cons_zero, List.getElem_cons_succ, Act.put, List.setIfInBounds_toArray, List.set_cons_zero, List.set_cons_succ]))
                    first
                      | refine pl_do rfl rfl (fun K hK => ?_)
                      | refine op_do rfl rfl (fun K hK => ?_)
                    try simp only [List.getElem_toArray, List.getElem_cons_zero, List.getElem_cons_succ]
                    go_simp
                    have hb4 := below_one W (.cells #[.int .i64 z] 3)
                    have hbl4 : Below ws.heap.size ws (W.alloc (.cells #[.int .i64 z] 3)) := hS.trans (hb4.mono (by omega))
                    have hn0 : (W.alloc (.cells #[.int .i64 z] 3)).cell? ⟨W.heap.size, 0, none⟩ = some (encN z) := (Blk.new W 3 #[.int .i64 z]).cell 0
                    have ho4 := (hout.kept hS0).kept hb4
                    refine hK.out _ _ (hbl4) (fun hS => ?_)
                    clear hK K
                    try simp only [List.getElem_toArray, List.getElem_cons_zero, List.getElem_cons_succ, Act.put, List.setIfInBounds_toArray, List.set_cons_zero, List.set_cons_succ]
                    first
                      | refine pl_do rfl rfl (fun K hK => ?_)
                      | refine op_do rfl rfl (fun K hK => ?_)
                    try simp only [List.getElem_toArray, List.getElem_cons_zero, List.getElem_cons_succ]
                    refine wp_append_at (n := 1024) (ys := [z]) elemN8 encN_one _ _ rfl rfl ho4 (by simp; omega) rfl (RVec.one z hn0 (by decide)) (by decide) (by rw [hlen]; simp; omega) (by rw [hlen]; simp; omega) (fun v6 w6 ho6 hg6 _ => ?_)
                    have hbl6 : Below ws.heap.size ws w6 := hbl4.grown hg6 (by simp; omega) (fun g hg => (ho4.own.lt g hg).1)
                    refine hK.out _ _ (hbl6) (fun hS => ?_)
                    clear hK K
                    try simp only [List.getElem_toArray, List.getElem_cons_zero, List.getElem_cons_succ, Act.put, List.setIfInBounds_toArray, List.set_cons_zero, List.set_cons_succ]
                    repeat (first
                      | (refine pl_q (by assumption) rfl rfl ?_; apply Exists.intro; refine ⟨fun w' hS => ?_, ?_⟩; (· (skip; go_simp; exact rfl)); simp only [List.getElem_toArray, List.getElem_cons_zero, List.getElem_cons_succ, Act.put, List.setIfInBounds_toArray, List.set_cons_zero, List.set_cons_succ])
                      | (refine pl_qc rfl rfl ?_; apply Exists.intro; refine ⟨fun w' _ => ?_, ?_⟩; (· (go_simp; exact rfl)); simp only [List.getElem_toArray, List.getElem_cons_zero, List.getElem_cons_succ, Act.put, List.setIfInBounds_toArray, List.set_cons_zero, List.set_cons_succ])
                      | (refine pl_skip (by assumption) rfl rfl ?_; simp only [List.getElem_toArray, List.getElem_cons_zero, List.getElem_cons_succ, Act.put, List.setIfInBounds_toArray, List.set_cons_zero, List.set_cons_succ])
                      | (refine pl_skipl (by assumption) rfl rfl ?_; simp only [List.getElem_toArray, List.getElem_cons_zero, List.getElem_cons_succ, Act.put, List.setIfInBounds_toArray, List.set_cons_zero, List.set_cons_succ]))
                    refine pl_nil ?_
                    go_wp2
                    go_roundw
                    case rel => exact ⟨j + 1, by omega, by go_num, by rw [Hn.out]; exact ho6, hbl6⟩
                    case measure => simp [intOf]; omega
                  · have hj8 : j = 8 := by omega
                    have hfin : ∀ l, startOf s many l = V2 → (List.range j).map (closed s VR) = takenOf s b many l := fun l hl => by
                      unfold takenOf
                      rw [hj8, hM.out, hl, ← HK.out, hVR.out]
                    rw [hfin _ hst.out] at hout
                    clear hj8 hfin
                    go_wp2
                    go_ret
                    exact ⟨_, rfl, hb1.trans ((hbl.trans (hblj.mono hz)).mono hb1.size), hout.base (by have := hb1.size; omega)⟩
end Go.Proofs.YtbcoecmeoemmeaaGreatDoor
