/- The document's fault of a message. -/
import Derived.Test.YtedealljhmokoaaMsg2
namespace Go.Proofs.Ytedealljhmokoaa
open Go.ChangeShapes Go.WideShapes Go.ChangeAt Go.RowKit
set_option linter.unusedVariables false
set_option linter.unusedSimpArgs false
theorem RMsg.forms {h : View} {m : Msg} {vt vb vp vd cb cp cv : Value} (r : RMsg h m vt vb vp vd cb cp cv) : (∃ A c, vt = .slice A m.bat.txs.length c) ∧ (∃ A c, vb = .slice A m.hdr.batches.length c) ∧ (∃ A c, vp = .slice A m.hdr.parents.length c) ∧ (∃ A c, vd = .slice A m.slt.digest.length c) ∧
    (∃ A c, cb = .slice A m.crt.hdr.batches.length c) ∧ (∃ A c, cp = .slice A m.crt.hdr.parents.length c) ∧ (∃ A c, cv = .slice A m.crt.voters.length c) := by
  obtain ⟨a1, a2, e1, _⟩ := r.txs
  obtain ⟨b1, b2, e2, _⟩ := r.bats
  obtain ⟨c1, c2, e3, _⟩ := r.pars
  obtain ⟨d1, d2, e4, _⟩ := r.dig
  obtain ⟨f1, f2, e5, _⟩ := r.cbats
  obtain ⟨g1, g2, e6, _⟩ := r.cpars
  obtain ⟨h1, h2, e7, _⟩ := r.vots
  exact ⟨⟨_, _, e1⟩, ⟨_, _, e2⟩, ⟨_, _, e3⟩, ⟨_, _, e4⟩, ⟨_, _, e5⟩, ⟨_, _, e6⟩, ⟨_, _, e7⟩⟩
set_option maxHeartbeats 4000000 in
set_option maxRecDepth 100000 in
theorem messageFault_any (m : Msg) (vt vb vp vd cb cp cv : Value) (w : World) (r : RMsg w.cell? m vt vb vp vd cb cp cv) (hs : ∀ s ∈ m.bat.txs, s.size ≤ 140737488355328) :
    Calls Try.prog 28 #[.agg (msgC m vt vb vp vd cb cp cv)] w fun e w' => e = .returned (.int .i64 (msgF m)) ∧ Below w.heap.size w w' := by
  obtain ⟨⟨tA, tc, rfl⟩, ⟨bA, bc, rfl⟩, ⟨pA, pc, rfl⟩, ⟨dA, dc, rfl⟩, ⟨cA, cc, rfl⟩, ⟨qA, qc, rfl⟩, ⟨vA, vc, rfl⟩⟩ := r.forms
  have Hs := Lib.hid hs
  clear hs
  obtain ⟨Q, hQ⟩ : ∃ Q, Hid (msgF m = Q) := ⟨_, rfl⟩
  rw [hQ.out]
  cases ha : inB m.src 0 3
  · have HQ : Hid (Q = 2) := hQ.out.symm.trans (by simp [msgF, ha])
    unfold msgC
    go_enter Try.func28, Try.ntmps28
    go_wp2_with (first | (go_at_call 46; refine (in_any _ _ _ _).mono ?_; rintro e w' ⟨rfl, rfl⟩) | fail)
    go_ret
    exact ⟨ret_int HQ.out.symm, below_one _ _⟩
  cases hb : inB m.dst 0 3
  · have HQ : Hid (Q = 2) := hQ.out.symm.trans (by simp [msgF, ha, hb])
    unfold msgC
    go_enter Try.func28, Try.ntmps28
    go_wp2_with (first | (go_at_call 46; refine (in_any _ _ _ _).mono ?_; rintro e w' ⟨rfl, rfl⟩) | fail)
    go_ret
    exact ⟨ret_int HQ.out.symm, below_one _ _⟩
  cases hc : inB m.kind 1 5
  · have HQ : Hid (Q = 3) := hQ.out.symm.trans (by simp [msgF, ha, hb, hc])
    unfold msgC
    go_enter Try.func28, Try.ntmps28
    go_wp2_with (first | (go_at_call 46; refine (in_any _ _ _ _).mono ?_; rintro e w' ⟨rfl, rfl⟩) | fail)
    go_ret
    exact ⟨ret_int HQ.out.symm, below_one _ _⟩
  obtain ⟨E, hE⟩ : ∃ E, Hid (bodyF m = E) := ⟨_, rfl⟩
  obtain ⟨X, hX⟩ : ∃ X, Hid (extra m = X) := ⟨_, rfl⟩
  have HQ : Hid (Q = if E ≠ 0 then E else if X then 4 else 0) := hQ.out.symm.trans (by simp only [msgF, ha, hb, hc, Bool.and_self, if_true]; rw [hE.out, hX.out])
  have hk5 : m.kind = 1 ∨ m.kind = 2 ∨ m.kind = 3 ∨ m.kind = 4 ∨ m.kind = 5 := by simp [inB] at hc; omega
  unfold msgC
  go_enter Try.func28, Try.ntmps28
  go_upto_block 0 with (first | (go_at_call 46; refine (in_any _ _ _ _).mono ?_; rintro e w' ⟨rfl, rfl⟩) | fail)
  refine one_block _ _ _ (fun W => Code.wp _ _ _ _ W) (fun W hbk hsz hbl => ?_)
  have r1 := r.mono (vle_below hbl)
  have hz := hbl.size
  clear r
  go_cut [0, 3, 22] (fun _ e _ w' => e = .int .i64 E ∧ Below W.heap.size W w')
  case first =>
    have hq := hbk
    have g2 := hq.cell 2; have g3 := hq.cell 3; have g4 := hq.cell 4; have g5 := hq.cell 5; have g6 := hq.cell 6; have g7 := hq.cell 7; have g8 := hq.cell 8; have g9 := hq.cell 9; have g10 := hq.cell 10; have g11 := hq.cell 11; have g12 := hq.cell 12; have g13 := hq.cell 13; have g14 := hq.cell 14; have g15 := hq.cell 15; have g16 := hq.cell 16; have g17 := hq.cell 17; have g18 := hq.cell 18
    simp at g2 g3 g4 g5 g6 g7 g8 g9 g10 g11 g12 g13 g14 g15 g16 g17 g18
    rcases hk5 with hkk | hkk | hkk | hkk | hkk
    · rw [hkk] at g2 ⊢
      have HE : Hid (E = batchF m.bat.author m.bat.number m.bat.txs) := hE.out.symm.trans (by simp [bodyF, hkk])
      go_wp2_with fail
      refine (batchFault_any _ _ _ _ _ r1.txs Hs.out).mono ?_
      rintro e w1 ⟨rfl, hb1⟩
      rw [← HE.out]
      go_wp2
      go_meet
      exact ⟨rfl, hb1⟩
    · rw [hkk] at g2 ⊢
      have HE : Hid (E = headF m.hdr.author m.hdr.round m.hdr.batches m.hdr.parents) := hE.out.symm.trans (by simp [bodyF, hkk])
      go_wp2_with fail
      refine (headerFault_any _ _ _ _ _ _ _ r1.bats r1.pars).mono ?_
      rintro e w1 ⟨rfl, hb1⟩
      rw [← HE.out]
      go_wp2
      go_meet
      exact ⟨rfl, hb1⟩
    · rw [hkk] at g2 ⊢
      have HE : Hid (E = slotF m.slt.author m.slt.round m.slt.digest.length) := hE.out.symm.trans (by simp [bodyF, hkk])
      go_wp2_with fail
      refine (slotFault_any _ _ _ _ _ _).mono ?_
      rintro e w1 ⟨rfl, hb1⟩
      rw [← HE.out]
      go_wp2
      go_meet
      exact ⟨rfl, hb1⟩
    · rw [hkk] at g2 ⊢
      have HE : Hid (E = certF m.crt.hdr.author m.crt.hdr.round m.crt.hdr.batches m.crt.hdr.parents m.crt.voters) := hE.out.symm.trans (by simp [bodyF, hkk])
      go_wp2_with fail
      refine (certFault_any _ _ _ _ _ _ _ _ _ r1.cbats r1.cpars r1.vots).mono ?_
      rintro e w1 ⟨rfl, hb1⟩
      rw [← HE.out]
      go_wp2
      go_meet
      exact ⟨rfl, hb1⟩
    · rw [hkk] at g2 ⊢
      cases hr : inB m.round 1 1048576
      · have HE : Hid (E = 2) := hE.out.symm.trans (by simp [bodyF, hkk, hr])
        go_wp2_with (first | (go_at_call 46; refine (in_any _ _ _ _).mono ?_; rintro e w' ⟨rfl, rfl⟩) | fail)
        go_meet
        exact ⟨by rw [HE.out], Below.refl _ _⟩
      · have HE : Hid (E = 0) := hE.out.symm.trans (by simp [bodyF, hkk, hr])
        go_wp2_with (first | (go_at_call 46; refine (in_any _ _ _ _).mono ?_; rintro e w' ⟨rfl, rfl⟩) | fail)
        go_meet
        exact ⟨by rw [HE.out], Below.refl _ _⟩
  case rest =>
    obtain ⟨rfl, hb1⟩ := hcut
    clear hk5
    have hbk1 := hbk.kept hb1
    have hbl1 := hbl.trans (hb1.mono hz)
    have r2 := r1.mono (vle_below hb1)
    by_cases hE0 : E = 0
    · subst hE0
      have HQ' : Hid (Q = if X then 4 else 0) := by show _ = _; rw [HQ.out]; rfl
      clear HQ
      obtain ⟨B1, hB1⟩ : ∃ B, Hid (batSome m.bat = B) := ⟨_, rfl⟩
      obtain ⟨B2, hB2⟩ : ∃ B, Hid (sltSome m.slt = B) := ⟨_, rfl⟩
      obtain ⟨B3, hB3⟩ : ∃ B, Hid (crtSome m.crt = B) := ⟨_, rfl⟩
      obtain ⟨N, hN⟩ : ∃ B, Hid (hdrNone m.hdr.author m.hdr.round m.hdr.batches m.hdr.parents = B) := ⟨_, rfl⟩
      have HX : Hid (X = (B1 && decide (m.kind ≠ 1) || !N && decide (m.kind ≠ 2) || B2 && decide (m.kind ≠ 3) || B3 && decide (m.kind ≠ 4) || decide (m.round ≠ 0) && decide (m.kind ≠ 5))) := hX.out.symm.trans (by unfold extra; rw [hB1.out, hB2.out, hB3.out, hN.out])
      clear hQ hE hX hb1
      obtain ⟨w2, hw2⟩ : ∃ w2, w2 = wc := ⟨_, rfl⟩
      rw [← hw2] at hbk1 hbl1 r2 ⊢
      clear hw2
      go_upto_region 20 with fail
      go_cut [4] (fun b w' => b = .bool B1 ∧ w' = w2)
      case first =>
        have hq := hbk1
        have g3 := hq.cell 3; have g4 := hq.cell 4; have g5 := hq.cell 5
        simp at g3 g4 g5
        have HB := hB1.out
        unfold batSome at HB
        generalize m.bat.author = x1 at g3 HB
        generalize m.bat.number = x2 at g4 HB
        generalize m.bat.txs.length = x3 at g5 HB
        have HB := Lib.hid HB
        by_cases h1 : x1 = 0
        · by_cases h2 : x2 = 0
          · by_cases h3 : x3 = 0
            · subst h1 h2 h3
              go_wp2
              go_meet
              exact ⟨by rw [← HB.out]; rfl, rfl⟩
            · have h3' : 0 < x3 := by omega
              subst h1 h2
              go_wp2
              go_meet
              exact ⟨by rw [← HB.out]; simp [h3'], rfl⟩
          · subst h1
            go_wp2
            go_meet
            exact ⟨by rw [← HB.out]; simp [h2], rfl⟩
        · go_wp2
          go_meet
          exact ⟨by rw [← HB.out]; simp [h1], rfl⟩
      case rest =>
        obtain ⟨rfl, rfl⟩ := hcut
        go_upto_region 21 with fail
        go_cut [5] (fun b w' => b = .bool B2 ∧ w' = wc)
        case first =>
          have hq := hbk1
          have g3 := hq.cell 10; have g4 := hq.cell 11; have g5 := hq.cell 12
          simp at g3 g4 g5
          have HB := hB2.out
          unfold sltSome at HB
          generalize m.slt.author = x1 at g3 HB
          generalize m.slt.round = x2 at g4 HB
          generalize m.slt.digest.length = x3 at g5 HB
          have HB := Lib.hid HB
          by_cases h1 : x1 = 0
          · by_cases h2 : x2 = 0
            · by_cases h3 : x3 = 0
              · subst h1 h2 h3
                go_wp2
                go_meet
                exact ⟨by rw [← HB.out]; rfl, rfl⟩
              · have h3' : 0 < x3 := by omega
                subst h1 h2
                go_wp2
                go_meet
                exact ⟨by rw [← HB.out]; simp [h3'], rfl⟩
            · subst h1
              go_wp2
              go_meet
              exact ⟨by rw [← HB.out]; simp [h2], rfl⟩
          · go_wp2
            go_meet
            exact ⟨by rw [← HB.out]; simp [h1], rfl⟩
        case rest =>
          obtain ⟨rfl, hw3⟩ := hcut
          subst hw3
          go_upto_region 22 with fail
          go_cut [6] (fun b w' => b = .bool B3 ∧ Below w.heap.size w w' ∧ Blk w' w.heap.size 35 (msgC m (.slice tA m.bat.txs.length tc) (.slice bA m.hdr.batches.length bc) (.slice pA m.hdr.parents.length pc) (.slice dA m.slt.digest.length dc) (.slice cA m.crt.hdr.batches.length cc) (.slice qA m.crt.hdr.parents.length qc) (.slice vA m.crt.voters.length vc)) ∧ RMsg w'.cell? m (.slice tA m.bat.txs.length tc) (.slice bA m.hdr.batches.length bc) (.slice pA m.hdr.parents.length pc) (.slice dA m.slt.digest.length dc) (.slice cA m.crt.hdr.batches.length cc) (.slice qA m.crt.hdr.parents.length qc) (.slice vA m.crt.voters.length vc))
          case first =>
            have hq := hbk1
            have g13 := hq.cell 13; have g14 := hq.cell 14; have g15 := hq.cell 15; have g16 := hq.cell 16; have g17 := hq.cell 17
            simp at g13 g14 g15 g16 g17
            have HB := hB3.out
            unfold crtSome at HB
            obtain ⟨Z, hZ⟩ : ∃ Z, Hid (hdrNone m.crt.hdr.author m.crt.hdr.round m.crt.hdr.batches m.crt.hdr.parents = Z) := ⟨_, rfl⟩
            rw [hZ.out] at HB
            have HB := Lib.hid HB
            go_wp2_with fail
            refine (headerEmpty_any _ _ _ _ _ _ _ r2.cbats r2.cpars).mono ?_
            rintro e w6 ⟨rfl, hb6⟩
            rw [hZ.out]
            have hbl6 := hbl1.trans (hb6.mono hbl1.size)
            have hq6 := hbk1.kept hb6
            have r6 := r2.mono (vle_below hb6)
            clear g13 g14 g15 g16 g17
            have g17 := hq6.cell 17
            simp at g17
            cases Z
            · go_wp2
              go_meet
              exact ⟨by rw [← HB.out]; rfl, hbl6, hq6, r6⟩
            · by_cases h3 : m.crt.voters.length = 0
              · rw [h3] at g17 HB
                go_wp2
                go_meet
                exact ⟨by rw [← HB.out]; rfl, hbl6, hq6, r6⟩
              · have h3' : 0 < m.crt.voters.length := by omega
                go_wp2
                go_meet
                exact ⟨by rw [← HB.out]; simp [h3'], hbl6, hq6, r6⟩
          case rest =>
            clear hbl1 hbk1 r2
            obtain ⟨rfl, hbl5, hbk5, r5⟩ := hcut
            have hq := hbk5
            have g2 := hq.cell 2; have g6 := hq.cell 6; have g7 := hq.cell 7; have g8 := hq.cell 8; have g9 := hq.cell 9; have g18 := hq.cell 18
            simp [msgC] at g2 g6 g7 g8 g9 g18
            cases B1
            · go_wp2_with fail
              refine (headerEmpty_any _ _ _ _ _ _ _ r5.bats r5.pars).mono ?_
              rintro e w6 ⟨rfl, hb6⟩
              have hbl6 := hbl5.trans (hb6.mono hbl5.size)
              have hq := hbk5.kept hb6
              clear g2 g6 g7 g8 g9 g18
              have g2 := hq.cell 2; have g18 := hq.cell 18
              simp [msgC] at g2 g18
              rw [hN.out]
              cases N <;> cases B2 <;> cases B3
              all_goals
                go_wp2
                all_goals
                  go_ret
                  exact ⟨ret_int (by rw [HQ'.out, HX.out]; first | (simp [*]; done) | (by_cases h5 : m.kind = 5 <;> simp_all)), hbl6⟩
            · by_cases hk1 : m.kind = 1
              · go_wp2_with fail
                refine (headerEmpty_any _ _ _ _ _ _ _ r5.bats r5.pars).mono ?_
                rintro e w6 ⟨rfl, hb6⟩
                have hbl6 := hbl5.trans (hb6.mono hbl5.size)
                have hq := hbk5.kept hb6
                clear g2 g6 g7 g8 g9 g18
                have g2 := hq.cell 2; have g18 := hq.cell 18
                simp [msgC] at g2 g18
                rw [hN.out]
                cases N <;> cases B2 <;> cases B3
                all_goals
                  go_wp2
                  all_goals
                    go_ret
                    exact ⟨ret_int (by rw [HQ'.out, HX.out]; first | (simp [*]; done) | (by_cases h5 : m.kind = 5 <;> simp_all)), hbl6⟩
              · go_wp2
                go_ret
                exact ⟨ret_int (by rw [HQ'.out, HX.out]; simp [hk1]), hbl5⟩
    · have HQ' : Hid (Q = E) := by show _ = _; rw [HQ.out, if_pos hE0]
      clear HQ
      go_wp2
      go_ret
      exact ⟨ret_int HQ'.out.symm, hbl1⟩
end Go.Proofs.Ytedealljhmokoaa
