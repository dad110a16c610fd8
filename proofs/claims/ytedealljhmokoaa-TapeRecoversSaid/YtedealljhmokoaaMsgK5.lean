/- wire.Check at kind 5. -/
import Derived.Test.YtedealljhmokoaaMsgR
namespace Go.Proofs.Ytedealljhmokoaa
open Go.ChangeShapes Go.WideShapes Go.ChangeAt Go.RowKit
set_option linter.unusedVariables false
set_option linter.unusedSimpArgs false
set_option maxHeartbeats 10000000 in
set_option maxRecDepth 100000 in
theorem check_5 (m : Msg) (hk5 : m.kind = 5) (vt vb vp vd cb cp cv : Value) (w : World) (r : RMsg w.cell? m vt vb vp vd cb cp cv) (hs : ∀ s ∈ m.bat.txs, s.size ≤ 140737488355328) :
    Calls Try.prog 24 #[.agg (msgC m vt vb vp vd cb cp cv)] w fun e w' => e = .returned (.int .i64 (msgF m)) ∧ Below w.heap.size w w' := by
  obtain ⟨⟨tA, tc, rfl⟩, ⟨bA, bc, rfl⟩, ⟨pA, pc, rfl⟩, ⟨dA, dc, rfl⟩, ⟨cA, cc, rfl⟩, ⟨qA, qc, rfl⟩, ⟨vA, vc, rfl⟩⟩ := r.forms
  have Hs := Lib.hid hs
  clear hs
  obtain ⟨Q, hQ⟩ : ∃ Q, Hid (msgF m = Q) := ⟨_, rfl⟩
  rw [hQ.out]
  cases ha : inB m.src 0 3
  · have HQ : Hid (Q = 2) := hQ.out.symm.trans (by simp [msgF, ha])
    unfold msgC
    go_enter Try.func24, Try.ntmps24
    go_wp2_with (first | (go_at_call 51; refine (node_any _ _).mono ?_; rintro e w' ⟨rfl, rfl⟩) | fail)
    go_ret
    exact ⟨ret_int HQ.out.symm, below_one _ _⟩
  cases hb : inB m.dst 0 3
  · have HQ : Hid (Q = 2) := hQ.out.symm.trans (by simp [msgF, ha, hb])
    unfold msgC
    go_enter Try.func24, Try.ntmps24
    go_wp2_with (first | (go_at_call 51; refine (node_any _ _).mono ?_; rintro e w' ⟨rfl, rfl⟩) | fail)
    go_ret
    exact ⟨ret_int HQ.out.symm, below_one _ _⟩
  obtain ⟨E, hE⟩ : ∃ E, Hid (bodyF m = E) := ⟨_, rfl⟩
  obtain ⟨X, hX⟩ : ∃ X, Hid (extra m = X) := ⟨_, rfl⟩
  have HQ : Hid (Q = if inB m.kind 1 5 then (if E ≠ 0 then E else if X then 4 else 0) else 3) := hQ.out.symm.trans (by simp only [msgF, ha, hb, Bool.and_self, if_true]; rw [hE.out, hX.out])
  clear hQ
  unfold msgC
  go_enter Try.func24, Try.ntmps24
  go_upto_region 1 with fail
  refine one_block _ _ _ (fun W => Code.wp _ _ _ _ W) (fun W hbk hsz hbl => ?_)
  have r1 := r.mono (vle_below hbl)
  have hz := hbl.size
  have hlt0 := hbk.lt
  clear r hsz
  have g0 := hbk.cell 0; have g1 := hbk.cell 1; have g2 := hbk.cell 2
  simp at g0 g1 g2
  go_wp2_with (first | (go_at_call 51; refine (node_any _ _).mono ?_; rintro e w' ⟨rfl, rfl⟩) | (refine wpList_load_row rfl 35 _ rfl _ rfl _ _ _ _ hbk Try.underlying35 rfl (by kernel_rfl) ?_) | (refine wpList_store_whole (n := 19) rfl rfl rfl rfl (by kernel_rfl) rfl (Blk.new _ _ _) rfl rfl ?_))
  intro w2 hB2 hg2
  have hb2 : Below W.heap.size W w2 := below_grownBy (below_one _ _) (le_alloc _ (Nat.le_refl _)) hg2 (by intro k e; injection e; omega)
  have hbl2 := hbl.trans (hb2.mono hz)
  have hbk2 := hbk.kept hb2
  have r2 := r1.mono (vle_below hb2)
  have hz2 := hb2.size
  have r1b := r1
  have hb2' := hb2
  clear hg2 hb2 r1 hbk g0 g1 g2
  have hq := hbk2; have g2 := hq.cell 2; have g3 := hq.cell 3; have g4 := hq.cell 4; have g5 := hq.cell 5; have g6 := hq.cell 6; have g7 := hq.cell 7; have g8 := hq.cell 8; have g9 := hq.cell 9; have g10 := hq.cell 10; have g11 := hq.cell 11; have g12 := hq.cell 12; have g13 := hq.cell 13; have g14 := hq.cell 14; have g15 := hq.cell 15; have g16 := hq.cell 16; have g17 := hq.cell 17; have g18 := hq.cell 18
  simp at g2 g3 g4 g5 g6 g7 g8 g9 g10 g11 g12 g13 g14 g15 g16 g17 g18
  have r2g : RMsg (View.but w2.cell? (some W.heap.size)) m (.slice tA m.bat.txs.length tc) (.slice bA m.hdr.batches.length bc) (.slice pA m.hdr.parents.length pc) (.slice dA m.slt.digest.length dc) (.slice cA m.crt.hdr.batches.length cc) (.slice qA m.crt.hdr.parents.length qc) (.slice vA m.crt.voters.length vc) := r1b.mono (vle_but_new2 hb2')
  have HQ : Hid (Q = if E ≠ 0 then E else if X then 4 else 0) := by show _ = _; rw [HQ.out, if_pos (by simp [inB, hk5])]
  have hR : restM m = ⟨m.src, m.dst, 5, m.bat, m.hdr, m.slt, m.crt, 0⟩ := by unfold restM; simp [hk5]
  try rw [hk5] at g2
  go_wp2_with (refine wpList_store_blk (n := 1) rfl rfl rfl rfl (by kernel_rfl) rfl hB2 (by simp) rfl ?_)
  intro w3 hB3 hg3
  have hB3 : Blk w3 W.heap.size 35 #[.int .i64 m.src, .int .i64 m.dst, .int .i64 5, .int .i64 m.bat.author, .int .i64 m.bat.number, .slice tA m.bat.txs.length tc, .int .i64 m.hdr.author, .int .i64 m.hdr.round, .slice bA m.hdr.batches.length bc, .slice pA m.hdr.parents.length pc, .int .i64 m.slt.author, .int .i64 m.slt.round, .slice dA m.slt.digest.length dc, .int .i64 m.crt.hdr.author, .int .i64 m.crt.hdr.round, .slice cA m.crt.hdr.batches.length cc, .slice qA m.crt.hdr.parents.length qc, .slice vA m.crt.voters.length vc, .int .i64 0] := hB3
  have hb3 : Below W.heap.size w2 w3 := below_grownBy (Below.refl _ _) hz2 hg3 (by intro k e; injection e; omega)
  have hbl4 : Below w.heap.size w w3 := below_grownBy hbl2 (by omega) hg3 (by intro k e; injection e; omega)
  have hbk3 := hbk2.below hb3 (by omega)
  have r3 := r2g.mono (vle_grown hg3)
  have rR : RMsg w3.cell? (⟨m.src, m.dst, 5, m.bat, m.hdr, m.slt, m.crt, 0⟩ : Msg) (.slice tA m.bat.txs.length tc) (.slice bA m.hdr.batches.length bc) (.slice pA m.hdr.parents.length pc) (.slice dA m.slt.digest.length dc) (.slice cA m.crt.hdr.batches.length cc) (.slice qA m.crt.hdr.parents.length qc) (.slice vA m.crt.voters.length vc) := by
    exact ⟨r3.txs, r3.bats, r3.pars, r3.dig, r3.cbats, r3.cpars, r3.vots⟩
  clear hg3 hb3 g2 g3 g4 g5 g6 g7 g8 g9 g10 g11 g12 g13 g14 g15 g16 g17 g18
  have g18r := hbk3.cell 18
  simp at g18r
  have hNone : noneM ⟨m.src, m.dst, 5, m.bat, m.hdr, m.slt, m.crt, 0⟩ = !X := by rw [← hR, none_rest m (by omega), hX.out]
  cases hr : inB m.round 1 1048576
  · have HE : Hid (E = 2) := hE.out.symm.trans (by simp [bodyF, hk5, hr])
    have HQ' : Hid (Q = 2) := by show _ = _; rw [HQ.out, HE.out]; rfl
    go_wp2_with (first | (go_at_call 56; refine (count_any _ _).mono ?_; rintro e w' ⟨rfl, rfl⟩) | fail)
    go_ret
    exact ⟨ret_int HQ'.out.symm, hbl4⟩
  · have HE : Hid (E = 0) := hE.out.symm.trans (by simp [bodyF, hk5, hr])
    have HQ' : Hid (Q = if X then 4 else 0) := by show _ = _; rw [HQ.out, HE.out]; rfl
    go_wp2_with (first | (go_at_call 56; refine (count_any _ _).mono ?_; rintro e w' ⟨rfl, rfl⟩) | (refine wpList_load_row rfl 35 _ rfl _ rfl _ _ _ _ hB3 Try.underlying35 rfl (by kernel_rfl) ?_))
    refine (none_any ⟨m.src, m.dst, 5, m.bat, m.hdr, m.slt, m.crt, 0⟩ (.slice tA m.bat.txs.length tc) (.slice bA m.hdr.batches.length bc) (.slice pA m.hdr.parents.length pc) (.slice dA m.slt.digest.length dc) (.slice cA m.crt.hdr.batches.length cc) (.slice qA m.crt.hdr.parents.length qc) (.slice vA m.crt.voters.length vc) _ rR).mono ?_
    rintro e w5 ⟨rfl, hb5⟩
    rw [hNone]
    have hbl5 := hbl4.trans (hb5.mono hbl4.size)
    cases X
    · go_wp2
      go_ret
      exact ⟨ret_int (by rw [HQ'.out]; rfl), hbl5⟩
    · go_wp2
      go_ret
      exact ⟨ret_int (by rw [HQ'.out]; rfl), hbl5⟩
end Go.Proofs.Ytedealljhmokoaa
