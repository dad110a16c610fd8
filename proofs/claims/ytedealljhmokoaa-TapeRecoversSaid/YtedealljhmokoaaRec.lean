/- Records: tape.Check and RecordFault answer one number. -/
import Derived.Test.YtedealljhmokoaaMsg5
namespace Go.Proofs.Ytedealljhmokoaa
open Go.ChangeShapes Go.WideShapes Go.ChangeAt Go.RowKit
set_option linter.unusedVariables false
set_option linter.unusedSimpArgs false
def recF (m : Msg) : Int := if msgF m ≠ 0 then msgF m else if m.src ≠ 0 ∨ m.dst ≠ 0 ∨ m.kind = 5 then 4 else 0
set_option maxHeartbeats 4000000 in
set_option maxRecDepth 100000 in
theorem tapeCheck_any (m : Msg) (vt vb vp vd cb cp cv : Value) (w : World) (r : RMsg w.cell? m vt vb vp vd cb cp cv) (hs : ∀ s ∈ m.bat.txs, s.size ≤ 140737488355328) :
    Calls Try.prog 8 #[.agg (msgC m vt vb vp vd cb cp cv)] w fun e w' => e = .returned (.int .i64 (recF m)) ∧ Below w.heap.size w w' := by
  obtain ⟨Q, hQ⟩ : ∃ Q, Hid (recF m = Q) := ⟨_, rfl⟩
  obtain ⟨E, hE⟩ : ∃ E, Hid (msgF m = E) := ⟨_, rfl⟩
  have HQ : Hid (Q = if E ≠ 0 then E else if m.src ≠ 0 ∨ m.dst ≠ 0 ∨ m.kind = 5 then 4 else 0) := by show _ = _; rw [← hQ.out]; unfold recF; rw [hE.out]
  rw [hQ.out]
  clear hQ
  unfold msgC
  go_enter Try.func8, Try.ntmps8
  go_upto_region 1 with fail
  refine one_block _ _ _ (fun W => Code.wp _ _ _ _ W) (fun W hbk hsz hbl => ?_)
  have r1 := r.mono (vle_below hbl)
  go_wp2_with (refine wpList_load_row rfl 35 _ rfl _ rfl _ _ _ _ hbk Try.underlying35 rfl (by kernel_rfl) ?_)
  refine (check_any m _ _ _ _ _ _ _ _ r1 hs).mono ?_
  rintro e w1 ⟨rfl, hb1⟩
  rw [hE.out]
  have hbl1 := hbl.trans (hb1.mono hbl.size)
  have hq := hbk.kept hb1
  have g0 := hq.cell 0; have g1 := hq.cell 1; have g2 := hq.cell 2
  simp at g0 g1 g2
  clear r r1 hq hbk hsz hE
  generalize m.src = a at *
  generalize m.dst = b at *
  generalize m.kind = c at *
  by_cases h0 : E = 0
  · subst h0
    by_cases h1 : a = 0
    · by_cases h2 : b = 0
      · by_cases h3 : c = 5
        · have H : Hid (Q = 4) := by show _ = _; rw [HQ.out]; simp [h3]
          clear HQ
          subst h1 h2 h3
          go_wp2
          go_ret
          exact ⟨ret_int H.out.symm, hbl1⟩
        · have H : Hid (Q = 0) := by show _ = _; rw [HQ.out]; simp [h1, h2, h3]
          clear HQ
          subst h1 h2
          go_wp2
          go_ret
          exact ⟨ret_int H.out.symm, hbl1⟩
      · have H : Hid (Q = 4) := by show _ = _; rw [HQ.out]; simp [h2]
        clear HQ
        subst h1
        go_wp2
        go_ret
        exact ⟨ret_int H.out.symm, hbl1⟩
    · have H : Hid (Q = 4) := by show _ = _; rw [HQ.out]; simp [h1]
      clear HQ
      go_wp2
      go_ret
      exact ⟨ret_int H.out.symm, hbl1⟩
  · have H : Hid (Q = E) := by show _ = _; rw [HQ.out, if_pos h0]
    clear HQ
    go_wp2
    go_ret
    exact ⟨ret_int H.out.symm, hbl1⟩
set_option maxHeartbeats 4000000 in
set_option maxRecDepth 100000 in
theorem recordFault_any (m : Msg) (vt vb vp vd cb cp cv : Value) (w : World) (r : RMsg w.cell? m vt vb vp vd cb cp cv) (hs : ∀ s ∈ m.bat.txs, s.size ≤ 140737488355328) :
    Calls Try.prog 10 #[.agg (msgC m vt vb vp vd cb cp cv)] w fun e w' => e = .returned (.int .i64 (recF m)) ∧ Below w.heap.size w w' := by
  obtain ⟨Q, hQ⟩ : ∃ Q, Hid (recF m = Q) := ⟨_, rfl⟩
  obtain ⟨E, hE⟩ : ∃ E, Hid (msgF m = E) := ⟨_, rfl⟩
  have HQ : Hid (Q = if E ≠ 0 then E else if m.src ≠ 0 ∨ m.dst ≠ 0 ∨ m.kind = 5 then 4 else 0) := by show _ = _; rw [← hQ.out]; unfold recF; rw [hE.out]
  rw [hQ.out]
  clear hQ
  unfold msgC
  go_enter Try.func10, Try.ntmps10
  go_upto_region 1 with fail
  refine one_block _ _ _ (fun W => Code.wp _ _ _ _ W) (fun W hbk hsz hbl => ?_)
  have r1 := r.mono (vle_below hbl)
  go_wp2_with (refine wpList_load_row rfl 35 _ rfl _ rfl _ _ _ _ hbk Try.underlying35 rfl (by kernel_rfl) ?_)
  refine (messageFault_any m _ _ _ _ _ _ _ _ r1 hs).mono ?_
  rintro e w1 ⟨rfl, hb1⟩
  rw [hE.out]
  have hbl1 := hbl.trans (hb1.mono hbl.size)
  have hq := hbk.kept hb1
  have g0 := hq.cell 0; have g1 := hq.cell 1; have g2 := hq.cell 2
  simp at g0 g1 g2
  clear r r1 hq hbk hsz hE
  generalize m.src = a at *
  generalize m.dst = b at *
  generalize m.kind = c at *
  by_cases h0 : E = 0
  · subst h0
    by_cases h1 : a = 0
    · by_cases h2 : b = 0
      · by_cases h3 : c = 5
        · have H : Hid (Q = 4) := by show _ = _; rw [HQ.out]; simp [h3]
          clear HQ
          subst h1 h2 h3
          go_wp2
          go_ret
          exact ⟨ret_int H.out.symm, hbl1⟩
        · have H : Hid (Q = 0) := by show _ = _; rw [HQ.out]; simp [h1, h2, h3]
          clear HQ
          subst h1 h2
          go_wp2
          go_ret
          exact ⟨ret_int H.out.symm, hbl1⟩
      · have H : Hid (Q = 4) := by show _ = _; rw [HQ.out]; simp [h2]
        clear HQ
        subst h1
        go_wp2
        go_ret
        exact ⟨ret_int H.out.symm, hbl1⟩
    · have H : Hid (Q = 4) := by show _ = _; rw [HQ.out]; simp [h1]
      clear HQ
      go_wp2
      go_ret
      exact ⟨ret_int H.out.symm, hbl1⟩
  · have H : Hid (Q = E) := by show _ = _; rw [HQ.out, if_pos h0]
    clear HQ
    go_wp2
    go_ret
    exact ⟨ret_int H.out.symm, hbl1⟩
end Go.Proofs.Ytedealljhmokoaa
