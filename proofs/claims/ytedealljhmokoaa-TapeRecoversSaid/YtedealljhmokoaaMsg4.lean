/- The program's check of a message. -/
import Derived.Test.YtedealljhmokoaaMsg3
namespace Go.Proofs.Ytedealljhmokoaa
open Go.ChangeShapes Go.WideShapes Go.ChangeAt Go.RowKit
set_option linter.unusedVariables false
set_option linter.unusedSimpArgs false
set_option maxHeartbeats 1000000 in
set_option maxRecDepth 100000 in
theorem noHeader_any (a r : Int) (vb vp : Value) (b p : List (List UInt8)) (w : World) (hb : RDigs w.cell? vb b) (hp : RDigs w.cell? vp p) :
    Calls Try.prog 73 #[.agg #[.int .i64 a, .int .i64 r, vb, vp]] w fun e w' => e = .returned (.bool (hdrNone a r b p)) ∧ Below w.heap.size w w' := by
  obtain ⟨bA, bc, rfl, _⟩ := id hb
  obtain ⟨pA, pc, rfl, _⟩ := id hp
  have hl1 : b.length * 24 ≤ 140737488355328 := by obtain ⟨A, c, _, _, _, h, _⟩ := hb; exact h
  have hl2 : p.length * 24 ≤ 140737488355328 := by obtain ⟨A, c, _, _, _, h, _⟩ := hp; exact h
  clear hb hp
  have fin : ∀ x, (a = 0 ∧ r = 0 ∧ b.length = 0 ∧ p.length = 0 ↔ x = true) → Hid (hdrNone a r b p = x) := fun x h => by
    show _ = _
    unfold hdrNone
    cases x
    · exact decide_eq_false (fun h' => absurd (h.1 h') (by simp))
    · exact decide_eq_true (by simpa using h)
  generalize hdrNone a r b p = Z at fin ⊢
  generalize b.length = lb at fin hl1 ⊢
  generalize p.length = lp at fin hl2 ⊢
  by_cases h1 : a = 0
  · by_cases h2 : r = 0
    · by_cases h3 : lb + lp = 0
      · have H := fin true (by simp [*]; omega)
        have h3' : (lb : Int) + lp = 0 := by omega
        clear fin
        subst h1 h2
        go_enter Try.func73, Try.ntmps73
        go_wp2
        go_ret
        exact ⟨ret_bool (by rw [H.out]; try simp [h3']), by repeat (first
  | assumption
  | exact Below.refl _ _
  | refine Below.drew ?_
  | (refine Below.alloc ?_ ?sa _; (case sa => first | omega | (simp; done) | (simp; omega)))
  | (refine Below.setCell ?_ ?sa _; (case sa => first | (dsimp only; omega) | (simp; done) | (simp; omega))))⟩
      · have H := fin false (by simp [*]; omega)
        have h3' : ¬ (lb : Int) + lp = 0 := by omega
        clear fin
        subst h1 h2
        go_enter Try.func73, Try.ntmps73
        go_wp2
        go_ret
        exact ⟨ret_bool (by rw [H.out]; try simp [h3']), by repeat (first
  | assumption
  | exact Below.refl _ _
  | refine Below.drew ?_
  | (refine Below.alloc ?_ ?sa _; (case sa => first | omega | (simp; done) | (simp; omega)))
  | (refine Below.setCell ?_ ?sa _; (case sa => first | (dsimp only; omega) | (simp; done) | (simp; omega))))⟩
    · have H := fin false (by simp [*])
      clear fin
      subst h1
      go_enter Try.func73, Try.ntmps73
      go_wp2
      go_ret
      exact ⟨ret_bool (by rw [H.out]; try simp [h2]), by repeat (first
  | assumption
  | exact Below.refl _ _
  | refine Below.drew ?_
  | (refine Below.alloc ?_ ?sa _; (case sa => first | omega | (simp; done) | (simp; omega)))
  | (refine Below.setCell ?_ ?sa _; (case sa => first | (dsimp only; omega) | (simp; done) | (simp; omega))))⟩
  · have H := fin false (by simp [*])
    clear fin
    go_enter Try.func73, Try.ntmps73
    go_wp2
    go_ret
    exact ⟨ret_bool (by rw [H.out]; try simp [h1]), by repeat (first
  | assumption
  | exact Below.refl _ _
  | refine Below.drew ?_
  | (refine Below.alloc ?_ ?sa _; (case sa => first | omega | (simp; done) | (simp; omega)))
  | (refine Below.setCell ?_ ?sa _; (case sa => first | (dsimp only; omega) | (simp; done) | (simp; omega))))⟩
def noneM (m : Msg) : Bool := !batSome m.bat && hdrNone m.hdr.author m.hdr.round m.hdr.batches m.hdr.parents && !sltSome m.slt && !crtSome m.crt && decide (m.round = 0)
set_option maxHeartbeats 2000000 in
set_option maxRecDepth 100000 in
theorem none_any (m : Msg) (vt vb vp vd cb cp cv : Value) (w : World) (r : RMsg w.cell? m vt vb vp vd cb cp cv) :
    Calls Try.prog 57 #[.agg (msgC m vt vb vp vd cb cp cv)] w fun e w' => e = .returned (.bool (noneM m)) ∧ Below w.heap.size w w' := by
  obtain ⟨⟨tA, tc, rfl⟩, ⟨bA, bc, rfl⟩, ⟨pA, pc, rfl⟩, ⟨dA, dc, rfl⟩, ⟨cA, cc, rfl⟩, ⟨qA, qc, rfl⟩, ⟨vA, vc, rfl⟩⟩ := r.forms
  obtain ⟨Q, hQ⟩ : ∃ Q, Hid (noneM m = Q) := ⟨_, rfl⟩
  obtain ⟨N, hN⟩ : ∃ B, Hid (hdrNone m.hdr.author m.hdr.round m.hdr.batches m.hdr.parents = B) := ⟨_, rfl⟩
  obtain ⟨N2, hN2⟩ : ∃ B, Hid (hdrNone m.crt.hdr.author m.crt.hdr.round m.crt.hdr.batches m.crt.hdr.parents = B) := ⟨_, rfl⟩
  have HQ : Hid (Q = (!decide (m.bat.author ≠ 0 ∨ m.bat.number ≠ 0 ∨ 0 < m.bat.txs.length) && N && !decide (m.slt.author ≠ 0 ∨ m.slt.round ≠ 0 ∨ 0 < m.slt.digest.length) && !(!N2 || decide (0 < m.crt.voters.length)) && decide (m.round = 0))) := by
    show _ = _
    rw [← hQ.out, ← hN.out, ← hN2.out]; rfl
  rw [hQ.out]
  clear hQ
  unfold msgC
  generalize m.bat.author = x1 at HQ ⊢
  generalize m.bat.number = x2 at HQ ⊢
  have hb1 := r.bats
  have hb2 := r.pars
  have hb3 := r.cbats
  have hb4 := r.cpars
  clear r
  generalize m.bat.txs.length = x3 at HQ ⊢
  generalize m.slt.author = x4 at HQ ⊢
  generalize m.slt.round = x5 at HQ ⊢
  generalize m.slt.digest.length = x6 at HQ ⊢
  generalize m.crt.voters.length = x7 at HQ ⊢
  generalize m.round = x8 at HQ ⊢
  by_cases h1 : x1 = 0
  rotate_left
  · go_enter Try.func57, Try.ntmps57
    go_wp2
    go_ret
    exact ⟨ret_bool (by rw [HQ.out]; simp [h1]), by repeat (first
  | assumption
  | exact Below.refl _ _
  | refine Below.drew ?_
  | (refine Below.alloc ?_ ?sa _; (case sa => first | omega | (simp; done) | (simp; omega)))
  | (refine Below.setCell ?_ ?sa _; (case sa => first | (dsimp only; omega) | (simp; done) | (simp; omega))))⟩
  by_cases h2 : x2 = 0
  rotate_left
  · subst h1
    go_enter Try.func57, Try.ntmps57
    go_wp2
    go_ret
    exact ⟨ret_bool (by rw [HQ.out]; simp [h2]), by repeat (first
  | assumption
  | exact Below.refl _ _
  | refine Below.drew ?_
  | (refine Below.alloc ?_ ?sa _; (case sa => first | omega | (simp; done) | (simp; omega)))
  | (refine Below.setCell ?_ ?sa _; (case sa => first | (dsimp only; omega) | (simp; done) | (simp; omega))))⟩
  by_cases h3 : x3 = 0
  rotate_left
  · have h3' : 0 < x3 := by omega
    subst h1 h2
    go_enter Try.func57, Try.ntmps57
    go_wp2
    go_ret
    exact ⟨ret_bool (by rw [HQ.out]; simp [h3']), by repeat (first
  | assumption
  | exact Below.refl _ _
  | refine Below.drew ?_
  | (refine Below.alloc ?_ ?sa _; (case sa => first | omega | (simp; done) | (simp; omega)))
  | (refine Below.setCell ?_ ?sa _; (case sa => first | (dsimp only; omega) | (simp; done) | (simp; omega))))⟩
  subst h1 h2 h3
  go_enter Try.func57, Try.ntmps57
  go_wp2_with fail
  refine one_block _ _ _ (fun W => Calls Try.prog _ _ W _) (fun W hk hsz hbl => ?_)
  have hz := hbl.size
  refine (noHeader_any _ _ _ _ _ _ _ (hb1.mono RDig.mono (vle_below hbl)) (hb2.mono RDig.mono (vle_below hbl))).mono ?_
  rintro e w1 ⟨rfl, hk1⟩
  rw [hN.out]
  have hbl1 := hbl.trans (hk1.mono hz)
  have hq := hk.kept hk1
  have g10 := hq.cell 10; have g11 := hq.cell 11; have g12 := hq.cell 12; have g13 := hq.cell 13; have g14 := hq.cell 14; have g15 := hq.cell 15; have g16 := hq.cell 16; have g17 := hq.cell 17; have g18 := hq.cell 18
  simp at g10 g11 g12 g13 g14 g15 g16 g17 g18
  cases N
  · go_wp2
    go_ret
    exact ⟨ret_bool (by rw [HQ.out]; simp), hbl1⟩
  by_cases h4 : x4 = 0
  rotate_left
  · go_wp2
    go_ret
    exact ⟨ret_bool (by rw [HQ.out]; simp [h4]), hbl1⟩
  by_cases h5 : x5 = 0
  rotate_left
  · subst h4
    go_wp2
    go_ret
    exact ⟨ret_bool (by rw [HQ.out]; simp [h5]), hbl1⟩
  by_cases h6 : x6 = 0
  rotate_left
  · have h6' : 0 < x6 := by omega
    subst h4 h5
    go_wp2
    go_ret
    exact ⟨ret_bool (by rw [HQ.out]; simp [h6']), hbl1⟩
  subst h4 h5 h6
  go_wp2_with fail
  refine (noHeader_any _ _ _ _ _ _ _ (hb3.mono RDig.mono (vle_below hbl1)) (hb4.mono RDig.mono (vle_below hbl1))).mono ?_
  rintro e w2 ⟨rfl, hk2⟩
  rw [hN2.out]
  have hbl2 := hbl1.trans (hk2.mono hbl1.size)
  have hq2 := hq.kept hk2
  clear g10 g11 g12 g13 g14 g15 g16 g17 g18
  have g17 := hq2.cell 17; have g18 := hq2.cell 18
  simp at g17 g18
  cases N2
  · go_wp2
    go_ret
    exact ⟨ret_bool (by rw [HQ.out]; simp), hbl2⟩
  by_cases h7 : x7 = 0
  rotate_left
  · have h7' : 0 < x7 := by omega
    go_wp2
    go_ret
    exact ⟨ret_bool (by rw [HQ.out]; simp [h7']), hbl2⟩
  subst h7
  by_cases h8 : x8 = 0
  · subst h8
    go_wp2
    go_ret
    exact ⟨ret_bool (by rw [HQ.out]; simp), hbl2⟩
  · go_wp2
    go_ret
    exact ⟨ret_bool (by rw [HQ.out]; simp [h8]), hbl2⟩
end Go.Proofs.Ytedealljhmokoaa
