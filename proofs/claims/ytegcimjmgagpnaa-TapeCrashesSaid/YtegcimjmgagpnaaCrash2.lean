/- the reference's answer to a crash -/
import Derived.Test.YtegcimjmgagpnaaCrash
namespace Go.Proofs.Ytegcimjmgagpnaa
open Go.ChangeShapes Go.WideShapes Go.ChangeAt Go.RowKit
set_option linter.unusedVariables false
set_option maxHeartbeats 1000000 in
set_option maxRecDepth 100000 in
theorem crashed_no (a keep : Int) (A : Option Addr) (c : Nat) (l : List UInt8) (w : World) (hl : l.length ≤ 140737488355328) (hm : tapeMay l a = false) :
    Calls Try.prog 28 #[.agg #[.slice A l.length c, .int .i64 a], .int .i64 keep] w fun e w' => e = .returned (.tuple #[.agg #[.slice none 0 0, .int .i64 0], .int .i64 12]) ∧ Below w.heap.size w w' := by
  go_enter Try.func28, Try.ntmps28
  go_wp2_with fail
  refine (tapeMay_any _ _ _ _ _ hl).mono ?_
  rintro e w1 ⟨rfl, hb1⟩
  obtain ⟨hc, hf⟩ := bcell hb1
  have hz : w.heap.size + 1 < w1.heap.size := by have := hb1.size; simp at this; omega
  have hbw : Below w.heap.size w w1 := (below_two _ _ _).trans (hb1.mono (by simp; omega))
  simp only [hm]
  go_wp2
  refine bodyPost_ret (v := .tuple #[.agg #[.slice none 0 0, .int .i64 0], .int .i64 12]) (by simp [results, Try.results28, go_sem, hc, hf, hz]) rfl ⟨rfl, ?_⟩
  repeat (first
    | assumption
    | exact Below.refl _ _
    | refine Below.drew ?_
    | (refine Below.alloc ?_ ?sa _; (case sa => first | omega | (simp; done) | (simp; omega)))
    | (refine Below.setCell ?_ ?sa _; (case sa => first | (dsimp only; omega) | (simp; done) | (simp; omega))))
set_option maxHeartbeats 1000000 in
set_option maxRecDepth 100000 in
theorem crashed_neg (a keep : Int) (A : Option Addr) (c : Nat) (l : List UInt8) (w : World) (hl : l.length ≤ 140737488355328) (hm : tapeMay l a = true) (hk : keep < 0) :
    Calls Try.prog 28 #[.agg #[.slice A l.length c, .int .i64 a], .int .i64 keep] w fun e w' => e = .returned (.tuple #[.agg #[.slice none 0 0, .int .i64 0], .int .i64 2]) ∧ Below w.heap.size w w' := by
  go_enter Try.func28, Try.ntmps28
  go_wp2_with fail
  refine (tapeMay_any _ _ _ _ _ hl).mono ?_
  rintro e w1 ⟨rfl, hb1⟩
  obtain ⟨hc, hf⟩ := bcell hb1
  have hz : w.heap.size + 1 < w1.heap.size := by have := hb1.size; simp at this; omega
  have hbw : Below w.heap.size w w1 := (below_two _ _ _).trans (hb1.mono (by simp; omega))
  simp only [hm]
  go_wp2
  refine bodyPost_ret (v := .tuple #[.agg #[.slice none 0 0, .int .i64 0], .int .i64 2]) (by simp [results, Try.results28, go_sem, hc, hf, hz]) rfl ⟨rfl, ?_⟩
  repeat (first
    | assumption
    | exact Below.refl _ _
    | refine Below.drew ?_
    | (refine Below.alloc ?_ ?sa _; (case sa => first | omega | (simp; done) | (simp; omega)))
    | (refine Below.setCell ?_ ?sa _; (case sa => first | (dsimp only; omega) | (simp; done) | (simp; omega))))
set_option maxHeartbeats 2000000 in
set_option maxRecDepth 100000 in
theorem crashed_yes (a keep : Nat) (v : Value) (l : List UInt8) (w : World) (hv : RBytes w.cell? v l) (hm : tapeMay l a = true) (hk : (keep : Int) ≤ 9223372036854775807) :
    Calls Try.prog 28 #[.agg #[v, .int .i64 a], .int .i64 keep] w fun e w' => ∃ d, e = .returned (.tuple #[.agg #[d, .int .i64 (crashN a keep l.length)], .int .i64 0]) ∧ Below w.heap.size w w' ∧ RBytes w'.cell? d (l.take (crashN a keep l.length)) := by
  have hm' : a ≤ l.length ∧ l.length ≤ 400000 := by simp [tapeMay] at hm; omega
  obtain ⟨hal, hl⟩ := hm'
  have Hk := Lib.hid hk
  have Hq : ∀ m : Nat, crashN a keep l.length = m → Hid (crashN a keep l.length = m) := fun _ h => h
  clear hk
  obtain ⟨A, c, rfl, hlc, hcm, _⟩ := id hv
  have Hv := Lib.hid hv
  clear hv
  by_cases hlt : (keep : Int) < l.length - a
  · have Hn := Hq (a + keep) (by simp only [crashN]; split <;> omega)
    have hle : a + keep ≤ l.length := by omega
    have q0 : (0 : Int) ≤ (a : Int) + (keep : Int) := by omega
    have q1 : (a : Int) + (keep : Int) ≤ (c : Int) := by omega
    have qn : ((a : Int) + (keep : Int)).toNat = a + keep := by omega
    clear Hq
    go_enter Try.func28, Try.ntmps28
    go_wp2_with fail
    refine (tapeMay_any _ _ _ _ _ (by omega)).mono ?_
    rintro e w1 ⟨rfl, hb1⟩
    obtain ⟨hc, hf⟩ := bcell hb1
    have hz : w.heap.size + 1 < w1.heap.size := by have := hb1.size; simp at this; omega
    have hbw : Below w.heap.size w w1 := (below_two _ _ _).trans (hb1.mono (by simp; omega))
    have hz0 : w.heap.size < w1.heap.size := by omega
    simp only [hm]
    clear hb1
    go_wp2_with fail
    refine (joined_any _ _ (l.take (a + keep)) [] _ (RVec.take (Hv.out.mono (vle_below hbw)) hle) (RVec.nil _ _ _) 400000 (by decide) (by simp; omega)).mono ?_
    rintro e w2 ⟨d', rfl, hj, hown⟩
    rw [List.append_nil] at hown
    obtain ⟨A', c', rfl⟩ := hown.form
    have Hlt := Lib.hid (show (l.take (a + keep)).length = a + keep by simp; omega)
    obtain ⟨hc2, hf2⟩ := bcell hj
    have hz2 : w.heap.size + 1 < w2.heap.size := by have := hj.size; omega
    have hbw2 : Below w.heap.size w w2 := hbw.trans (hj.mono (by omega))
    have Ho := Lib.hid hown
    clear hj hown
    rw [Hlt.out] at Ho
    rw [Hlt.out]
    go_wp2
    have ho : OwnB w2 (w.heap.size + 2) (.slice A' (a + keep) c') (l.take (a + keep)) := Ho.out.base (by omega)
    refine bodyPost_ret (v := .tuple #[.agg #[.slice A' (a + keep) c', .int .i64 ((a : Int) + (keep : Int))], .int .i64 0]) (by simp [results, Try.results28, go_sem, hc, hf, hz, hc2, hf2, hz2]) rfl ⟨_, by rw [Hn.out]; try rfl, ?_, ?_⟩
    · repeat (first
        | assumption
        | exact Below.refl _ _
        | refine Below.drew ?_
        | (refine Below.alloc ?_ ?sa _; (case sa => first | omega | (simp; done) | (simp; omega)))
        | (refine Below.setCell ?_ ?sa _; (case sa => first | (dsimp only; omega) | (simp; done) | (simp; omega))))
    · rw [Hn.out]
      refine OwnVec.reads (base := w.heap.size) (e := 5) ?_ (by simp; omega)
      refine OwnVec.base (b := w.heap.size + 2) ?_ (by omega)
      repeat (first
        | assumption
        | refine OwnVec.drew ?_
        | refine OwnVec.alloc ?_ _
        | (refine OwnVec.setCell ?_ ?sa _; (case sa => first | (dsimp only; omega) | (simp; done) | (simp; omega))))
  · have Hn := Hq l.length (by simp only [crashN]; split <;> omega)
    clear Hq
    go_enter Try.func28, Try.ntmps28
    go_wp2_with fail
    refine (tapeMay_any _ _ _ _ _ (by omega)).mono ?_
    rintro e w1 ⟨rfl, hb1⟩
    obtain ⟨hc, hf⟩ := bcell hb1
    have hz : w.heap.size + 1 < w1.heap.size := by have := hb1.size; simp at this; omega
    have hbw : Below w.heap.size w w1 := (below_two _ _ _).trans (hb1.mono (by simp; omega))
    have hz0 : w.heap.size < w1.heap.size := by omega
    simp only [hm]
    clear hb1
    go_wp2_with fail
    refine (joined_any _ _ l [] _ (Hv.out.mono (vle_below hbw)) (RVec.nil _ _ _) 400000 (by decide) (by simp; omega)).mono ?_
    rintro e w2 ⟨d', rfl, hj, hown⟩
    rw [List.append_nil] at hown
    obtain ⟨A', c', rfl⟩ := hown.form
    obtain ⟨hc2, hf2⟩ := bcell hj
    have hz2 : w.heap.size + 1 < w2.heap.size := by have := hj.size; omega
    have hbw2 : Below w.heap.size w w2 := hbw.trans (hj.mono (by omega))
    have Ho := Lib.hid hown
    clear hj hown
    go_wp2
    have ho : OwnB w2 (w.heap.size + 2) (.slice A' l.length c') l := Ho.out.base (by omega)
    refine bodyPost_ret (v := .tuple #[.agg #[.slice A' l.length c', .int .i64 (l.length : Int)], .int .i64 0]) (by simp [results, Try.results28, go_sem, hc, hf, hz, hc2, hf2, hz2]) rfl ⟨_, by rw [Hn.out]; try rfl, ?_, ?_⟩
    · repeat (first
        | assumption
        | exact Below.refl _ _
        | refine Below.drew ?_
        | (refine Below.alloc ?_ ?sa _; (case sa => first | omega | (simp; done) | (simp; omega)))
        | (refine Below.setCell ?_ ?sa _; (case sa => first | (dsimp only; omega) | (simp; done) | (simp; omega))))
    · rw [Hn.out, List.take_of_length_le (Nat.le_refl _)]
      refine OwnVec.reads (base := w.heap.size) (e := 5) ?_ (by omega)
      refine OwnVec.base (b := w.heap.size + 2) ?_ (by omega)
      repeat (first
        | assumption
        | refine OwnVec.drew ?_
        | refine OwnVec.alloc ?_ _
        | (refine OwnVec.setCell ?_ ?sa _; (case sa => first | (dsimp only; omega) | (simp; done) | (simp; omega))))
end Go.Proofs.Ytegcimjmgagpnaa
