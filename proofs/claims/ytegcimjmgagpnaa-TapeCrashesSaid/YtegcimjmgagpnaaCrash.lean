/- tape.Crash and the reference's answer. -/
import Derived.Test.YtegcimjmgagpnaaTape
namespace Go.Proofs.Ytegcimjmgagpnaa
open Go.ChangeShapes Go.WideShapes Go.ChangeAt Go.RowKit
set_option linter.unusedVariables false
theorem RVec.cut {α : Type} {enc : α → Value} {bs : Nat} {h : View} {A : Option Addr} {n c : Nat} {xs : List α} (hr : RVec enc bs h (.slice A n c) xs) {k m : Nat} (hk : k ≤ xs.length) (hkm : k ≤ m) (hm : m ≤ c) : RVec enc bs h (.slice A k m) (xs.take k) := by
  obtain ⟨A', c', e, h1, h2, h3, h4, h5⟩ := hr.take hk
  injection e with e1 e2 e3
  subst e1 e3
  exact ⟨A, m, by rw [← e2], by omega, Nat.le_trans hm h2, h3, fun hA => by have := h4 hA; omega, h5⟩
def crashN (a keep : Int) (n : Nat) : Nat := (if keep < n - a then a + keep else n).toNat
set_option maxHeartbeats 1000000 in
set_option maxRecDepth 100000 in
theorem crash_no (a keep : Int) (A : Option Addr) (c : Nat) (l : List UInt8) (w : World) (hl : l.length ≤ 140737488355328) (hm : tapeMay l a = false) :
    Calls Try.prog 27 #[.agg #[.slice A l.length c, .int .i64 a], .int .i64 keep] w fun e w' => e = .returned (.tuple #[.agg #[.slice none 0 0, .int .i64 0], .int .i64 12]) ∧ Below w.heap.size w w' := by
  go_enter Try.func27, Try.ntmps27
  go_wp2_with fail
  refine (open_no _ _ _ _ _ hl hm).mono ?_
  rintro e w1 ⟨rfl, hb1⟩
  obtain ⟨hc, hf⟩ := bcell hb1
  have hz : w.heap.size + 1 < w1.heap.size := by have := hb1.size; simp at this; omega
  have hbw : Below w.heap.size w w1 := (below_two _ _ _).trans (hb1.mono (by simp; omega))
  go_wp2
  refine bodyPost_ret (v := .tuple #[.agg #[.slice none 0 0, .int .i64 0], .int .i64 12]) (by simp [results, Try.results27, go_sem, hc, hf, hz]) rfl ⟨rfl, ?_⟩
  repeat (first
    | assumption
    | exact Below.refl _ _
    | refine Below.drew ?_
    | (refine Below.alloc ?_ ?sa _; (case sa => first | omega | (simp; done) | (simp; omega)))
    | (refine Below.setCell ?_ ?sa _; (case sa => first | (dsimp only; omega) | (simp; done) | (simp; omega))))
set_option maxHeartbeats 1000000 in
set_option maxRecDepth 100000 in
theorem crash_neg (a keep : Int) (v : Value) (l : List UInt8) (w : World) (hv : RBytes w.cell? v l) (hm : tapeMay l a = true) (hk : keep < 0) :
    Calls Try.prog 27 #[.agg #[v, .int .i64 a], .int .i64 keep] w fun e w' => e = .returned (.tuple #[.agg #[.slice none 0 0, .int .i64 0], .int .i64 2]) ∧ Below w.heap.size w w' := by
  go_enter Try.func27, Try.ntmps27
  go_wp2_with fail
  refine (open_yes _ _ _ _ (hv.mono (vle_below (below_two _ _ _))) hm).mono ?_
  rintro e w1 ⟨d, rfl, hb1, ho⟩
  obtain ⟨A, c, rfl⟩ := ho.form
  obtain ⟨hc, hf⟩ := bcell hb1
  have hz : w.heap.size + 1 < w1.heap.size := by have := hb1.size; simp at this; omega
  have hbw : Below w.heap.size w w1 := (below_two _ _ _).trans (hb1.mono (by simp; omega))
  go_wp2
  refine bodyPost_ret (v := .tuple #[.agg #[.slice none 0 0, .int .i64 0], .int .i64 2]) (by simp [results, Try.results27, go_sem, hc, hf, hz]) rfl ⟨rfl, ?_⟩
  repeat (first
    | assumption
    | exact Below.refl _ _
    | refine Below.drew ?_
    | (refine Below.alloc ?_ ?sa _; (case sa => first | omega | (simp; done) | (simp; omega)))
    | (refine Below.setCell ?_ ?sa _; (case sa => first | (dsimp only; omega) | (simp; done) | (simp; omega))))
set_option maxHeartbeats 2000000 in
set_option maxRecDepth 100000 in
theorem crash_yes (a keep : Nat) (v : Value) (l : List UInt8) (w : World) (hv : RBytes w.cell? v l) (hm : tapeMay l a = true) (hk : (keep : Int) ≤ 9223372036854775807) :
    Calls Try.prog 27 #[.agg #[v, .int .i64 a], .int .i64 keep] w fun e w' => ∃ d, e = .returned (.tuple #[.agg #[d, .int .i64 (crashN a keep l.length)], .int .i64 0]) ∧ Below w.heap.size w w' ∧ RBytes w'.cell? d (l.take (crashN a keep l.length)) := by
  have hm' : a ≤ l.length ∧ l.length ≤ 400000 := by simp [tapeMay] at hm; omega
  obtain ⟨hal, hl⟩ := hm'
  have Hk := Lib.hid hk
  have Hq : ∀ m : Nat, crashN a keep l.length = m → Hid (crashN a keep l.length = m) := fun _ h => h
  clear hk
  by_cases hlt : (keep : Int) ≤ l.length - a
  · have Hn := Hq (a + keep) (by simp only [crashN]; split <;> omega)
    have hle : a + keep ≤ l.length := by omega
    go_enter Try.func27, Try.ntmps27
    go_wp2_with fail
    refine (open_yes _ _ _ _ (hv.mono (vle_below (below_two _ _ _))) hm).mono ?_
    rintro e w1 ⟨d, rfl, hb1, ho⟩
    have r1 := ho.reads (bs := 1) (by omega)
    obtain ⟨A, c, rfl, hlc, hcm, _⟩ := id r1
    obtain ⟨hc, hf⟩ := bcell hb1
    have hz : w.heap.size + 1 < w1.heap.size := by have := hb1.size; simp at this; omega
    have hbw : Below w.heap.size w w1 := (below_two _ _ _).trans (hb1.mono (by simp; omega))
    clear Hq
    have Ho := Lib.hid ho
    clear r1 ho
    have q0 : (0 : Int) ≤ (a : Int) + (keep : Int) := by omega
    have q1 : (a : Int) + (keep : Int) ≤ (c : Int) := by omega
    have qn : ((a : Int) + (keep : Int)).toNat = a + keep := by omega
    go_wp2
    have ho : OwnB w1 (w.heap.size + 2) (.slice A l.length c) l := Ho.out.base (by simp)
    refine bodyPost_ret (v := .tuple #[.agg #[.slice A (a + keep) (a + keep), .int .i64 ((a : Int) + (keep : Int))], .int .i64 0]) (by simp [results, Try.results27, go_sem, hc, hf, hz]) rfl ⟨_, by rw [Hn.out]; try rfl, ?_, ?_⟩
    · repeat (first
        | assumption
        | exact Below.refl _ _
        | refine Below.drew ?_
        | (refine Below.alloc ?_ ?sa _; (case sa => first | omega | (simp; done) | (simp; omega)))
        | (refine Below.setCell ?_ ?sa _; (case sa => first | (dsimp only; omega) | (simp; done) | (simp; omega))))
    · rw [Hn.out]
      refine RVec.cut (n := l.length) (c := c) (xs := l) ?_ (by omega) (Nat.le_refl _) (by omega)
      refine OwnVec.reads (base := w.heap.size) (e := 5) ?_ (by omega)
      refine OwnVec.base (b := w.heap.size + 2) ?_ (by omega)
      repeat (first
        | assumption
        | refine OwnVec.drew ?_
        | refine OwnVec.alloc ?_ _
        | (refine OwnVec.setCell ?_ ?sa _; (case sa => first | (dsimp only; omega) | (simp; done) | (simp; omega))))
  · have Hn := Hq l.length (by simp only [crashN]; split <;> omega)
    go_enter Try.func27, Try.ntmps27
    go_wp2_with fail
    refine (open_yes _ _ _ _ (hv.mono (vle_below (below_two _ _ _))) hm).mono ?_
    rintro e w1 ⟨d, rfl, hb1, ho⟩
    have r1 := ho.reads (bs := 1) (by omega)
    obtain ⟨A, c, rfl, hlc, hcm, _⟩ := id r1
    obtain ⟨hc, hf⟩ := bcell hb1
    have hz : w.heap.size + 1 < w1.heap.size := by have := hb1.size; simp at this; omega
    have hbw : Below w.heap.size w w1 := (below_two _ _ _).trans (hb1.mono (by simp; omega))
    clear Hq
    have Ho := Lib.hid ho
    clear r1 ho
    have q2 : (a : Int) + ((l.length : Int) - (a : Int)) = (l.length : Int) := by omega
    have q3 : ((l.length : Int) - (a : Int)) < (keep : Int) := by omega
    go_wp2
    have ho : OwnB w1 (w.heap.size + 2) (.slice A l.length c) l := Ho.out.base (by simp)
    refine bodyPost_ret (v := .tuple #[.agg #[.slice A l.length l.length, .int .i64 ((l.length : Int))], .int .i64 0]) (by simp [results, Try.results27, go_sem, hc, hf, hz]) rfl ⟨_, by rw [Hn.out]; try rfl, ?_, ?_⟩
    · repeat (first
        | assumption
        | exact Below.refl _ _
        | refine Below.drew ?_
        | (refine Below.alloc ?_ ?sa _; (case sa => first | omega | (simp; done) | (simp; omega)))
        | (refine Below.setCell ?_ ?sa _; (case sa => first | (dsimp only; omega) | (simp; done) | (simp; omega))))
    · rw [Hn.out]
      refine RVec.cut (n := l.length) (c := c) (xs := l) ?_ (by omega) (Nat.le_refl _) (by omega)
      refine OwnVec.reads (base := w.heap.size) (e := 5) ?_ (by omega)
      refine OwnVec.base (b := w.heap.size + 2) ?_ (by omega)
      repeat (first
        | assumption
        | refine OwnVec.drew ?_
        | refine OwnVec.alloc ?_ _
        | (refine OwnVec.setCell ?_ ?sa _; (case sa => first | (dsimp only; omega) | (simp; done) | (simp; omega))))
end Go.Proofs.Ytegcimjmgagpnaa
