/- The law TapeCrashes: tape.Crash answers what the document's TapeCrashed answers and leaves its argument, for every tape and every number of bytes: no condition. -/
import Derived.Test.YtegcimjmgagpnaaCrash2
import Derived.Test.YtegcimjmgagpnaaOpen
namespace Go.Proofs.Ytegcimjmgagpnaa
open Go.ChangeShapes Go.WideShapes Go.ChangeAt Go.RowKit
set_option linter.unusedVariables false
theorem crash_say (a k : Nat) (l : List UInt8) (hm : tapeMay l a = true) (hk : (k : Int) ≤ 9223372036854775807) : ∃ (N : Int) (L : List UInt8),
    (∀ (v : Value) (w : World), RBytes w.cell? v l → Calls Try.prog 27 #[.agg #[v, .int .i64 a], .int .i64 k] w fun e w' => ∃ A c, e = .returned (.tuple #[.agg #[.slice A L.length c, .int .i64 N], .int .i64 0]) ∧ Below w.heap.size w w' ∧ RBytes w'.cell? (.slice A L.length c) L) ∧
    (∀ (v : Value) (w : World), RBytes w.cell? v l → Calls Try.prog 28 #[.agg #[v, .int .i64 a], .int .i64 k] w fun e w' => ∃ A c, e = .returned (.tuple #[.agg #[.slice A L.length c, .int .i64 N], .int .i64 0]) ∧ Below w.heap.size w w' ∧ RBytes w'.cell? (.slice A L.length c) L) := by
  refine ⟨crashN a k l.length, l.take (crashN a k l.length), fun v w hv => ?_, fun v w hv => ?_⟩
  · refine (crash_yes a k v l w hv hm hk).mono ?_
    rintro e w' ⟨d, he, hb, hr⟩
    obtain ⟨A, c, rfl, _⟩ := id hr
    exact ⟨A, c, he, hb, hr⟩
  · refine (crashed_yes a k v l w hv hm hk).mono ?_
    rintro e w' ⟨d, he, hb, hr⟩
    obtain ⟨A, c, rfl, _⟩ := id hr
    exact ⟨A, c, he, hb, hr⟩
set_option maxHeartbeats 4000000 in
set_option maxRecDepth 100000 in
theorem tapeCrashes_any (a keep : Int) (v : Value) (l : List UInt8) (w : World) (hv : RBytes w.cell? v l) (hkp : keep ≤ 9223372036854775807) : Calls Try.prog 8 #[.agg #[v, .int .i64 a], .int .i64 keep] w fun e w' => e = .returned (.bool true) ∧ Below w.heap.size w w' := by
  have hl : l.length ≤ 140737488355328 := by obtain ⟨A, c, _, _, _, h, _⟩ := hv; omega
  have hl1 := Lib.hid (show l.length * 1 ≤ 140737488355328 by omega)
  have Hkp := Lib.hid hkp
  clear hkp
  obtain ⟨A0, c0, rfl, _⟩ := id hv
  go_enter Try.func8, Try.ntmps8
  go_wp2_with fail
  refine (tapes_any _ _ l _ (hv.mono (vle_below (below_one _ _)))).mono ?_
  rintro e w1 ⟨d1, rfl, hb1, o1⟩
  have r1 := o1.reads hl1.out
  obtain ⟨A1, c1, rfl⟩ := o1.form
  obtain ⟨hc1, hf1⟩ := bcell hb1
  have hz1 : w.heap.size < w1.heap.size := by have := hb1.size; simp at this; omega
  have hk1 : Below w.heap.size w w1 := (below_one _ _).trans (hb1.mono (by simp))
  clear hb1 o1
  cases hm : tapeMay l a
  · go_wp2_with fail
    refine (crash_no _ _ _ _ _ _ hl hm).mono ?_
    rintro e w2 ⟨rfl, hb2⟩
    obtain ⟨hc2, hf2⟩ := bcell hb2
    have hz2 : w1.heap.size < w2.heap.size := by have := hb2.size; simp at this; omega
    have hk2 : Below w1.heap.size w1 w2 := (below_one _ _).trans (hb2.mono (by simp))
    have hz2' : w.heap.size < w2.heap.size := by omega
    clear hb2
    go_wp2_with fail
    refine (crashed_no _ _ _ _ _ _ hl hm).mono ?_
    rintro e w3 ⟨rfl, hb3⟩
    obtain ⟨hc3, hf3⟩ := bcell hb3
    have hz3 : w2.heap.size < w3.heap.size := by have := hb3.size; simp at this; omega
    have hk3 : Below w2.heap.size w2 w3 := (below_one _ _).trans (hb3.mono (by simp))
    have hz3' : w.heap.size < w3.heap.size := by omega
    have hz3'' : w1.heap.size < w3.heap.size := by omega
    clear hb3
    go_wp2_with fail
    refine (sameTape_any _ _ [] [] _ _ _ (RVec.nil _ _ _) (RVec.nil _ _ _)).mono ?_
    rintro e w4 ⟨rfl, hb4⟩
    obtain ⟨hc4, hf4⟩ := bcell hb4
    have hz4 : w3.heap.size < w4.heap.size := by have := hb4.size; simp at this; omega
    have hk4 : Below w3.heap.size w3 w4 := (below_one _ _).trans (hb4.mono (by simp))
    have hz4' : w.heap.size < w4.heap.size := by omega
    have hz4'' : w1.heap.size < w4.heap.size := by omega
    clear hb4
    have k14 : Below w1.heap.size w1 w4 := (hk2.trans (hk3.mono (by omega))).trans (hk4.mono (by omega))
    go_wp2_with fail
    refine (sameTape_any _ _ l l _ _ _ (r1.mono (vle_below k14)) (hv.mono (vle_below (hk1.trans (k14.mono (by omega)))))).mono ?_
    rintro e w5 ⟨rfl, hb5⟩
    go_wp2
    go_ret
    exact ⟨ret_bool (by simp), (hk1.trans (k14.mono (by omega))).trans (hb5.mono (by omega))⟩
  by_cases hneg : keep < 0
  · go_wp2_with fail
    refine (crash_neg _ _ _ l _ (r1.mono (vle_below (below_one _ _))) hm hneg).mono ?_
    rintro e w2 ⟨rfl, hb2⟩
    obtain ⟨hc2, hf2⟩ := bcell hb2
    have hz2 : w1.heap.size < w2.heap.size := by have := hb2.size; simp at this; omega
    have hk2 : Below w1.heap.size w1 w2 := (below_one _ _).trans (hb2.mono (by simp))
    have hz2' : w.heap.size < w2.heap.size := by omega
    clear hb2
    go_wp2_with fail
    refine (crashed_neg _ _ _ _ _ _ hl hm hneg).mono ?_
    rintro e w3 ⟨rfl, hb3⟩
    obtain ⟨hc3, hf3⟩ := bcell hb3
    have hz3 : w2.heap.size < w3.heap.size := by have := hb3.size; simp at this; omega
    have hk3 : Below w2.heap.size w2 w3 := (below_one _ _).trans (hb3.mono (by simp))
    have hz3' : w.heap.size < w3.heap.size := by omega
    have hz3'' : w1.heap.size < w3.heap.size := by omega
    clear hb3
    go_wp2_with fail
    refine (sameTape_any _ _ [] [] _ _ _ (RVec.nil _ _ _) (RVec.nil _ _ _)).mono ?_
    rintro e w4 ⟨rfl, hb4⟩
    obtain ⟨hc4, hf4⟩ := bcell hb4
    have hz4 : w3.heap.size < w4.heap.size := by have := hb4.size; simp at this; omega
    have hk4 : Below w3.heap.size w3 w4 := (below_one _ _).trans (hb4.mono (by simp))
    have hz4' : w.heap.size < w4.heap.size := by omega
    have hz4'' : w1.heap.size < w4.heap.size := by omega
    clear hb4
    have k14 : Below w1.heap.size w1 w4 := (hk2.trans (hk3.mono (by omega))).trans (hk4.mono (by omega))
    go_wp2_with fail
    refine (sameTape_any _ _ l l _ _ _ (r1.mono (vle_below k14)) (hv.mono (vle_below (hk1.trans (k14.mono (by omega)))))).mono ?_
    rintro e w5 ⟨rfl, hb5⟩
    go_wp2
    go_ret
    exact ⟨ret_bool (by simp), (hk1.trans (k14.mono (by omega))).trans (hb5.mono (by omega))⟩
  · obtain ⟨k, rfl⟩ : ∃ k : Nat, keep = k := ⟨keep.toNat, by omega⟩
    obtain ⟨a, rfl⟩ : ∃ b : Nat, a = b := ⟨a.toNat, by simp [tapeMay] at hm; omega⟩
    obtain ⟨N, L, say1, say2⟩ := crash_say a k l hm Hkp.out
    have Say1 := Lib.hid say1
    have Say2 := Lib.hid say2
    clear say1 say2
    go_wp2_with fail
    refine (Say1.out _ _ (r1.mono (vle_below (below_one _ _)))).mono ?_
    rintro e w2 ⟨A2, c2, rfl, hb2, r2⟩
    obtain ⟨hc2, hf2⟩ := bcell hb2
    have hz2 : w1.heap.size < w2.heap.size := by have := hb2.size; simp at this; omega
    have hk2 : Below w1.heap.size w1 w2 := (below_one _ _).trans (hb2.mono (by simp))
    have hz2' : w.heap.size < w2.heap.size := by omega
    clear hb2
    go_wp2_with fail
    refine (Say2.out _ _ (hv.mono (vle_below ((hk1.trans (hk2.mono (by omega))).trans ((below_one _ _).mono (by omega)))))).mono ?_
    rintro e w3 ⟨A3, c3, rfl, hb3, r3⟩
    obtain ⟨hc3, hf3⟩ := bcell hb3
    have hz3 : w2.heap.size < w3.heap.size := by have := hb3.size; simp at this; omega
    have hk3 : Below w2.heap.size w2 w3 := (below_one _ _).trans (hb3.mono (by simp))
    have hz3' : w.heap.size < w3.heap.size := by omega
    have hz3'' : w1.heap.size < w3.heap.size := by omega
    clear hb3
    go_wp2_with fail
    refine (sameTape_any _ _ L L _ _ _ (r2.mono (vle_below (hk3.trans ((below_one _ _).mono (by omega))))) (r3.mono (vle_below (below_one _ _)))).mono ?_
    rintro e w4 ⟨rfl, hb4⟩
    obtain ⟨hc4, hf4⟩ := bcell hb4
    have hz4 : w3.heap.size < w4.heap.size := by have := hb4.size; simp at this; omega
    have hk4 : Below w3.heap.size w3 w4 := (below_one _ _).trans (hb4.mono (by simp))
    have hz4' : w.heap.size < w4.heap.size := by omega
    have hz4'' : w1.heap.size < w4.heap.size := by omega
    clear hb4
    have k14 : Below w1.heap.size w1 w4 := (hk2.trans (hk3.mono (by omega))).trans (hk4.mono (by omega))
    simp only [beq_self_eq_true, Bool.and_self]
    go_wp2_with fail
    refine (sameTape_any _ _ l l _ _ _ (r1.mono (vle_below k14)) (hv.mono (vle_below (hk1.trans (k14.mono (by omega)))))).mono ?_
    rintro e w5 ⟨rfl, hb5⟩
    go_wp2
    go_ret
    exact ⟨ret_bool (by simp), (hk1.trans (k14.mono (by omega))).trans (hb5.mono (by omega))⟩
theorem open_int {P : Program} {H : Type} {enc : TypeId × Value → H} {W : World} {t : TypeId} {k : IntKind} {base : Nat} {v : Value} {d : DataW H} {p : List MemPlace} (ht : P.underlying t = some (.int k)) (hval : Value.okWide P W .any base t v)
    (h : DataW.Trod enc P W 0 (fun _ => true) true t v d p) (hw : ∀ n ∈ DataW.weights P t d, n ≤ reachBytes) : ∃ n, v = .int k n ∧ (Lit.int k n).wf = true := by
  obtain ⟨fuel, h⟩ := h
  obtain ⟨n, hc, hwf⟩ := opens_int ht H enc W fuel _ _ h hw
  obtain ⟨m, rfl⟩ := okWide_int ht hval
  obtain rfl : m = n := by simpa [Value.cells] using hc
  exact ⟨m, rfl, hwf⟩
set_option maxHeartbeats 1000000 in
set_option maxRecDepth 100000 in
theorem tapeCrashes_open {H : Type} {enc : TypeId × Value → H} (W : World) {base : Nat} {v v1 : Value} {d d1 : DataW H} {p p1 : List MemPlace} (hval : Value.okWide Try.prog W .any base 43 v) (h : DataW.Trod enc Try.prog W 0 (fun _ => true) true 43 v d p)
    (hw : ∀ n ∈ DataW.weights Try.prog 43 d, n ≤ reachBytes) (hval1 : Value.okWide Try.prog W .any base 3 v1) (h1 : DataW.Trod enc Try.prog W 0 (fun _ => true) true 3 v1 d1 p1)
    (hw1 : ∀ n ∈ DataW.weights Try.prog 3 d1, n ≤ reachBytes) : Calls Try.prog 8 #[v, v1] W fun e w' => e = .returned (.bool true) ∧ Below W.heap.size W w' := by
  obtain ⟨a, l, x, rfl, hr, _⟩ := open_tape hval h hw
  obtain ⟨k, rfl, hwf⟩ := open_int (k := .i64) Try.underlying3 hval1 h1 hw1
  exact tapeCrashes_any _ _ _ _ _ hr (by simp [Lit.wf, IntKind.min, IntKind.max, IntKind.signed, IntKind.bits] at hwf; omega)
set_option maxRecDepth 100000 in
theorem tapeCrashes_lifted (os : Os) (started : os.Started) (H : Type) (enc : TypeId × Value → H) :
    ReturnsInHanded {} Try.checked os 8 .any (Rows.tapeCrashesSpec.pre6 enc Try.prog Try.f8 Rows.tapeCrashesRow.domain false) (Rows.tapeCrashesSpec.post enc Try.prog Try.f8 false true false false) := by
  refine returnsInHanded_of_change_sized (C := Try.checked) own_ started (by kernel_rfl) Try.func8
    (ChangeSpec.witness6 (enc := enc) (C := Try.checked) false ⟨#[], #[.agg #[.slice none 0 0, .int .i64 0], .int .i64 0], []⟩ 8 (by kernel_rfl) (by kernel_rfl) (by kernel_rfl) (by kernel_rfl) (by kernel_rfl)) ?_
  intro W base args ds gs before hval hW _ hsz _
  have hW' := hW
  obtain ⟨p, q, hA, hV, rfl, hfz, hnd⟩ := hW
  obtain ⟨rfl, rfl⟩ := trodVars_none hV
  rw [Try.params8] at hA hval hsz
  obtain ⟨v0, v1, d0, d1, p0, p1, rfl, rfl, rfl, h0, h1⟩ := trodAll_two hA
  have hs0 : ∀ n ∈ DataW.weights Try.prog _ d0, n ≤ reachBytes := fun n hn => by simpa using List.all_eq_true.1 hsz n (DataW.weights_mem_each (j := 0) rfl rfl n hn)
  have hs1 : ∀ n ∈ DataW.weights Try.prog _ d1, n ≤ reachBytes := fun n hn => by simpa using List.all_eq_true.1 hsz n (DataW.weights_mem_each (j := 1) rfl rfl n hn)
  refine (tapeCrashes_open W (hval 0 _ _ rfl rfl) h0 hs0 (hval 1 _ _ rfl rfl) h1 hs1).mono fun e W' ⟨he, hb⟩ => ?_
  exact law_close laidOut (b := 4) rfl Try.underlying4 rfl (readables _ (by kernel_rfl)) rfl hW' he hb
theorem tapeCrashes_holds : Rows.TapeCrashesSaid :=
  OpenClaim.holds_of_wide 8 Try.f8 rfl rfl rfl rfl rfl rfl rfl ⟨rfl, rfl, rfl, rfl, rfl⟩ rfl rfl rfl rfl rfl (by kernel_rfl) Try.func8 (by kernel_rfl)
    (of_decide_eq_true (by kernel_rfl)) (by unfold Func.isWrapper; first | (rw [if_pos (by decide +kernel)]; kernel_rfl) | (rw [if_neg (by decide +kernel)]; exact ⟨rfl, rfl⟩))
    (fun os started H enc _ => tapeCrashes_lifted os started H enc)
end Go.Proofs.Ytegcimjmgagpnaa
