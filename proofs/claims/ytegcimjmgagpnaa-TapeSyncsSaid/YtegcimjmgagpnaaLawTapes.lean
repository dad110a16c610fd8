/- The law TapeSyncs: tape.Sync answers what the document's TapeSynced answers and leaves its argument, for every tape: no condition. -/
import Derived.Test.YtegcimjmgagpnaaTape
import Derived.Test.YtegcimjmgagpnaaOpen
namespace Go.Proofs.Ytegcimjmgagpnaa
open Go.ChangeShapes Go.WideShapes Go.ChangeAt Go.RowKit
set_option linter.unusedVariables false
set_option maxHeartbeats 2000000 in
set_option maxRecDepth 100000 in
theorem tapeSyncs_any (a : Int) (v : Value) (l : List UInt8) (w : World) (hv : RBytes w.cell? v l) : Calls Try.prog 7 #[.agg #[v, .int .i64 a]] w fun e w' => e = .returned (.bool true) ∧ Below w.heap.size w w' := by
  have hl : l.length ≤ 140737488355328 := by obtain ⟨A, c, _, _, _, h, _⟩ := hv; omega
  have hl1 := Lib.hid (show l.length * 1 ≤ 140737488355328 by omega)
  obtain ⟨A0, c0, rfl, _⟩ := id hv
  go_enter Try.func7, Try.ntmps7
  go_wp2_with fail
  refine (tapes_any _ _ l _ (hv.mono (vle_below (below_one _ _)))).mono ?_
  rintro e w1 ⟨d1, rfl, hb1, o1⟩
  have r1 := o1.reads hl1.out
  obtain ⟨A1, c1, rfl⟩ := o1.form
  obtain ⟨hc1, hf1⟩ := bcell hb1
  have hz1 : w.heap.size < w1.heap.size := by have := hb1.size; simp at this; omega
  have hk1 : Below w.heap.size w w1 := (below_one _ _).trans (hb1.mono (by simp))
  clear hb1 o1
  cases hm : tapeMay l a
  · go_wp2_with fail
    refine (sync_no _ _ _ _ _ hl hm).mono ?_
    rintro e w2 ⟨rfl, hb2⟩
    obtain ⟨hc2, hf2⟩ := bcell hb2
    have hz2 : w1.heap.size < w2.heap.size := by have := hb2.size; simp at this; omega
    have hk2 : Below w1.heap.size w1 w2 := (below_one _ _).trans (hb2.mono (by simp))
    have hz2' : w.heap.size < w2.heap.size := by omega
    clear hb2
    go_wp2_with fail
    refine (tapeSynced_no _ _ _ _ _ hl hm).mono ?_
    rintro e w3 ⟨rfl, hb3⟩
    obtain ⟨hc3, hf3⟩ := bcell hb3
    have hz3 : w2.heap.size < w3.heap.size := by have := hb3.size; simp at this; omega
    have hk3 : Below w2.heap.size w2 w3 := (below_one _ _).trans (hb3.mono (by simp))
    have hz3' : w.heap.size < w3.heap.size := by omega
    have hz3'' : w1.heap.size < w3.heap.size := by omega
    clear hb3
    go_wp2_with fail
    refine (sameTape_any _ _ [] [] _ _ _ (RVec.nil _ _ _) (RVec.nil _ _ _)).mono ?_
    rintro e w4 ⟨rfl, hb4⟩
    obtain ⟨hc4, hf4⟩ := bcell hb4
    have hz4 : w3.heap.size < w4.heap.size := by have := hb4.size; simp at this; omega
    have hk4 : Below w3.heap.size w3 w4 := (below_one _ _).trans (hb4.mono (by simp))
    have hz4' : w.heap.size < w4.heap.size := by omega
    have hz4'' : w1.heap.size < w4.heap.size := by omega
    clear hb4
    have k14 : Below w1.heap.size w1 w4 := (hk2.trans (hk3.mono (by omega))).trans (hk4.mono (by omega))
    go_wp2_with fail
    refine (sameTape_any _ _ l l _ _ _ (r1.mono (vle_below k14)) (hv.mono (vle_below (hk1.trans (k14.mono (by omega)))))).mono ?_
    rintro e w5 ⟨rfl, hb5⟩
    go_wp2
    go_ret
    exact ⟨ret_bool (by simp), (hk1.trans (k14.mono (by omega))).trans (hb5.mono (by omega))⟩
  · go_wp2_with fail
    refine (sync_yes _ _ l _ (r1.mono (vle_below (below_one _ _))) hm).mono ?_
    rintro e w2 ⟨d2, rfl, hb2, o2⟩
    have r2 := o2.reads hl1.out
    obtain ⟨A2, c2, rfl⟩ := o2.form
    obtain ⟨hc2, hf2⟩ := bcell hb2
    have hz2 : w1.heap.size < w2.heap.size := by have := hb2.size; simp at this; omega
    have hk2 : Below w1.heap.size w1 w2 := (below_one _ _).trans (hb2.mono (by simp))
    have hz2' : w.heap.size < w2.heap.size := by omega
    clear hb2 o2
    go_wp2_with fail
    refine (tapeSynced_yes _ _ l _ (hv.mono (vle_below ((hk1.trans (hk2.mono (by omega))).trans ((below_one _ _).mono (by omega))))) hm).mono ?_
    rintro e w3 ⟨d3, rfl, hb3, o3⟩
    have r3 := o3.reads hl1.out
    obtain ⟨A3, c3, rfl⟩ := o3.form
    obtain ⟨hc3, hf3⟩ := bcell hb3
    have hz3 : w2.heap.size < w3.heap.size := by have := hb3.size; simp at this; omega
    have hk3 : Below w2.heap.size w2 w3 := (below_one _ _).trans (hb3.mono (by simp))
    have hz3' : w.heap.size < w3.heap.size := by omega
    have hz3'' : w1.heap.size < w3.heap.size := by omega
    clear hb3 o3
    go_wp2_with fail
    refine (sameTape_any _ _ l l _ _ _ (r2.mono (vle_below (hk3.trans ((below_one _ _).mono (by omega))))) (r3.mono (vle_below (below_one _ _)))).mono ?_
    rintro e w4 ⟨rfl, hb4⟩
    obtain ⟨hc4, hf4⟩ := bcell hb4
    have hz4 : w3.heap.size < w4.heap.size := by have := hb4.size; simp at this; omega
    have hk4 : Below w3.heap.size w3 w4 := (below_one _ _).trans (hb4.mono (by simp))
    have hz4' : w.heap.size < w4.heap.size := by omega
    have hz4'' : w1.heap.size < w4.heap.size := by omega
    clear hb4
    have k14 : Below w1.heap.size w1 w4 := (hk2.trans (hk3.mono (by omega))).trans (hk4.mono (by omega))
    simp only [beq_self_eq_true, Bool.and_self]
    go_wp2_with fail
    refine (sameTape_any _ _ l l _ _ _ (r1.mono (vle_below k14)) (hv.mono (vle_below (hk1.trans (k14.mono (by omega)))))).mono ?_
    rintro e w5 ⟨rfl, hb5⟩
    go_wp2
    go_ret
    exact ⟨ret_bool (by simp), (hk1.trans (k14.mono (by omega))).trans (hb5.mono (by omega))⟩
set_option maxHeartbeats 1000000 in
set_option maxRecDepth 100000 in
theorem tapeSyncs_open {H : Type} {enc : TypeId × Value → H} (W : World) {base : Nat} {v : Value} {d : DataW H} {p : List MemPlace} (hval : Value.okWide Try.prog W .any base 43 v) (h : DataW.Trod enc Try.prog W 0 (fun _ => true) true 43 v d p)
    (hw : ∀ n ∈ DataW.weights Try.prog 43 d, n ≤ reachBytes) : Calls Try.prog 7 #[v] W fun e w' => e = .returned (.bool true) ∧ Below W.heap.size W w' := by
  obtain ⟨a, l, x, rfl, hr, _⟩ := open_tape hval h hw
  exact tapeSyncs_any _ _ _ _ hr
set_option maxRecDepth 100000 in
theorem tapeSyncs_lifted (os : Os) (started : os.Started) (H : Type) (enc : TypeId × Value → H) :
    ReturnsInHanded {} Try.checked os 7 .any (Rows.tapeSyncsSpec.pre6 enc Try.prog Try.f7 Rows.tapeSyncsRow.domain false) (Rows.tapeSyncsSpec.post enc Try.prog Try.f7 false true false false) := by
  refine returnsInHanded_of_change_sized (C := Try.checked) own_ started (by kernel_rfl) Try.func7
    (ChangeSpec.witness6 (enc := enc) (C := Try.checked) false ⟨#[], #[.agg #[.slice none 0 0, .int .i64 0]], []⟩ 8 (by kernel_rfl) (by kernel_rfl) (by kernel_rfl) (by kernel_rfl) (by kernel_rfl)) ?_
  intro W base args ds gs before hval hW _ hsz _
  have hW' := hW
  obtain ⟨p, q, hA, hV, rfl, hfz, hnd⟩ := hW
  obtain ⟨rfl, rfl⟩ := trodVars_none hV
  rw [Try.params7] at hA hval hsz
  obtain ⟨v0, d0, rfl, rfl, h0⟩ := trodAll_one hA
  have hs0 : ∀ n ∈ DataW.weights Try.prog _ d0, n ≤ reachBytes := fun n hn => by simpa using List.all_eq_true.1 hsz n (DataW.weights_mem_each (j := 0) rfl rfl n hn)
  refine (tapeSyncs_open W (hval 0 _ _ rfl rfl) h0 hs0).mono fun e W' ⟨he, hb⟩ => ?_
  exact law_close laidOut (b := 4) rfl Try.underlying4 rfl (readables _ (by kernel_rfl)) rfl hW' he hb
theorem tapeSyncs_holds : Rows.TapeSyncsSaid :=
  OpenClaim.holds_of_wide 7 Try.f7 rfl rfl rfl rfl rfl rfl rfl ⟨rfl, rfl, rfl, rfl, rfl⟩ rfl rfl rfl rfl rfl (by kernel_rfl) Try.func7 (by kernel_rfl)
    (of_decide_eq_true (by kernel_rfl)) (by unfold Func.isWrapper; first | (rw [if_pos (by decide +kernel)]; kernel_rfl) | (rw [if_neg (by decide +kernel)]; exact ⟨rfl, rfl⟩))
    (fun os started H enc _ => tapeSyncs_lifted os started H enc)
end Go.Proofs.Ytegcimjmgagpnaa
