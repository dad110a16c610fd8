/- The law PoolAdds: pool.Add answers what the document's PoolAdded answers and leaves its arguments, for every pool and every text: no condition. -/
import Derived.Test.YtegcimjmgagpnaaPoolAdd2
import Derived.Test.YtegcimjmgagpnaaOpen
namespace Go.Proofs.Ytegcimjmgagpnaa
open Go.ChangeShapes Go.WideShapes Go.ChangeAt Go.RowKit
set_option linter.unusedVariables false
theorem poolF_len {next : Int} {l : List ByteArray} (h : poolF next l = 0) : l.length ≤ 40 := by
  unfold poolF at h
  by_cases h1 : (!inB next 1 1048577 || decide (40 < l.length)) = true
  · rw [if_pos h1] at h; exact absurd h (by decide)
  · simp at h1; omega
theorem addF_zero {next : Int} {l : List ByteArray} {s : ByteArray} (h : addF next l s = 0) : poolF next l = 0 ∧ txOk s = true ∧ hasText l s = false ∧ l.length < 40 := by
  unfold addF at h
  by_cases h1 : poolF next l ≠ 0
  · rw [if_pos h1] at h; exact absurd h h1
  rw [if_neg h1] at h
  by_cases h2 : txOk s = true
  · rw [if_pos h2] at h
    by_cases h3 : hasText l s = true
    · rw [if_pos h3] at h; exact absurd h (by decide)
    · rw [if_neg h3] at h
      by_cases h4 : 40 ≤ l.length
      · rw [if_pos h4] at h; exact absurd h (by decide)
      · exact ⟨Decidable.not_not.1 h1, h2, by simpa using h3, by omega⟩
  · rw [if_neg h2] at h; exact absurd h (by decide)
theorem add_say (a : Int) (l : List ByteArray) (s : ByteArray) (hs : ∀ s ∈ l, s.size ≤ 140737488355328) (hss : s.size ≤ 140737488355328) (h0 : addF a l s = 0) : ∃ L : List ByteArray,
    (∀ (v : Value) (w : World), RTexts w.cell? v l → Calls Try.prog 40 #[.agg #[.int .i64 a, v], .string s] w fun e w' => ∃ A c, e = .returned (.tuple #[.agg #[.int .i64 a, .slice A L.length c], .int .i64 0]) ∧ Below w.heap.size w w' ∧ RTexts w'.cell? (.slice A L.length c) L) ∧
    (∀ (v : Value) (w : World), RTexts w.cell? v l → Calls Try.prog 41 #[.agg #[.int .i64 a, v], .string s] w fun e w' => ∃ A c, e = .returned (.tuple #[.agg #[.int .i64 a, .slice A L.length c], .int .i64 0]) ∧ Below w.heap.size w w' ∧ RTexts w'.cell? (.slice A L.length c) L) := by
  obtain ⟨hp, htx, hht, h40⟩ := addF_zero h0
  have hL : (l ++ [s]).length * 16 ≤ 140737488355328 := by simp; omega
  refine ⟨l ++ [s], fun v w hv => ?_, fun v w hv => ?_⟩
  · refine (poolAdd_ok a v l s w hv hs hss hp htx hht h40).mono ?_
    rintro e w' ⟨d, he, hb, ho⟩
    have hr := ho.reads (bs := 16) hL
    obtain ⟨A, c, rfl⟩ := ho.form
    exact ⟨A, c, he, hb, hr⟩
  · refine (poolAdded_ok a v l s w hv hs hss hp htx hht h40).mono ?_
    rintro e w' ⟨d, he, hb, ho⟩
    have hr := ho.reads (bs := 16) hL
    obtain ⟨A, c, rfl⟩ := ho.form
    exact ⟨A, c, he, hb, hr⟩
set_option maxHeartbeats 4000000 in
set_option maxRecDepth 100000 in
theorem poolAdds_any (a : Int) (v : Value) (l : List ByteArray) (s : ByteArray) (w : World) (hv : RTexts w.cell? v l) (hs : ∀ s ∈ l, s.size ≤ 140737488355328) (hss : s.size ≤ 140737488355328) : Calls Try.prog 13 #[.agg #[.int .i64 a, v], .string s] w fun e w' => e = .returned (.bool true) ∧ Below w.heap.size w w' := by
  have hl : l.length * 16 ≤ 140737488355328 := by obtain ⟨A, c, _, _, _, h, _⟩ := hv; exact h
  have hl1 := Lib.hid hl
  have Hs := Lib.hid hs
  clear hs
  obtain ⟨A0, c0, rfl, _⟩ := id hv
  go_enter Try.func13, Try.ntmps13
  go_wp2_with fail
  refine (pools_any _ _ l _ (hv.mono (vle_below (below_one _ _)))).mono ?_
  rintro e w1 ⟨d1, rfl, hb1, o1⟩
  have r1 := o1.reads hl1.out
  obtain ⟨A1, c1, rfl⟩ := o1.form
  obtain ⟨hc1, hf1⟩ := bcell hb1
  have hz1 : w.heap.size < w1.heap.size := by have := hb1.size; simp at this; omega
  have hk1 : Below w.heap.size w w1 := (below_one _ _).trans (hb1.mono (by simp))
  clear hb1 o1
  obtain ⟨f, hf⟩ : ∃ f, addF a l s = f := ⟨_, rfl⟩
  by_cases h0 : f = 0
  · subst h0
    obtain ⟨L, say1, say2⟩ := add_say a l s Hs.out hss hf
    have Say1 := Lib.hid say1
    have Say2 := Lib.hid say2
    clear say1 say2 hf
    go_wp2_with fail
    refine (Say1.out _ _ (r1.mono (vle_below (below_one _ _)))).mono ?_
    rintro e w2 ⟨A2, c2, rfl, hb2, r2⟩
    obtain ⟨hc2, hf2⟩ := bcell hb2
    have hz2 : w1.heap.size < w2.heap.size := by have := hb2.size; simp at this; omega
    have hk2 : Below w1.heap.size w1 w2 := (below_one _ _).trans (hb2.mono (by simp))
    have hz2' : w.heap.size < w2.heap.size := by omega
    clear hb2
    go_wp2_with fail
    refine (Say2.out _ _ (hv.mono (vle_below ((hk1.trans (hk2.mono (by omega))).trans ((below_one _ _).mono (by omega)))))).mono ?_
    rintro e w3 ⟨A3, c3, rfl, hb3, r3⟩
    obtain ⟨hc3, hf3⟩ := bcell hb3
    have hz3 : w2.heap.size < w3.heap.size := by have := hb3.size; simp at this; omega
    have hk3 : Below w2.heap.size w2 w3 := (below_one _ _).trans (hb3.mono (by simp))
    have hz3' : w.heap.size < w3.heap.size := by omega
    have hz3'' : w1.heap.size < w3.heap.size := by omega
    clear hb3
    go_wp2_with fail
    refine (samePool_same _ _ _ L _ (r2.mono (vle_below (hk3.trans ((below_one _ _).mono (by omega))))) (r3.mono (vle_below (below_one _ _)))).mono ?_
    rintro e w4 ⟨rfl, hb4⟩
    obtain ⟨hc4, hf4⟩ := bcell hb4
    have hz4 : w3.heap.size < w4.heap.size := by have := hb4.size; simp at this; omega
    have hk4 : Below w3.heap.size w3 w4 := (below_one _ _).trans (hb4.mono (by simp))
    have hz4' : w.heap.size < w4.heap.size := by omega
    have hz4'' : w1.heap.size < w4.heap.size := by omega
    clear hb4
    have k14 : Below w1.heap.size w1 w4 := (hk2.trans (hk3.mono (by omega))).trans (hk4.mono (by omega))
    go_wp2_with fail
    refine (samePool_same _ _ _ l _ (r1.mono (vle_below k14)) (hv.mono (vle_below (hk1.trans (k14.mono (by omega)))))).mono ?_
    rintro e w5 ⟨rfl, hb5⟩
    go_wp2
    go_ret
    exact ⟨rfl, (hk1.trans (k14.mono (by omega))).trans (hb5.mono (by omega))⟩
  · go_wp2_with fail
    refine (poolAdd_bad _ _ l _ _ (r1.mono (vle_below (below_one _ _))) Hs.out hss f hf h0 poolF_len).mono ?_
    rintro e w2 ⟨rfl, hb2⟩
    obtain ⟨hc2, hf2⟩ := bcell hb2
    have hz2 : w1.heap.size < w2.heap.size := by have := hb2.size; simp at this; omega
    have hk2 : Below w1.heap.size w1 w2 := (below_one _ _).trans (hb2.mono (by simp))
    have hz2' : w.heap.size < w2.heap.size := by omega
    clear hb2
    go_wp2_with fail
    refine (poolAdded_bad _ _ l _ _ (hv.mono (vle_below ((hk1.trans (hk2.mono (by omega))).trans ((below_one _ _).mono (by omega))))) Hs.out hss f hf h0 poolF_len).mono ?_
    rintro e w3 ⟨rfl, hb3⟩
    obtain ⟨hc3, hf3⟩ := bcell hb3
    have hz3 : w2.heap.size < w3.heap.size := by have := hb3.size; simp at this; omega
    have hk3 : Below w2.heap.size w2 w3 := (below_one _ _).trans (hb3.mono (by simp))
    have hz3' : w.heap.size < w3.heap.size := by omega
    have hz3'' : w1.heap.size < w3.heap.size := by omega
    clear hb3
    go_wp2_with fail
    refine (samePool_same _ _ _ [] _ (RVec.nil _ _ _) (RVec.nil _ _ _)).mono ?_
    rintro e w4 ⟨rfl, hb4⟩
    obtain ⟨hc4, hf4⟩ := bcell hb4
    have hz4 : w3.heap.size < w4.heap.size := by have := hb4.size; simp at this; omega
    have hk4 : Below w3.heap.size w3 w4 := (below_one _ _).trans (hb4.mono (by simp))
    have hz4' : w.heap.size < w4.heap.size := by omega
    have hz4'' : w1.heap.size < w4.heap.size := by omega
    clear hb4
    have k14 : Below w1.heap.size w1 w4 := (hk2.trans (hk3.mono (by omega))).trans (hk4.mono (by omega))
    go_wp2_with fail
    refine (samePool_same _ _ _ l _ (r1.mono (vle_below k14)) (hv.mono (vle_below (hk1.trans (k14.mono (by omega)))))).mono ?_
    rintro e w5 ⟨rfl, hb5⟩
    go_wp2
    go_ret
    exact ⟨rfl, (hk1.trans (k14.mono (by omega))).trans (hb5.mono (by omega))⟩
theorem open_str {P : Program} {H : Type} {enc : TypeId × Value → H} {W : World} {t : TypeId} {base : Nat} {v : Value} {d : DataW H} {p : List MemPlace} (ht : P.underlying t = some .string) (hval : Value.okWide P W .any base t v)
    (h : DataW.Trod enc P W 0 (fun _ => true) true t v d p) (hw : ∀ n ∈ DataW.weights P t d, n ≤ reachBytes) : ∃ s, v = .string s ∧ s.size ≤ 140737488355328 := by
  obtain ⟨fuel, h⟩ := h
  obtain ⟨n, hc, hwf⟩ := opens_str ht H enc W fuel _ _ h hw
  obtain ⟨m, rfl⟩ := okWide_string ht hval
  obtain rfl : m = n := by simpa [Value.cells] using hc
  exact ⟨m, rfl, reach_le hwf⟩
set_option maxHeartbeats 1000000 in
set_option maxRecDepth 100000 in
theorem poolAdds_open {H : Type} {enc : TypeId × Value → H} (W : World) {base : Nat} {v v1 : Value} {d d1 : DataW H} {p p1 : List MemPlace} (hval : Value.okWide Try.prog W .any base 38 v) (h : DataW.Trod enc Try.prog W 0 (fun _ => true) true 38 v d p)
    (hw : ∀ n ∈ DataW.weights Try.prog 38 d, n ≤ reachBytes) (hval1 : Value.okWide Try.prog W .any base 9 v1) (h1 : DataW.Trod enc Try.prog W 0 (fun _ => true) true 9 v1 d1 p1)
    (hw1 : ∀ n ∈ DataW.weights Try.prog 9 d1, n ≤ reachBytes) : Calls Try.prog 13 #[v, v1] W fun e w' => e = .returned (.bool true) ∧ Below W.heap.size W w' := by
  obtain ⟨a, l, x, rfl, hr, hs⟩ := open_pool hval h hw
  obtain ⟨s, rfl, hss⟩ := open_str Try.underlying9 hval1 h1 hw1
  exact poolAdds_any _ _ _ _ _ hr hs hss
set_option maxRecDepth 100000 in
theorem poolAdds_lifted (os : Os) (started : os.Started) (H : Type) (enc : TypeId × Value → H) :
    ReturnsInHanded {} Try.checked os 13 .any (Rows.poolAddsSpec.pre6 enc Try.prog Try.f13 Rows.poolAddsRow.domain false) (Rows.poolAddsSpec.post enc Try.prog Try.f13 false true false false) := by
  refine returnsInHanded_of_change_sized (C := Try.checked) own_ started (by kernel_rfl) Try.func13
    (ChangeSpec.witness6 (enc := enc) (C := Try.checked) false ⟨#[], #[.agg #[.int .i64 0, .slice none 0 0], .string ByteArray.empty], []⟩ 8 (by kernel_rfl) (by kernel_rfl) (by kernel_rfl) (by kernel_rfl) (by kernel_rfl)) ?_
  intro W base args ds gs before hval hW _ hsz _
  have hW' := hW
  obtain ⟨p, q, hA, hV, rfl, hfz, hnd⟩ := hW
  obtain ⟨rfl, rfl⟩ := trodVars_none hV
  rw [Try.params13] at hA hval hsz
  obtain ⟨v0, v1, d0, d1, p0, p1, rfl, rfl, rfl, h0, h1⟩ := trodAll_two hA
  have hs0 : ∀ n ∈ DataW.weights Try.prog _ d0, n ≤ reachBytes := fun n hn => by simpa using List.all_eq_true.1 hsz n (DataW.weights_mem_each (j := 0) rfl rfl n hn)
  have hs1 : ∀ n ∈ DataW.weights Try.prog _ d1, n ≤ reachBytes := fun n hn => by simpa using List.all_eq_true.1 hsz n (DataW.weights_mem_each (j := 1) rfl rfl n hn)
  refine (poolAdds_open W (hval 0 _ _ rfl rfl) h0 hs0 (hval 1 _ _ rfl rfl) h1 hs1).mono fun e W' ⟨he, hb⟩ => ?_
  exact law_close laidOut (b := 4) rfl Try.underlying4 rfl (readables _ (by kernel_rfl)) rfl hW' he hb
theorem poolAdds_holds : Rows.PoolAddsSaid :=
  OpenClaim.holds_of_wide 13 Try.f13 rfl rfl rfl rfl rfl rfl rfl ⟨rfl, rfl, rfl, rfl, rfl⟩ rfl rfl rfl rfl rfl (by kernel_rfl) Try.func13 (by kernel_rfl)
    (of_decide_eq_true (by kernel_rfl)) (by unfold Func.isWrapper; first | (rw [if_pos (by decide +kernel)]; kernel_rfl) | (rw [if_neg (by decide +kernel)]; exact ⟨rfl, rfl⟩))
    (fun os started H enc _ => poolAdds_lifted os started H enc)
end Go.Proofs.Ytegcimjmgagpnaa
