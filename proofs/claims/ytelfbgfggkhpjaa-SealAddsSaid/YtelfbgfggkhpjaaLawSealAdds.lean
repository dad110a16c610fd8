/- The law SealAdds: seal.Add answers what the document's SignAdded answers, at every argument, and changes none of them: no condition. -/
import Derived.Test.YtelfbgfggkhpjaaSealAdd2
import Derived.Test.YtelfbgfggkhpjaaOpenSign
import Derived.Test.YtelfbgfggkhpjaaOpenB
import Derived.Test.YtelfbgfggkhpjaaOpen2
namespace Go.Proofs.Ytelfbgfggkhpjaa
open Go.ChangeShapes Go.WideShapes Go.ChangeAt Go.RowKit
set_option linter.unusedVariables false
set_option maxHeartbeats 2000000 in
set_option maxRecDepth 100000 in
theorem sealAdds_any (v : Value) (l : List Sign) (s : Sign) (sd : Value) (w : World) (hv : RSigns w.cell? v l) (hsd : RBytes w.cell? sd s.slot.digest) (hl : (l.length + 1) * 48 ≤ 140737488355328) :
    Calls Try.prog 8 #[v, .agg #[.int .i64 s.node, .int .i64 s.slot.author, .int .i64 s.slot.round, sd]] w fun e w' => e = .returned (.bool true) ∧ Below w.heap.size w w' := by
  obtain ⟨E, hE⟩ : ∃ E, Hid (addE l s = E) := ⟨_, rfl⟩
  obtain ⟨L, hL⟩ : ∃ L, Hid (addL l s = L) := ⟨_, rfl⟩
  have Hl := Lib.hid hl
  clear hl
  go_enter Try.func8, Try.ntmps8
  go_wp2_with fail
  refine one_block _ _ _ (fun W => Calls Try.prog _ _ W _) (fun W hk hsz hbl => ?_)
  refine (signsCopy_any v l _ (hv.mono RSign.mono (vle_below hbl))).mono ?_
  rintro e w1 ⟨v1, rfl, hb1, ho1⟩
  have hr1 := ho1.reads (bs := 48) RSign.mono (by have := Hl.out; omega)
  have hbl1 := hbl.trans (hb1.mono hbl.size)
  have hk1 := hk.kept hb1
  have g0 := hk1.cell 0; have g1 := hk1.cell 1; have g2 := hk1.cell 2; have g3 := hk1.cell 3
  simp at g0 g1 g2 g3
  go_wp2_with fail
  refine (sealAdd_any v1 l s sd _ hr1 (hsd.mono (vle_below hbl1)) Hl.out).mono ?_
  rintro e w2 ⟨v2, rfl, hb2, hr2⟩
  rw [hE.out]
  rw [hL.out] at hr2
  have hbl2 := hbl1.trans (hb2.mono hbl1.size)
  have hk2 := hk1.kept hb2
  clear g0 g1 g2 g3
  have g0 := hk2.cell 0; have g1 := hk2.cell 1; have g2 := hk2.cell 2; have g3 := hk2.cell 3
  simp at g0 g1 g2 g3
  go_wp2_with fail
  refine (signAdded_any v l s sd _ (hv.mono RSign.mono (vle_below hbl2)) (hsd.mono (vle_below hbl2)) Hl.out).mono ?_
  rintro e w3 ⟨v3, rfl, hb3, hr3⟩
  rw [hE.out]
  rw [hL.out] at hr3
  have hbl3 := hbl2.trans (hb3.mono hbl2.size)
  go_wp2_with fail
  refine (sameSigns_same v2 v3 L _ (hr2.mono RSign.mono (vle_below hb3)) hr3).mono ?_
  rintro e w4 ⟨rfl, hb4⟩
  have hbl4 := hbl3.trans (hb4.mono hbl3.size)
  go_wp2_with fail
  refine (sameSigns_same v1 v l _ (hr1.mono RSign.mono (vle_below (hb2.trans ((hb3.mono hb2.size).trans (hb4.mono (by have := hb2.size; have := hb3.size; omega)))))) (hv.mono RSign.mono (vle_below hbl4))).mono ?_
  rintro e w5 ⟨rfl, hb5⟩
  go_wp2
  go_ret
  exact ⟨rfl, hbl4.trans (hb5.mono hbl4.size)⟩
set_option maxHeartbeats 1000000 in
set_option maxRecDepth 100000 in
theorem sealAdds_open {H : Type} {enc : TypeId × Value → H} (W : World) {base : Nat} {v v1 : Value} {d d1 : DataW H} {p p1 : List MemPlace} (hval : Value.okWide Try.prog W .any base 43 v) (h : DataW.Trod enc Try.prog W 0 (fun _ => true) true 43 v d p)
    (hw : ∀ n ∈ DataW.weights Try.prog 43 d, n ≤ reachBytes) (hval1 : Value.okWide Try.prog W .any base 47 v1) (h1 : DataW.Trod enc Try.prog W 0 (fun _ => true) true 47 v1 d1 p1)
    (hw1 : ∀ n ∈ DataW.weights Try.prog 47 d1, n ≤ reachBytes) : Calls Try.prog 8 #[v, v1] W fun e w' => e = .returned (.bool true) ∧ Below W.heap.size W w' := by
  obtain ⟨l, hr, hb⟩ := open_cell (R := fun h v (xs : List Sign) => RSl 4 RSign 48 h v xs ∧ xs.length * 48 ≤ 140737488351232) Try.underlying43 hval h hw (opens_slb Try.underlying43 (by kernel_rfl) (by decide) (by kernel_rfl) opens_sign)
  obtain ⟨s, sd, rfl, hs⟩ := open_sign hval1 h1 hw1
  exact sealAdds_any _ _ _ _ _ hr hs (by omega)
set_option maxRecDepth 100000 in
theorem sealAdds_lifted (os : Os) (started : os.Started) (H : Type) (enc : TypeId × Value → H) :
    ReturnsInHanded {} Try.checked os 8 .any (Rows.sealAddsSpec.pre6 enc Try.prog Try.f8 Rows.sealAddsRow.domain false) (Rows.sealAddsSpec.post enc Try.prog Try.f8 false true false false) := by
  refine returnsInHanded_of_change_sized (C := Try.checked) own_ started (by kernel_rfl) Try.func8
    (ChangeSpec.witness6 (enc := enc) (C := Try.checked) false ⟨#[], #[.slice none 0 0, .agg #[.int .i64 0, .int .i64 0, .int .i64 0, .slice none 0 0]], []⟩ 8 (by kernel_rfl) (by kernel_rfl) (by kernel_rfl) (by kernel_rfl) (by kernel_rfl)) ?_
  intro W base args ds gs before hval hW _ hsz _
  have hW' := hW
  obtain ⟨p, q, hA, hV, rfl, hfz, hnd⟩ := hW
  obtain ⟨rfl, rfl⟩ := trodVars_none hV
  rw [Try.params8] at hA hval hsz
  obtain ⟨v0, v1, d0, d1, p0, p1, rfl, rfl, rfl, h0, h1⟩ := trodAll_two hA
  have hs0 : ∀ n ∈ DataW.weights Try.prog _ d0, n ≤ reachBytes := fun n hn => by simpa using List.all_eq_true.1 hsz n (DataW.weights_mem_each (j := 0) rfl rfl n hn)
  have hs1 : ∀ n ∈ DataW.weights Try.prog _ d1, n ≤ reachBytes := fun n hn => by simpa using List.all_eq_true.1 hsz n (DataW.weights_mem_each (j := 1) rfl rfl n hn)
  refine (sealAdds_open W (hval 0 _ _ rfl rfl) h0 hs0 (hval 1 _ _ rfl rfl) h1 hs1).mono fun e W' ⟨he, hb⟩ => ?_
  exact law_close laidOut (b := 4) rfl Try.underlying4 rfl (readables _ (by kernel_rfl)) rfl hW' he hb
theorem sealAdds_holds : Rows.SealAddsSaid :=
  OpenClaim.holds_of_wide 8 Try.f8 rfl rfl rfl rfl rfl rfl rfl ⟨rfl, rfl, rfl, rfl, rfl⟩ rfl rfl rfl rfl rfl (by kernel_rfl) Try.func8 (by kernel_rfl)
    (of_decide_eq_true (by kernel_rfl)) (by unfold Func.isWrapper; first | (rw [if_pos (by decide +kernel)]; kernel_rfl) | (rw [if_neg (by decide +kernel)]; exact ⟨rfl, rfl⟩))
    (fun os started H enc _ => sealAdds_lifted os started H enc)
end Go.Proofs.Ytelfbgfggkhpjaa
