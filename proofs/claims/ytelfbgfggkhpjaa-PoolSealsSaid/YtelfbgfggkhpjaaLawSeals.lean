/- The law PoolSeals: pool.Seal answers what the document's PoolSealed answers, at every argument, and changes none of them: no condition. -/
import Derived.Test.YtelfbgfggkhpjaaPoolSeal2
import Derived.Test.YtelfbgfggkhpjaaOpen2
namespace Go.Proofs.Ytelfbgfggkhpjaa
open Go.ChangeShapes Go.WideShapes Go.ChangeAt Go.RowKit
set_option linter.unusedVariables false
set_option maxHeartbeats 4000000 in
set_option maxRecDepth 100000 in
theorem poolSeals_any (nx au : Int) (v : Value) (l : List ByteArray) (w : World) (hv : RTexts w.cell? v l) (hs : ∀ s ∈ l, s.size ≤ 140737488355328) :
    Calls Try.prog 4 #[.agg #[.int .i64 nx, v], .int .i64 au] w fun e w' => e = .returned (.bool true) ∧ Below w.heap.size w w' := by
  obtain ⟨E, hE⟩ : ∃ E, Hid (sealE nx l au = E) := ⟨_, rfl⟩
  obtain ⟨X1, h1⟩ : ∃ E, Hid (sealNx nx l au = E) := ⟨_, rfl⟩
  obtain ⟨X2, h2⟩ : ∃ E, Hid (sealAu nx l au = E) := ⟨_, rfl⟩
  obtain ⟨X3, h3⟩ : ∃ E, Hid (sealNu nx l au = E) := ⟨_, rfl⟩
  obtain ⟨X4, h4⟩ : ∃ E, Hid (sealRest nx l au = E) := ⟨_, rfl⟩
  obtain ⟨X5, h5⟩ : ∃ E, Hid (sealTx nx l au = E) := ⟨_, rfl⟩
  obtain ⟨A, c, rfl, hlen, _⟩ := hv.form
  go_enter Try.func4, Try.ntmps4
  go_wp2_with fail
  refine one_block _ _ _ (fun W => Calls Try.prog _ _ W _) (fun W hk hsz hbl => ?_)
  refine (pools_any nx _ l _ (hv.mono (vle_below hbl))).mono ?_
  rintro e w1 ⟨v1, rfl, hb1, ho1⟩
  have hbl1 := hbl.trans (hb1.mono hbl.size)
  have hr1 := ho1.reads (bs := 16) (by omega)
  obtain ⟨A1, c1, rfl⟩ := ho1.form
  have hk1 := hk.kept hb1
  go_wp2_with (refine wpList_store_whole (n := 2) rfl rfl rfl rfl (by kernel_rfl) rfl (Blk.new _ _ _) rfl rfl ?_)
  intro w2 hP hg2
  have hb2 : Below w1.heap.size w1 w2 := below_grownBy (below_one _ _) (le_alloc _ (Nat.le_refl _)) hg2 (by intro k e; injection e; omega)
  have hbl2 := hbl1.trans (hb2.mono hbl1.size)
  have hr2 := hr1.mono (vle_below hb2)
  have hk2 := hk1.kept hb2
  have p0 := hP.cell 0; have p1 := hP.cell 1
  simp at p0 p1
  clear hg2 hr1
  go_wp2_with fail
  refine (poolSeal_any nx au _ l _ hr2 hs).mono ?_
  rintro e w3 ⟨d1, d2, rfl, hb3, q1, q2⟩
  rw [hE.out, h1.out, h2.out, h3.out]
  rw [h4.out] at q1
  rw [h5.out] at q2
  have hbl3 := hbl2.trans (hb3.mono hbl2.size)
  obtain ⟨dA1, dc1, rfl, _⟩ := id q1
  obtain ⟨dA2, dc2, rfl, _⟩ := id q2
  have hP3 := hP.kept hb3
  clear p0 p1
  go_wp2_with (refine wpList_store_whole (n := 2) rfl rfl rfl rfl (by kernel_rfl) rfl ((Blk.new _ _ _).alloc _) rfl rfl ?_)
  intro w4 hA1 hgA1
  have hN := (Blk.new (w3.alloc (.cells #[.int .i64 0, .slice none 0 0] 28)) 31 #[.int .i64 0, .int .i64 0, .slice none 0 0]).grown hgA1 (by simp)
  rw [show (w3.alloc (.cells #[.int .i64 0, .slice none 0 0] 28)).heap.size = w3.heap.size + 1 from by simp] at hN
  have hbA1 : Below w3.heap.size w3 w4 := below_grownBy (below_2 _ _ _) (le_alloc _ (le_alloc _ (Nat.le_refl _))) hgA1 (by intro k e; injection e; omega)
  clear hgA1
  go_wp2_with (refine wpList_store_whole (n := 3) rfl rfl rfl rfl (by kernel_rfl) rfl hN rfl rfl ?_)
  intro w5 hB1 hgB1
  have hA1 := hA1.grown hgB1 (by simp)
  have hbB1 : Below w3.heap.size w3 w5 := below_grownBy hbA1 hbA1.size hgB1 (by intro k e; injection e; omega)
  clear hgB1 hbA1 hN
  have hbl5 := hbl3.trans (hbB1.mono hbl3.size)
  have hk5 := (hk2.kept hb3).kept hbB1
  have k0 := hk5.cell 0; have k1 := hk5.cell 1
  simp at k0 k1
  go_wp2_with fail
  refine (poolSealed_any nx au _ l _ (hv.mono (vle_below hbl5)) hs).mono ?_
  rintro e w6 ⟨d3, d4, rfl, hb6, q3, q4⟩
  rw [hE.out, h1.out, h2.out, h3.out]
  rw [h4.out] at q3
  rw [h5.out] at q4
  have hbl6 := hbl5.trans (hb6.mono hbl5.size)
  obtain ⟨dA3, dc3, rfl, _⟩ := id q3
  obtain ⟨dA4, dc4, rfl, _⟩ := id q4
  clear k0 k1
  go_wp2_with (refine wpList_store_whole (n := 2) rfl rfl rfl rfl (by kernel_rfl) rfl ((Blk.new _ _ _).alloc _) rfl rfl ?_)
  intro w7 hA2 hgA2
  have hN := (Blk.new (w6.alloc (.cells #[.int .i64 0, .slice none 0 0] 28)) 31 #[.int .i64 0, .int .i64 0, .slice none 0 0]).grown hgA2 (by simp)
  rw [show (w6.alloc (.cells #[.int .i64 0, .slice none 0 0] 28)).heap.size = w6.heap.size + 1 from by simp] at hN
  have hbA2 : Below w6.heap.size w6 w7 := below_grownBy (below_2 _ _ _) (le_alloc _ (le_alloc _ (Nat.le_refl _))) hgA2 (by intro k e; injection e; omega)
  clear hgA2
  go_wp2_with (refine wpList_store_whole (n := 3) rfl rfl rfl rfl (by kernel_rfl) rfl hN rfl rfl ?_)
  intro w8 hB2 hgB2
  have hA2 := hA2.grown hgB2 (by simp)
  have hbB2 : Below w6.heap.size w6 w8 := below_grownBy hbA2 hbA2.size hgB2 (by intro k e; injection e; omega)
  clear hgB2 hbA2 hN
  have hbl8 := hbl6.trans (hbB2.mono hbl6.size)
  have hA1 := (hA1.kept hb6).kept hbB2
  have hB1 := (hB1.kept hb6).kept hbB2
  have hP8 := (((hP3.kept hbB1).kept hb6).kept hbB2)
  have hk8 := (hk5.kept hb6).kept hbB2
  have v38 := ((vle_below hbB1).trans (vle_below hb6)).trans (vle_below hbB2)
  have r1 := q1.mono v38
  have r2 := q2.mono v38
  have r3 := q3.mono (vle_below hbB2)
  have r4 := q4.mono (vle_below hbB2)
  have r5 := hr2.mono ((vle_below hb3).trans v38)
  have r6 := hv.mono (vle_below hbl8)
  have a0 := hA1.cell 0; have a1 := hA1.cell 1; have b0 := hA2.cell 0; have b1 := hA2.cell 1
  simp at a0 a1 b0 b1
  go_wp2_with fail
  refine (samePool_same _ _ _ X4 _ r1 r3).mono ?_
  rintro e w9 ⟨rfl, hb9⟩
  have hbl9 := hbl8.trans (hb9.mono hbl8.size)
  have c1 := hB1.kept hb9; have c2 := hB2.kept hb9
  clear a0 a1 b0 b1
  have a0 := c1.cell 0; have a1 := c1.cell 1; have a2 := c1.cell 2; have b0 := c2.cell 0; have b1 := c2.cell 1; have b2 := c2.cell 2
  simp at a0 a1 a2 b0 b1 b2
  go_wp2_with fail
  refine (sameBatch_same _ _ _ _ X5 _ (r2.mono (vle_below hb9)) (r4.mono (vle_below hb9))).mono ?_
  rintro e w10 ⟨rfl, hb10⟩
  have hbl10 := hbl9.trans (hb10.mono hbl9.size)
  have e1 := (hP8.kept hb9).kept hb10; have e2 := (hk8.kept hb9).kept hb10
  clear a0 a1 a2 b0 b1 b2
  have a0 := e1.cell 0; have a1 := e1.cell 1; have b0 := e2.cell 0; have b1 := e2.cell 1
  simp at a0 a1 b0 b1
  go_wp2_with fail
  refine (samePool_same _ _ _ l _ ((r5.mono (vle_below hb9)).mono (vle_below hb10)) (hv.mono (vle_below hbl10))).mono ?_
  rintro e w11 ⟨rfl, hb11⟩
  go_wp2
  go_ret
  exact ⟨rfl, hbl10.trans (hb11.mono hbl10.size)⟩
set_option maxHeartbeats 1000000 in
set_option maxRecDepth 100000 in
theorem poolSeals_open {H : Type} {enc : TypeId × Value → H} (W : World) {base : Nat} {v v1 : Value} {d d1 : DataW H} {p p1 : List MemPlace} (hval : Value.okWide Try.prog W .any base 28 v) (h : DataW.Trod enc Try.prog W 0 (fun _ => true) true 28 v d p)
    (hw : ∀ n ∈ DataW.weights Try.prog 28 d, n ≤ reachBytes) (hval1 : Value.okWide Try.prog W .any base 3 v1) (h1 : DataW.Trod enc Try.prog W 0 (fun _ => true) true 3 v1 d1 p1)
    (hw1 : ∀ n ∈ DataW.weights Try.prog 3 d1, n ≤ reachBytes) : Calls Try.prog 4 #[v, v1] W fun e w' => e = .returned (.bool true) ∧ Below W.heap.size W w' := by
  obtain ⟨a, l, v', rfl, hb, hs⟩ := open_pool hval h hw
  obtain ⟨b, rfl, _⟩ := open_int (k := .i64) Try.underlying3 hval1 h1 hw1
  exact poolSeals_any _ _ _ _ _ hb hs
set_option maxRecDepth 100000 in
theorem poolSeals_lifted (os : Os) (started : os.Started) (H : Type) (enc : TypeId × Value → H) :
    ReturnsInHanded {} Try.checked os 4 .any (Rows.poolSealsSpec.pre6 enc Try.prog Try.f4 Rows.poolSealsRow.domain false) (Rows.poolSealsSpec.post enc Try.prog Try.f4 false true false false) := by
  refine returnsInHanded_of_change_sized (C := Try.checked) own_ started (by kernel_rfl) Try.func4
    (ChangeSpec.witness6 (enc := enc) (C := Try.checked) false ⟨#[], #[.agg #[.int .i64 0, .slice none 0 0], .int .i64 0], []⟩ 8 (by kernel_rfl) (by kernel_rfl) (by kernel_rfl) (by kernel_rfl) (by kernel_rfl)) ?_
  intro W base args ds gs before hval hW _ hsz _
  have hW' := hW
  obtain ⟨p, q, hA, hV, rfl, hfz, hnd⟩ := hW
  obtain ⟨rfl, rfl⟩ := trodVars_none hV
  rw [Try.params4] at hA hval hsz
  obtain ⟨v0, v1, d0, d1, p0, p1, rfl, rfl, rfl, h0, h1⟩ := trodAll_two hA
  have hs0 : ∀ n ∈ DataW.weights Try.prog _ d0, n ≤ reachBytes := fun n hn => by simpa using List.all_eq_true.1 hsz n (DataW.weights_mem_each (j := 0) rfl rfl n hn)
  have hs1 : ∀ n ∈ DataW.weights Try.prog _ d1, n ≤ reachBytes := fun n hn => by simpa using List.all_eq_true.1 hsz n (DataW.weights_mem_each (j := 1) rfl rfl n hn)
  refine (poolSeals_open W (hval 0 _ _ rfl rfl) h0 hs0 (hval 1 _ _ rfl rfl) h1 hs1).mono fun e W' ⟨he, hb⟩ => ?_
  exact law_close laidOut (b := 4) rfl Try.underlying4 rfl (readables _ (by kernel_rfl)) rfl hW' he hb
theorem poolSeals_holds : Rows.PoolSealsSaid :=
  OpenClaim.holds_of_wide 4 Try.f4 rfl rfl rfl rfl rfl rfl rfl ⟨rfl, rfl, rfl, rfl, rfl⟩ rfl rfl rfl rfl rfl (by kernel_rfl) Try.func4 (by kernel_rfl)
    (of_decide_eq_true (by kernel_rfl)) (by unfold Func.isWrapper; first | (rw [if_pos (by decide +kernel)]; kernel_rfl) | (rw [if_neg (by decide +kernel)]; exact ⟨rfl, rfl⟩))
    (fun os started H enc _ => poolSeals_lifted os started H enc)
end Go.Proofs.Ytelfbgfggkhpjaa
