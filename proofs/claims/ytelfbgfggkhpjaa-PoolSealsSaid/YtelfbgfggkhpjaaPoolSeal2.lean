/- The document's PoolSealed. -/
import Derived.Test.YtelfbgfggkhpjaaPoolSeal
namespace Go.Proofs.Ytelfbgfggkhpjaa
open Go.ChangeShapes Go.WideShapes Go.ChangeAt Go.RowKit
set_option linter.unusedVariables false
set_option linter.unusedSimpArgs false
theorem OwnVec.keptRow {α : Type} {enc : α → Value} {e : TypeId} {w w' : World} {B : Nat} {v : Value} {xs : List α} {r : Option Nat} (h : OwnVec enc e w B v xs) (hg : w.grownBy w' r) (hne : ∀ k, v.ownBlock = some k → r ≠ some k) : OwnVec enc e w' B v xs := by
  obtain ⟨h1, h2⟩ := h.own
  refine ⟨h1, ?_⟩
  rcases h2 with h2 | ⟨g, cap, cur, h3, h4, h5, h6⟩
  · exact .inl h2
  · refine .inr ⟨g, cap, cur, h3, h4, ?_, h6⟩
    have hlt : g < w.heap.size := (Array.getElem?_eq_some_iff.1 h5).1
    rw [hg.block g hlt (fun e => hne g (by rw [h3]; rfl) e.symm)]
    exact h5
theorem ownBlockS_ne {w : World} {B : Nat} {v : Value} {xs : List ByteArray} (h : OwnS w B v xs) {g : Nat} (hg : g < B) : some g ≠ v.ownBlock := fun e => by
  have := (h.own.lt g e.symm).1; omega
set_option maxHeartbeats 4000000 in
set_option maxRecDepth 100000 in
theorem poolSealed_any (nx au : Int) (v : Value) (l : List ByteArray) (w : World) (hv : RTexts w.cell? v l) (hs : ∀ s ∈ l, s.size ≤ 140737488355328) :
    Calls Try.prog 12 #[.agg #[.int .i64 nx, v], .int .i64 au] w fun e w' => ∃ d1 d2, e = .returned (.tuple #[.agg #[.int .i64 (sealNx nx l au), d1], .agg #[.int .i64 (sealAu nx l au), .int .i64 (sealNu nx l au), d2], .int .i64 (sealE nx l au)]) ∧ Below w.heap.size w w' ∧ RTexts w'.cell? d1 (sealRest nx l au) ∧ RTexts w'.cell? d2 (sealTx nx l au) := by
  obtain ⟨A, c, rfl, hlen, hel⟩ := hv.form
  have Hel := Lib.hid hel
  clear hel
  obtain ⟨F, hF⟩ : ∃ F, Hid (poolF nx l = F) := ⟨_, rfl⟩
  obtain ⟨E, hE⟩ : ∃ E, Hid (sealE nx l au = E) := ⟨_, rfl⟩
  have HE : Hid (E = if F ≠ 0 then F else if inB au 0 3 then (if l.length = 0 then 8 else if 1048576 < nx then 6 else 0) else 2) := by show _ = _; rw [← hE.out, ← hF.out]; rfl
  have H1 : Hid (sealNx nx l au = if E ≠ 0 then 0 else nx + 1) := by show _ = _; rw [← hE.out]; rfl
  have H2 : Hid (sealAu nx l au = if E ≠ 0 then 0 else au) := by show _ = _; rw [← hE.out]; rfl
  have H3 : Hid (sealNu nx l au = if E ≠ 0 then 0 else nx) := by show _ = _; rw [← hE.out]; rfl
  have H4 : Hid (sealRest nx l au = if E ≠ 0 then [] else l.drop 4) := by show _ = _; rw [← hE.out]; rfl
  have H5 : Hid (sealTx nx l au = if E ≠ 0 then [] else l.take 4) := by show _ = _; rw [← hE.out]; rfl
  rw [hE.out]
  generalize sealNx nx l au = X1 at H1 ⊢
  generalize sealAu nx l au = X2 at H2 ⊢
  generalize sealNu nx l au = X3 at H3 ⊢
  generalize sealRest nx l au = X4 at H4 ⊢
  generalize sealTx nx l au = X5 at H5 ⊢
  have Hs := Lib.hid hs
  clear hs hE
  go_enter Try.func12, Try.ntmps12
  go_wp2_with fail
  refine three_blocks _ _ _ _ _ _ _ (fun W => Calls Try.prog _ _ W _) (fun W hk1 hk2 hk3 hsz hbl => ?_)
  refine (poolFault_any nx _ l _ (hv.mono (vle_below hbl)) Hs.out).mono ?_
  rintro e w1 ⟨rfl, hb1⟩
  rw [hF.out]
  have hbl1 := hbl.trans (hb1.mono hbl.size)
  have hk1 := hk1.kept hb1
  have hk2 := hk2.kept hb1
  have hk3 := hk3.kept hb1
  have hz1 := hb1.size
  clear hbl hb1
  have g0 := hk1.cell 0; have g1 := hk1.cell 1
  simp at g0 g1
  have fin : ∀ f : Int, f ≠ 0 → E = f → ∀ (w' : World), Below w.heap.size w w' → ∃ d1 d2, Ending.returned (.tuple #[.agg #[.int .i64 0, .slice none 0 0], .agg #[.int .i64 0, .int .i64 0, .slice none 0 0], .int .i64 f]) = .returned (.tuple #[.agg #[.int .i64 X1, d1], .agg #[.int .i64 X2, .int .i64 X3, d2], .int .i64 E]) ∧ Below w.heap.size w w' ∧ RTexts w'.cell? d1 X4 ∧ RTexts w'.cell? d2 X5 := by
    intro f hf0 hEf w' hb
    subst hEf
    rw [H1.out, H2.out, H3.out, H4.out, H5.out, if_pos hf0, if_pos hf0, if_pos hf0, if_pos hf0, if_pos hf0]
    exact ⟨_, _, rfl, hb, RVec.nil _ _ _, RVec.nil _ _ _⟩
  have Fin := Lib.hid fin
  clear fin
  by_cases hF0 : F = 0
  · subst hF0
    have HE' : Hid (E = if inB au 0 3 then (if l.length = 0 then 8 else if 1048576 < nx then 6 else 0) else 2) := by show _ = _; rw [HE.out]; rfl
    clear HE
    cases h1 : inB au 0 3
    · have HE2 : Hid (E = 2) := by show _ = _; rw [HE'.out, h1]; rfl
      go_upto_region 8 with (first | (go_at_call 34; refine (in_any _ _ _ _).mono ?_; rintro e w' ⟨rfl, rfl⟩) | fail)
      go_wp2_with (refine wpList_store_whole (n := 2) rfl rfl rfl rfl (by kernel_rfl) rfl hk2 rfl rfl ?_)
      intro w2 hA hg2
      have hk3 := hk3.grown hg2 (by simp)
      have hbl2 := below_grownBy hbl1 (hbl1).size hg2 (by intro k e; injection e; omega)
      go_wp2_with (refine wpList_store_whole (n := 3) rfl rfl rfl rfl (by kernel_rfl) rfl hk3 rfl rfl ?_)
      intro w3 hB hg3
      have hA := hA.grown hg3 (by simp)
      have hbl3 := below_grownBy hbl2 hbl2.size hg3 (by intro k e; injection e; omega)
      go_wp2
      refine bodyPost_ret (results_blk2_tmp rfl rfl rfl (by kernel_rfl) (by kernel_rfl) hA rfl (by kernel_rfl) (by kernel_rfl) hB rfl) rfl ?_
      exact Fin.out _ (by decide) (HE2).out _ hbl3
    have HE3 : Hid (E = if l.length = 0 then 8 else if 1048576 < nx then 6 else 0) := by show _ = _; rw [HE'.out, h1]; rfl
    clear HE'
    by_cases h3 : l.length = 0
    · have HE2 : Hid (E = 8) := by show _ = _; rw [HE3.out, if_pos h3]
      rw [h3] at g1
      go_upto_region 8 with (first | (go_at_call 34; refine (in_any _ _ _ _).mono ?_; rintro e w' ⟨rfl, rfl⟩) | fail)
      go_wp2_with (refine wpList_store_whole (n := 2) rfl rfl rfl rfl (by kernel_rfl) rfl hk2 rfl rfl ?_)
      intro w2 hA hg2
      have hk3 := hk3.grown hg2 (by simp)
      have hbl2 := below_grownBy hbl1 (hbl1).size hg2 (by intro k e; injection e; omega)
      go_wp2_with (refine wpList_store_whole (n := 3) rfl rfl rfl rfl (by kernel_rfl) rfl hk3 rfl rfl ?_)
      intro w3 hB hg3
      have hA := hA.grown hg3 (by simp)
      have hbl3 := below_grownBy hbl2 hbl2.size hg3 (by intro k e; injection e; omega)
      go_wp2
      refine bodyPost_ret (results_blk2_tmp rfl rfl rfl (by kernel_rfl) (by kernel_rfl) hA rfl (by kernel_rfl) (by kernel_rfl) hB rfl) rfl ?_
      exact Fin.out _ (by decide) (HE2).out _ hbl3
    have h3' : ¬ (l.length : Int) = 0 := by omega
    by_cases h4 : 1048576 < nx
    · have HE2 : Hid (E = 6) := by show _ = _; rw [HE3.out, if_neg h3, if_pos h4]
      go_upto_region 8 with (first | (go_at_call 34; refine (in_any _ _ _ _).mono ?_; rintro e w' ⟨rfl, rfl⟩) | fail)
      go_wp2_with (refine wpList_store_whole (n := 2) rfl rfl rfl rfl (by kernel_rfl) rfl hk2 rfl rfl ?_)
      intro w2 hA hg2
      have hk3 := hk3.grown hg2 (by simp)
      have hbl2 := below_grownBy hbl1 (hbl1).size hg2 (by intro k e; injection e; omega)
      go_wp2_with (refine wpList_store_whole (n := 3) rfl rfl rfl rfl (by kernel_rfl) rfl hk3 rfl rfl ?_)
      intro w3 hB hg3
      have hA := hA.grown hg3 (by simp)
      have hbl3 := below_grownBy hbl2 hbl2.size hg3 (by intro k e; injection e; omega)
      go_wp2
      refine bodyPost_ret (results_blk2_tmp rfl rfl rfl (by kernel_rfl) (by kernel_rfl) hA rfl (by kernel_rfl) (by kernel_rfl) hB rfl) rfl ?_
      exact Fin.out _ (by decide) (HE2).out _ hbl3
    have HE2 : Hid (E = 0) := by show _ = _; rw [HE3.out, if_neg h3, if_neg h4]
    have hp1 : 1 ≤ nx := by
      have := hF.out
      simp only [poolF] at this
      by_cases hq : 1 ≤ nx
      · exact hq
      · simp [inB, hq] at this
    clear HE3
    obtain ⟨nx1, hnx1⟩ : ∃ y : Int, Hid (nx + 1 = y) := ⟨_, rfl⟩
    have e1 : IntKind.i64.wrap (nx + 1) = nx1 := by rw [IntKind.wrap_i64, ← hnx1.out]; omega
    have e1b : nx + 1 = nx1 := hnx1.out
    go_wp2_with (first | (go_at_call 34; refine (in_any _ _ _ _).mono ?_; rintro e w' ⟨rfl, rfl⟩) | (refine wpList_store_whole (n := 2) rfl rfl rfl rfl (by kernel_rfl) rfl (Blk.new _ _ _) rfl rfl ?_))
    intro w2 hA2 hg2
    have hb2 : Below w1.heap.size w1 w2 := below_grownBy (below_one _ _) (le_alloc _ (Nat.le_refl _)) hg2 (by intro k e; injection e; omega)
    obtain ⟨go, hgo⟩ : ∃ go, Hid (w1.heap.size = go) := ⟨_, rfl⟩
    rw [hgo.out] at hA2 ⊢
    have g0 := vle_below hb2 _ _ g0
    have g1 := vle_below hb2 _ _ g1
    clear hg2
    go_wp2_with (refine wpList_store_whole (n := 3) rfl rfl rfl rfl (by kernel_rfl) rfl (Blk.new _ _ _) rfl rfl ?_)
    intro w3 hB3 hg3
    have hb3 : Below w2.heap.size w2 w3 := below_grownBy (below_one _ _) (le_alloc _ (Nat.le_refl _)) hg3 (by intro k e; injection e; omega)
    have hgo2 := hA2.lt
    have hA3 := hA2.kept hb3
    obtain ⟨gb, hgb⟩ : ∃ gb, Hid (w2.heap.size = gb) := ⟨_, rfl⟩
    rw [hgb.out] at hB3 hgo2 ⊢
    have hb13 : Below w1.heap.size w1 w3 := hb2.trans (hb3.mono hb2.size)
    have hgob : w.heap.size + 3 ≤ go := by have := hgo.out; omega
    have hw1b : w1.heap.size ≤ gb := by have := hgo.out; omega
    have hw1o : w1.heap.size ≤ go := by have := hgo.out; omega
    have hgb3 := hB3.lt
    clear hg3 g0 g1 hb2 hb3 hA2
    go_wp2_with fail
    go_loopw [10] (fun i wr => ∃ k : Nat, k ≤ l.length ∧ i = .int .i64 k ∧ ∃ vo vb, Blk wr go 28 #[.int .i64 nx1, vo] ∧ Blk wr gb 31 #[.int .i64 au, .int .i64 nx, vb] ∧ OwnS wr (gb + 1) vo ((l.take k).drop 4) ∧ OwnS wr (gb + 1) vb ((l.take k).take 4) ∧ (∀ q, vo.ownBlock = some q → vb.ownBlock = some q → False) ∧ Below w1.heap.size w1 wr) (fun i _ => l.length - (intOf i).toNat)
    case atStart => exact ⟨0, Nat.zero_le _, rfl, _, _, hA3, hB3, OwnVec.nil _ _ _ _, OwnVec.nil _ _ _ _, (fun q h => by cases h), hb13⟩
    case round =>
      clear hA3 hB3 hb13
      obtain ⟨k, hk, rfl, vo, vb, hA, hB, hoo, hob, hdis, hbl⟩ := hrel
      have hk1c := hk1.kept hbl
      have hgr := hB.lt
      by_cases hlt : k < l.length
      · obtain ⟨b0, o0, rfl, hcell'⟩ := Hel.out k hlt
        have hb0 : b0 < w.heap.size := World.block_lt_of_cell? w ⟨b0, o0 + k, none⟩ hcell'
        have hc1 : wr.cell? ⟨b0, o0 + k, none⟩ = some (.string l[k]) := vle_below hbl _ _ (vle_below hbl1 _ _ hcell')
        have g1 := hk1c.cell 1
        simp at g1
        clear hcell'
        have hTk : l.take (k + 1) = l.take k ++ [l[k]] := List.take_succ_eq_append_getElem hlt
        by_cases h4k : k < 4
        · have Hn1 := Lib.hid (show (l.take (k + 1)).take 4 = (l.take k).take 4 ++ [l[k]] by rw [List.take_take, List.take_take, show min 4 (k + 1) = k + 1 by omega, show min 4 k = k by omega]; exact hTk)
          have Hn2 := Lib.hid (show (l.take (k + 1)).drop 4 = (l.take k).drop 4 by rw [List.drop_of_length_le (by simp; omega), List.drop_of_length_le (by simp; omega)])
          have hL : ((l.take k).take 4).length ≤ 4 := by simp; omega
          generalize (l.take k).take 4 = L at hob Hn1 hL
          generalize (l.take k).drop 4 = D at hoo Hn2
          generalize l[k] = x at hc1 Hn1
          clear hTk
          have hoo' := hoo
          have hki : (k : Int) < 4 := by omega
          obtain ⟨oA, oc, rfl⟩ := (hob).form
          obtain ⟨ln, hln⟩ : ∃ ln, Hid ((L).length = ln) := ⟨_, rfl⟩
          have hL2 : (ln + 1) * 16 ≤ 140737488355328 := by have := hln.out; omega
          rw [hln.out] at hob hB hdis
          have d4 := (hB).cell 2
          simp at d4
          have hne := ownBlockS_ne hob (g := gb) (by omega)
          have hne2 := ownBlockS_ne hob (g := go) (by omega)
          have hne0 := ownBlockS_ne hob (g := w.heap.size) (by omega)
          have hneb := ownBlockS_ne hob (g := b0) (by omega)
          obtain ⟨ob, hob'⟩ : ∃ ob, Hid (Value.ownBlock (.slice oA ln oc) = ob) := ⟨_, rfl⟩
          rw [hob'.out] at hne hne2 hne0 hneb hdis
          have hoblt : ∀ q, ob = some q → gb + 1 ≤ q := fun q hq => ((hob).own.lt q (hob'.out.trans hq)).1
          go_wp2_with fail
          refine wp_region_pl0 (fun w' => Below wr.heap.size wr w') (fun w' => wr.grownBy w' ob ∧ w'.cell? ⟨b0, o0 + k, none⟩ = some (.string x)) [10] (.q 0 (.q 1 (.q 2 (.q 3 (.q 4 (.q 5 (.q 6 (.l 7 (.l 8 (.q 9 (.l 10 .nil))))))))))) (by kernel_rfl) (by kernel_rfl) (fun _ _ d _ _ h => by cases d <;> exact h) rfl (by kernel_rfl) ?_ ?_
          · exact ⟨below_drew _, grownBy_drew _ _, hc1⟩
          intro W hS0 hS
          have hzW := hS0.size
          repeat (first
            | (refine pl_q (by assumption) rfl rfl ?_; apply Exists.intro; refine ⟨fun w' hS => ?_, ?_⟩; (· (have h1 := ((hB).grown hS.1 hne).cell 2; have h2 := (hk1c.grown hS.1 hne0).cell 1; have h3 := hS.2; simp at h1 h2 h3; go_simp; exact rfl)); simp only [List.getElem_toArray, List.getElem_cons_zero, List.getElem_cons_succ, Act.put, List.setIfInBounds_toArray, List.set_cons_zero, List.set_cons_succ])
            | (refine pl_qc rfl rfl ?_; apply Exists.intro; refine ⟨fun w' _ => ?_, ?_⟩; (· (go_simp; exact rfl)); simp only [List.getElem_toArray, List.getElem_cons_zero, List.getElem_cons_succ, Act.put, List.setIfInBounds_toArray, List.set_cons_zero, List.set_cons_succ])
            | (refine pl_skip (by assumption) rfl rfl ?_; simp only [List.getElem_toArray, List.getElem_cons_zero, List.getElem_cons_succ, Act.put, List.setIfInBounds_toArray, List.set_cons_zero, List.set_cons_succ])
            | (refine pl_skipl (by assumption) rfl rfl ?_; simp only [List.getElem_toArray, List.getElem_cons_zero, List.getElem_cons_succ, Act.put, List.setIfInBounds_toArray, List.set_cons_zero, List.set_cons_succ]))
          first
            | refine pl_do rfl rfl (fun K hK => ?_)
            | refine op_do rfl rfl (fun K hK => ?_)
          try simp only [List.getElem_toArray, List.getElem_cons_zero, List.getElem_cons_succ]
          go_simp
          have hb5 := below_one W (.cells #[.string x] 9)
          have ho5 := ((hob).kept hS0).kept hb5
          have hn0 : (W.alloc (.cells #[.string x] 9)).cell? ⟨W.heap.size, 0, none⟩ = some (encS x) := (Blk.new W 9 #[.string x]).cell 0
          have hS5 : wr.grownBy (W.alloc (.cells #[.string x] 9)) ob := grownBy_trans hS.1 (grownBy_below _ hb5)
          have hxx := (hoo'.kept hS0).kept hb5
          refine hK.out _ _ (⟨hS5, vle_below hb5 _ _ hS.2⟩) (fun hS => ?_)
          clear hK K
          try simp only [List.getElem_toArray, List.getElem_cons_zero, List.getElem_cons_succ, Act.put, List.setIfInBounds_toArray, List.set_cons_zero, List.set_cons_succ]
          first
            | refine pl_do rfl rfl (fun K hK => ?_)
            | refine op_do rfl rfl (fun K hK => ?_)
          try simp only [List.getElem_toArray, List.getElem_cons_zero, List.getElem_cons_succ]
          refine wp_append_at (n := 140737488355328) (ys := [x]) elemStr encS_one _ _ rfl rfl ho5 (by simp; omega) rfl (RVec.one x hn0 (by decide)) (by decide) (by have := hln.out; simp; omega) (by have := hln.out; simp; omega) (fun v6 w6 ho6 hg6 hloc => ?_)
          replace hg6 : (W.alloc (.cells #[.string x] 9)).grownBy w6 ob := by rw [← hob'.out]; exact hg6
          have hloc' : ∀ q, v6.ownBlock = some q → ob = some q ∨ W.heap.size + 1 ≤ q := fun q hq => by
            rcases hloc (by simp) q hq with h | h
            · exact .inl (hob'.out.symm.trans h)
            · exact .inr (by simpa using h)
          have hg7 := grownBy_trans hS5 hg6
          have hxx6 := hxx.keptRow hg6 (fun q hq => by
            intro e
            exact (fun q hq e => hdis q hq e) q hq e)
          clear hloc
          refine hK.out _ _ (⟨hg7, hg7.cell hc1 hneb⟩) (fun hS => ?_)
          clear hK K
          try simp only [List.getElem_toArray, List.getElem_cons_zero, List.getElem_cons_succ, Act.put, List.setIfInBounds_toArray, List.set_cons_zero, List.set_cons_succ]
          repeat (first
            | (refine pl_q (by assumption) rfl rfl ?_; apply Exists.intro; refine ⟨fun w' hS => ?_, ?_⟩; (· (skip; go_simp; exact rfl)); simp only [List.getElem_toArray, List.getElem_cons_zero, List.getElem_cons_succ, Act.put, List.setIfInBounds_toArray, List.set_cons_zero, List.set_cons_succ])
            | (refine pl_qc rfl rfl ?_; apply Exists.intro; refine ⟨fun w' _ => ?_, ?_⟩; (· (go_simp; exact rfl)); simp only [List.getElem_toArray, List.getElem_cons_zero, List.getElem_cons_succ, Act.put, List.setIfInBounds_toArray, List.set_cons_zero, List.set_cons_succ])
            | (refine pl_skip (by assumption) rfl rfl ?_; simp only [List.getElem_toArray, List.getElem_cons_zero, List.getElem_cons_succ, Act.put, List.setIfInBounds_toArray, List.set_cons_zero, List.set_cons_succ])
            | (refine pl_skipl (by assumption) rfl rfl ?_; simp only [List.getElem_toArray, List.getElem_cons_zero, List.getElem_cons_succ, Act.put, List.setIfInBounds_toArray, List.set_cons_zero, List.set_cons_succ]))
          first
            | refine pl_close rfl rfl rfl (fun K hK => ?_)
            | refine op_close rfl rfl rfl (fun K hK => ?_)
          try simp only [List.getElem_toArray, List.getElem_cons_zero, List.getElem_cons_succ]
          obtain ⟨vA6, vc6, rfl⟩ := ho6.form
          refine wp_store_blk (n := 1) rfl rfl rfl (by kernel_rfl) rfl (hB.grown hg7 hne) (by simp) rfl ?_
          intro w7 hB7 hg8
          have hbl7 : Below w1.heap.size w1 w7 := below_grownBy (below_grownBy hbl hbl.size hg7 (fun j e => by have := hoblt j e; omega)) (by have := hg7.size; have := hbl.size; omega) hg8 (by intro j e; injection e; omega)
          have ho7 := ho6.grown hg8 (by omega)
          have hD7 := hxx6.grown hg8 (by omega)
          have hA7 := (hA.grown hg7 hne2).grown hg8 (by simp; omega)
          clear hg8
          refine hK.out _ _ ?_
          clear hK K
          try simp only [List.getElem_toArray, List.getElem_cons_zero, List.getElem_cons_succ, Act.put, List.setIfInBounds_toArray, List.set_cons_zero, List.set_cons_succ]
          refine pl_nil ?_
          go_wp2_with fail
          go_roundw
          case rel => exact ⟨k + 1, by omega, by go_num, _, _, hA7, hB7, by rw [Hn2.out]; exact hD7, by rw [Hn1.out]; exact ho7, (fun q hq hq2 => by
            rcases hloc' q hq2 with h | h
            · exact hdis q hq h
            · have := (hoo.own.lt q hq).2; omega), hbl7⟩
          case measure => simp [intOf]; omega
        · have Hn1 := Lib.hid (show (l.take (k + 1)).take 4 = (l.take k).take 4 by rw [List.take_take, List.take_take, show min 4 (k + 1) = 4 by omega, show min 4 k = 4 by omega])
          have Hn2 := Lib.hid (show (l.take (k + 1)).drop 4 = (l.take k).drop 4 ++ [l[k]] by rw [hTk, List.drop_append_of_le_length (by simp; omega)])
          have hL : ((l.take k).drop 4).length + 1 ≤ l.length := by simp; omega
          generalize (l.take k).take 4 = D at hob Hn1
          generalize (l.take k).drop 4 = L at hoo Hn2 hL
          generalize l[k] = x at hc1 Hn2
          clear hTk
          have hoo' := hob
          have hki : ¬ (k : Int) < 4 := by omega
          obtain ⟨oA, oc, rfl⟩ := (hoo).form
          obtain ⟨ln, hln⟩ : ∃ ln, Hid ((L).length = ln) := ⟨_, rfl⟩
          have hL2 : (ln + 1) * 16 ≤ 140737488355328 := by have := hln.out; omega
          rw [hln.out] at hoo hA hdis
          have d4 := (hA).cell 1
          simp at d4
          have hne := ownBlockS_ne hoo (g := gb) (by omega)
          have hne2 := ownBlockS_ne hoo (g := go) (by omega)
          have hne0 := ownBlockS_ne hoo (g := w.heap.size) (by omega)
          have hneb := ownBlockS_ne hoo (g := b0) (by omega)
          obtain ⟨ob, hob'⟩ : ∃ ob, Hid (Value.ownBlock (.slice oA ln oc) = ob) := ⟨_, rfl⟩
          rw [hob'.out] at hne hne2 hne0 hneb hdis
          have hoblt : ∀ q, ob = some q → gb + 1 ≤ q := fun q hq => ((hoo).own.lt q (hob'.out.trans hq)).1
          go_wp2_with fail
          refine wp_region_pl0 (fun w' => Below wr.heap.size wr w') (fun w' => wr.grownBy w' ob ∧ w'.cell? ⟨b0, o0 + k, none⟩ = some (.string x)) [10] (.q 0 (.q 1 (.q 2 (.q 3 (.q 4 (.q 5 (.q 6 (.l 7 (.l 8 (.q 9 (.l 10 .nil))))))))))) (by kernel_rfl) (by kernel_rfl) (fun _ _ d _ _ h => by cases d <;> exact h) rfl (by kernel_rfl) ?_ ?_
          · exact ⟨below_drew _, grownBy_drew _ _, hc1⟩
          intro W hS0 hS
          have hzW := hS0.size
          repeat (first
            | (refine pl_q (by assumption) rfl rfl ?_; apply Exists.intro; refine ⟨fun w' hS => ?_, ?_⟩; (· (have h1 := ((hA).grown hS.1 hne2).cell 1; have h2 := (hk1c.grown hS.1 hne0).cell 1; have h3 := hS.2; simp at h1 h2 h3; go_simp; exact rfl)); simp only [List.getElem_toArray, List.getElem_cons_zero, List.getElem_cons_succ, Act.put, List.setIfInBounds_toArray, List.set_cons_zero, List.set_cons_succ])
            | (refine pl_qc rfl rfl ?_; apply Exists.intro; refine ⟨fun w' _ => ?_, ?_⟩; (· (go_simp; exact rfl)); simp only [List.getElem_toArray, List.getElem_cons_zero, List.getElem_cons_succ, Act.put, List.setIfInBounds_toArray, List.set_cons_zero, List.set_cons_succ])
            | (refine pl_skip (by assumption) rfl rfl ?_; simp only [List.getElem_toArray, List.getElem_cons_zero, List.getElem_cons_succ, Act.put, List.setIfInBounds_toArray, List.set_cons_zero, List.set_cons_succ])
            | (refine pl_skipl (by assumption) rfl rfl ?_; simp only [List.getElem_toArray, List.getElem_cons_zero, List.getElem_cons_succ, Act.put, List.setIfInBounds_toArray, List.set_cons_zero, List.set_cons_succ]))
          first
            | refine pl_do rfl rfl (fun K hK => ?_)
            | refine op_do rfl rfl (fun K hK => ?_)
          try simp only [List.getElem_toArray, List.getElem_cons_zero, List.getElem_cons_succ]
          go_simp
          have hb5 := below_one W (.cells #[.string x] 9)
          have ho5 := ((hoo).kept hS0).kept hb5
          have hn0 : (W.alloc (.cells #[.string x] 9)).cell? ⟨W.heap.size, 0, none⟩ = some (encS x) := (Blk.new W 9 #[.string x]).cell 0
          have hS5 : wr.grownBy (W.alloc (.cells #[.string x] 9)) ob := grownBy_trans hS.1 (grownBy_below _ hb5)
          have hxx := (hoo'.kept hS0).kept hb5
          refine hK.out _ _ (⟨hS5, vle_below hb5 _ _ hS.2⟩) (fun hS => ?_)
          clear hK K
          try simp only [List.getElem_toArray, List.getElem_cons_zero, List.getElem_cons_succ, Act.put, List.setIfInBounds_toArray, List.set_cons_zero, List.set_cons_succ]
          first
            | refine pl_do rfl rfl (fun K hK => ?_)
            | refine op_do rfl rfl (fun K hK => ?_)
          try simp only [List.getElem_toArray, List.getElem_cons_zero, List.getElem_cons_succ]
          refine wp_append_at (n := 140737488355328) (ys := [x]) elemStr encS_one _ _ rfl rfl ho5 (by simp; omega) rfl (RVec.one x hn0 (by decide)) (by decide) (by have := hln.out; simp; omega) (by have := hln.out; simp; omega) (fun v6 w6 ho6 hg6 hloc => ?_)
          replace hg6 : (W.alloc (.cells #[.string x] 9)).grownBy w6 ob := by rw [← hob'.out]; exact hg6
          have hloc' : ∀ q, v6.ownBlock = some q → ob = some q ∨ W.heap.size + 1 ≤ q := fun q hq => by
            rcases hloc (by simp) q hq with h | h
            · exact .inl (hob'.out.symm.trans h)
            · exact .inr (by simpa using h)
          have hg7 := grownBy_trans hS5 hg6
          have hxx6 := hxx.keptRow hg6 (fun q hq => by
            intro e
            exact (fun q hq e => hdis q e hq) q hq e)
          clear hloc
          refine hK.out _ _ (⟨hg7, hg7.cell hc1 hneb⟩) (fun hS => ?_)
          clear hK K
          try simp only [List.getElem_toArray, List.getElem_cons_zero, List.getElem_cons_succ, Act.put, List.setIfInBounds_toArray, List.set_cons_zero, List.set_cons_succ]
          repeat (first
            | (refine pl_q (by assumption) rfl rfl ?_; apply Exists.intro; refine ⟨fun w' hS => ?_, ?_⟩; (· (skip; go_simp; exact rfl)); simp only [List.getElem_toArray, List.getElem_cons_zero, List.getElem_cons_succ, Act.put, List.setIfInBounds_toArray, List.set_cons_zero, List.set_cons_succ])
            | (refine pl_qc rfl rfl ?_; apply Exists.intro; refine ⟨fun w' _ => ?_, ?_⟩; (· (go_simp; exact rfl)); simp only [List.getElem_toArray, List.getElem_cons_zero, List.getElem_cons_succ, Act.put, List.setIfInBounds_toArray, List.set_cons_zero, List.set_cons_succ])
            | (refine pl_skip (by assumption) rfl rfl ?_; simp only [List.getElem_toArray, List.getElem_cons_zero, List.getElem_cons_succ, Act.put, List.setIfInBounds_toArray, List.set_cons_zero, List.set_cons_succ])
            | (refine pl_skipl (by assumption) rfl rfl ?_; simp only [List.getElem_toArray, List.getElem_cons_zero, List.getElem_cons_succ, Act.put, List.setIfInBounds_toArray, List.set_cons_zero, List.set_cons_succ]))
          first
            | refine pl_close rfl rfl rfl (fun K hK => ?_)
            | refine op_close rfl rfl rfl (fun K hK => ?_)
          try simp only [List.getElem_toArray, List.getElem_cons_zero, List.getElem_cons_succ]
          obtain ⟨vA6, vc6, rfl⟩ := ho6.form
          refine wp_store_blk (n := 1) rfl rfl rfl (by kernel_rfl) rfl (hA.grown hg7 hne2) (by simp) rfl ?_
          intro w7 hA7 hg8
          have hbl7 : Below w1.heap.size w1 w7 := below_grownBy (below_grownBy hbl hbl.size hg7 (fun j e => by have := hoblt j e; omega)) (by have := hg7.size; have := hbl.size; omega) hg8 (by intro j e; injection e; omega)
          have ho7 := ho6.grown hg8 (by omega)
          have hD7 := hxx6.grown hg8 (by omega)
          have hB7 := (hB.grown hg7 hne).grown hg8 (by simp; omega)
          clear hg8
          refine hK.out _ _ ?_
          clear hK K
          try simp only [List.getElem_toArray, List.getElem_cons_zero, List.getElem_cons_succ, Act.put, List.setIfInBounds_toArray, List.set_cons_zero, List.set_cons_succ]
          refine pl_nil ?_
          go_wp2_with fail
          go_roundw
          case rel => exact ⟨k + 1, by omega, by go_num, _, _, hA7, hB7, by rw [Hn2.out]; exact ho7, by rw [Hn1.out]; exact hD7, (fun q hq hq2 => by
            rcases hloc' q hq with h | h
            · exact hdis q h hq2
            · have := (hob.own.lt q hq2).2; omega), hbl7⟩
          case measure => simp [intOf]; omega
      · have hkl : k = l.length := by omega
        rw [hkl, List.take_length] at hoo hob
        obtain ⟨oA, oc, rfl⟩ := hoo.form
        obtain ⟨bA, bc, rfl⟩ := hob.form
        obtain ⟨KT, hKT⟩ : ∃ K, Hid (l.take 4 = K) := ⟨_, rfl⟩
        obtain ⟨KD, hKD⟩ : ∃ K, Hid (l.drop 4 = K) := ⟨_, rfl⟩
        rw [hKT.out] at hob hB
        rw [hKD.out] at hoo hA
        have hlt4 : KT.length * 16 ≤ 140737488355328 := by rw [← hKT.out]; simp; omega
        have hld4 : KD.length * 16 ≤ 140737488355328 := by rw [← hKD.out]; simp; omega
        have hki : ¬ (k : Int) < l.length := by omega
        have hk2c := hk2.kept hbl
        have hk3c := hk3.kept hbl
        have hblc := hbl1.trans (hbl.mono hbl1.size)
        have a0 := hA.cell 0; have a1 := hA.cell 1; have b0 := hB.cell 0; have b1 := hB.cell 1; have b2 := hB.cell 2
        simp at a0 a1 b0 b1 b2
        have g1 := hk1c.cell 1
        simp at g1
        go_wp2_with fail
        refine wp_region_pl0 (fun w' => Below wr.heap.size wr w') (fun w' => wr.grownBy w' (some (w.heap.size + 1))) [3, 4] (.q 0 (.q 1 (.l 2 (.l 3 (.qc 4 .nil))))) (by kernel_rfl) (by kernel_rfl) (fun _ _ d _ _ h => by cases d <;> exact h) rfl (by kernel_rfl) ?_ ?_
        · exact ⟨below_drew _, grownBy_drew _ _⟩
        intro W hS0 hS1
        have hS := hS1
        repeat (first
          | (refine pl_q (by assumption) rfl rfl ?_; apply Exists.intro; refine ⟨fun w' hS => ?_, ?_⟩; (· (have hq := hA.grown hS (by simp; omega); have h0 := hq.cell 0; have h1 := hq.cell 1; have hq2 := hB.grown hS (by simp; omega); have h2 := hq2.cell 0; have h3 := hq2.cell 1; have h4 := hq2.cell 2; simp at h0 h1 h2 h3 h4; go_simp; exact rfl)); simp only [List.getElem_toArray, List.getElem_cons_zero, List.getElem_cons_succ, Act.put, List.setIfInBounds_toArray, List.set_cons_zero, List.set_cons_succ])
          | (refine pl_qc rfl rfl ?_; apply Exists.intro; refine ⟨fun w' _ => ?_, ?_⟩; (· (go_simp; exact rfl)); simp only [List.getElem_toArray, List.getElem_cons_zero, List.getElem_cons_succ, Act.put, List.setIfInBounds_toArray, List.set_cons_zero, List.set_cons_succ])
          | (refine pl_skip (by assumption) rfl rfl ?_; simp only [List.getElem_toArray, List.getElem_cons_zero, List.getElem_cons_succ, Act.put, List.setIfInBounds_toArray, List.set_cons_zero, List.set_cons_succ])
          | (refine pl_skipl (by assumption) rfl rfl ?_; simp only [List.getElem_toArray, List.getElem_cons_zero, List.getElem_cons_succ, Act.put, List.setIfInBounds_toArray, List.set_cons_zero, List.set_cons_succ]))
        first
          | refine pl_do rfl rfl (fun K hK => ?_)
          | refine op_do rfl rfl (fun K hK => ?_)
        try simp only [List.getElem_toArray, List.getElem_cons_zero, List.getElem_cons_succ]
        refine wp_store_whole (n := 2) rfl rfl rfl (by kernel_rfl) rfl (hk2c.kept hS0) rfl rfl ?_
        intro w3 hA3 hg3
        have hk33 := (hk3c.kept hS0).grown hg3 (by simp)
        refine hK.out _ _ (grownBy_trans (grownBy_below _ hS0) hg3) (fun hS => ?_)
        clear hK K
        try simp only [List.getElem_toArray, List.getElem_cons_zero, List.getElem_cons_succ, Act.put, List.setIfInBounds_toArray, List.set_cons_zero, List.set_cons_succ]
        repeat (first
          | (refine pl_q (by assumption) rfl rfl ?_; apply Exists.intro; refine ⟨fun w' hS => ?_, ?_⟩; (· (skip; go_simp; exact rfl)); simp only [List.getElem_toArray, List.getElem_cons_zero, List.getElem_cons_succ, Act.put, List.setIfInBounds_toArray, List.set_cons_zero, List.set_cons_succ])
          | (refine pl_qc rfl rfl ?_; apply Exists.intro; refine ⟨fun w' _ => ?_, ?_⟩; (· (go_simp; exact rfl)); simp only [List.getElem_toArray, List.getElem_cons_zero, List.getElem_cons_succ, Act.put, List.setIfInBounds_toArray, List.set_cons_zero, List.set_cons_succ])
          | (refine pl_skip (by assumption) rfl rfl ?_; simp only [List.getElem_toArray, List.getElem_cons_zero, List.getElem_cons_succ, Act.put, List.setIfInBounds_toArray, List.set_cons_zero, List.set_cons_succ])
          | (refine pl_skipl (by assumption) rfl rfl ?_; simp only [List.getElem_toArray, List.getElem_cons_zero, List.getElem_cons_succ, Act.put, List.setIfInBounds_toArray, List.set_cons_zero, List.set_cons_succ]))
        first
          | refine pl_close rfl rfl rfl (fun K hK => ?_)
          | refine op_close rfl rfl rfl (fun K hK => ?_)
        try simp only [List.getElem_toArray, List.getElem_cons_zero, List.getElem_cons_succ]
        refine wp_store_whole (n := 3) rfl rfl rfl (by kernel_rfl) rfl hk33 rfl rfl ?_
        intro w4 hB4 hg4
        have hA4 := hA3.grown hg4 (by simp)
        have hoo4 := ((hoo.kept hS0).grown hg3 (by omega)).grown hg4 (by omega)
        have hob4 := ((hob.kept hS0).grown hg3 (by omega)).grown hg4 (by omega)
        have hbl5 : Below w.heap.size w w4 := below_grownBy (below_grownBy (hblc.trans (hS0.mono hblc.size)) (by have := hblc.size; have := hS0.size; omega) hg3 (by intro k e; injection e; omega)) (by have := hblc.size; have := hS0.size; have := hg3.size; omega) hg4 (by intro k e; injection e; omega)
        refine hK.out _ _ ?_
        clear hK K
        try simp only [List.getElem_toArray, List.getElem_cons_zero, List.getElem_cons_succ, Act.put, List.setIfInBounds_toArray, List.set_cons_zero, List.set_cons_succ]
        repeat (first
          | (refine pl_q (by assumption) rfl rfl ?_; apply Exists.intro; refine ⟨fun w' hS => ?_, ?_⟩; (· (skip; go_simp; exact rfl)); simp only [List.getElem_toArray, List.getElem_cons_zero, List.getElem_cons_succ, Act.put, List.setIfInBounds_toArray, List.set_cons_zero, List.set_cons_succ])
          | (refine pl_qc rfl rfl ?_; apply Exists.intro; refine ⟨fun w' _ => ?_, ?_⟩; (· (go_simp; exact rfl)); simp only [List.getElem_toArray, List.getElem_cons_zero, List.getElem_cons_succ, Act.put, List.setIfInBounds_toArray, List.set_cons_zero, List.set_cons_succ])
          | (refine pl_skip (by assumption) rfl rfl ?_; simp only [List.getElem_toArray, List.getElem_cons_zero, List.getElem_cons_succ, Act.put, List.setIfInBounds_toArray, List.set_cons_zero, List.set_cons_succ])
          | (refine pl_skipl (by assumption) rfl rfl ?_; simp only [List.getElem_toArray, List.getElem_cons_zero, List.getElem_cons_succ, Act.put, List.setIfInBounds_toArray, List.set_cons_zero, List.set_cons_succ]))
        refine pl_nil ?_
        go_wp2
        refine bodyPost_ret (results_blk2_tmp rfl rfl rfl (by kernel_rfl) (by kernel_rfl) hA4 rfl (by kernel_rfl) (by kernel_rfl) hB4 rfl) rfl ?_
        refine ⟨.slice oA KD.length oc, .slice bA KT.length bc, ?_, hbl5, ?_, ?_⟩
        · rw [H1.out, H2.out, H3.out, HE2.out, if_neg (by decide), if_neg (by decide), if_neg (by decide), hnx1.out]
          rfl
        · rw [H4.out, HE2.out, if_neg (by decide), hKD.out]
          exact hoo4.reads hld4
        · rw [H5.out, HE2.out, if_neg (by decide), hKT.out]
          exact hob4.reads hlt4
  · have HE2 : Hid (E = F) := by show _ = _; rw [HE.out, if_pos hF0]
    go_upto_region 8 with (first | (go_at_call 34; refine (in_any _ _ _ _).mono ?_; rintro e w' ⟨rfl, rfl⟩) | fail)
    go_wp2_with (refine wpList_store_whole (n := 2) rfl rfl rfl rfl (by kernel_rfl) rfl hk2 rfl rfl ?_)
    intro w2 hA hg2
    have hk3 := hk3.grown hg2 (by simp)
    have hbl2 := below_grownBy hbl1 (hbl1).size hg2 (by intro k e; injection e; omega)
    go_wp2_with (refine wpList_store_whole (n := 3) rfl rfl rfl rfl (by kernel_rfl) rfl hk3 rfl rfl ?_)
    intro w3 hB hg3
    have hA := hA.grown hg3 (by simp)
    have hbl3 := below_grownBy hbl2 hbl2.size hg3 (by intro k e; injection e; omega)
    go_wp2
    refine bodyPost_ret (results_blk2_tmp rfl rfl rfl (by kernel_rfl) (by kernel_rfl) hA rfl (by kernel_rfl) (by kernel_rfl) hB rfl) rfl ?_
    exact Fin.out _ hF0 (HE2).out _ hbl3
end Go.Proofs.Ytelfbgfggkhpjaa
