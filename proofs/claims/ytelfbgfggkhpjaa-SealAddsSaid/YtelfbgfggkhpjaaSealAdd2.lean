/- seal.Add; are two rows of signs the same? -/
import Derived.Test.YtelfbgfggkhpjaaSealAdd
namespace Go.Proofs.Ytelfbgfggkhpjaa
open Go.ChangeShapes Go.WideShapes Go.ChangeAt Go.RowKit
set_option linter.unusedVariables false
set_option maxHeartbeats 2000000 in
set_option maxRecDepth 100000 in
theorem sealAdd_any (v : Value) (l : List Sign) (s : Sign) (sd : Value) (w : World) (hv : RSigns w.cell? v l) (hsd : RBytes w.cell? sd s.slot.digest) (hl : (l.length + 1) * 48 ≤ 140737488355328) :
    Calls Try.prog 24 #[v, .agg #[.int .i64 s.node, .int .i64 s.slot.author, .int .i64 s.slot.round, sd]] w fun e w' => ∃ v', e = .returned (.tuple #[v', .int .i64 (addE l s)]) ∧ Below w.heap.size w w' ∧ RSigns w'.cell? v' (addL l s) := by
  have hdl : s.slot.digest.length * 1 ≤ 140737488355328 := by obtain ⟨_, _, _, _, _, h, _⟩ := hsd; exact h
  obtain ⟨sA, sc, rfl, _⟩ := id hsd
  obtain ⟨A, c, rfl, _⟩ := id hv
  obtain ⟨_, hcap, hlen, hel⟩ := hv.at
  have Hel := Lib.hid hel
  clear hel
  obtain ⟨F, hF⟩ : ∃ F, Hid (signsF l = F) := ⟨_, rfl⟩
  obtain ⟨G, hG⟩ : ∃ G, Hid (signF s.node s.slot.author s.slot.round s.slot.digest.length = G) := ⟨_, rfl⟩
  obtain ⟨h, hh⟩ : ∃ h, Hid (hasSign l s = h) := ⟨_, rfl⟩
  have HE : Hid (addE l s = if F ≠ 0 then F else G) := by show _ = _; rw [addE, hF.out, hG.out]
  have HL : Hid (addL l s = if addE l s ≠ 0 then [] else if h then l else l ++ [s]) := by show _ = _; rw [addL, hh.out]
  generalize addE l s = E at HE HL ⊢
  generalize addL l s = L at HL ⊢
  have Hl := Lib.hid hl
  clear hl
  go_enter Try.func24, Try.ntmps24
  go_wp2_with fail
  refine one_block _ _ _ (fun W => Calls Try.prog _ _ W _) (fun W hk1 hsz hbl => ?_)
  refine (sealCheck_any _ l _ (hv.mono RSign.mono (vle_below hbl))).mono ?_
  rintro e w1 ⟨rfl, hb1⟩
  rw [hF.out]
  have hbl1 := hbl.trans (hb1.mono hbl.size)
  have hk1 := hk1.kept hb1
  clear hbl hb1
  by_cases hF0 : F = 0
  · subst hF0
    have HE' : Hid (E = G) := by show _ = _; rw [HE.out]; rfl
    clear HE
    have g0 := hk1.cell 0; have g1 := hk1.cell 1; have g2 := hk1.cell 2; have g3 := hk1.cell 3
    simp at g0 g1 g2 g3
    go_wp2_with fail
    refine (sealSign_any _ _ _ _ _ _ _).mono ?_
    rintro e w2 ⟨rfl, hb2⟩
    rw [hG.out]
    have hbl2 := hbl1.trans (hb2.mono hbl1.size)
    have hk2 := hk1.kept hb2
    clear hbl1 hk1 hb2 g0 g1 g2 g3
    by_cases hG0 : G = 0
    · subst hG0
      have HL' : Hid (L = if h then l else l ++ [s]) := by show _ = _; rw [HL.out, HE'.out]; rfl
      clear HL
      have hz2 := hbl2.size
      go_wp2
      go_loopw [8, 23] (fun v i wr => ∃ k : Nat, k ≤ l.length ∧ i = .int .i64 k ∧ OwnSigns wr w2.heap.size v (l.take k) ∧ Below w2.heap.size w2 wr) (fun _ i _ => l.length - (intOf i).toNat)
      case atStart => exact ⟨0, Nat.zero_le _, rfl, OwnSl.nil _ _ _ _ _, Below.refl _ _⟩
      case round =>
        obtain ⟨k, hk, rfl, hown, hbl⟩ := hrel
        have hbs := hbl.size
        by_cases hlt : k < l.length
        · obtain ⟨b0, o0, d, rfl, e0, e1, e2, e3, hd⟩ := Hel.out k hlt
          obtain ⟨dA, dc, rfl, _⟩ := id hd
          have hb02 := hbl2.trans (hbl.mono hz2)
          have c0 := vle_below hb02 _ _ e0
          have c1 := vle_below hb02 _ _ e1
          have c2 := vle_below hb02 _ _ e2
          have c3 := vle_below hb02 _ _ e3
          have Hlk := Lib.hid (show (l.take k).length = k by simp; omega)
          have hdl2 := Lib.hid (show l[k].slot.digest.length * 1 ≤ 140737488355328 by obtain ⟨_, _, _, _, _, h, _⟩ := hd; exact h)
          clear e0 e1 e2 e3
          go_wp2_with (refine wpList_store_whole (n := 4) rfl rfl rfl rfl (by kernel_rfl) rfl (Blk.new _ _ _) rfl rfl ?_)
          intro w3 hB3 hg3
          have hbl3 : Below wr.heap.size wr w3 := below_grownBy (below_one _ _) (le_alloc _ (Nat.le_refl _)) hg3 (by intro k e; injection e; omega)
          have hown3 := hown.kept RSign.mono hbl3
          have q0 := hB3.cell 0; have q1 := hB3.cell 1; have q2 := hB3.cell 2; have q3 := hB3.cell 3
          simp at q0 q1 q2 q3
          have hz3 := hbl3.size
          clear c0 c1 c2 c3 hg3
          go_wp2_with fail
          refine (sealOwn_any _ _ _ _ _ _ (hd.mono (vle_below (hb02.trans (hbl3.mono (by omega)))))).mono ?_
          rintro e w4 ⟨d', rfl, hb4, o4⟩
          have hown4 := hown3.kept RSign.mono hb4
          have hR : RSign (View.but w4.cell? u8.ownBlock) [.int .i64 l[k].node, .int .i64 l[k].slot.author, .int .i64 l[k].slot.round, d'] l[k] :=
            ⟨d', rfl, o4.reads_but hdl2.out (fun g hg => by have := (hown3.lt g hg).2; omega)⟩
          obtain ⟨A', c', rfl⟩ := o4.form
          have hz4 := hb4.size
          have hbl4 : Below w2.heap.size w2 w4 := (hbl.trans (hbl3.mono hbs)).trans (hb4.mono (by omega))
          clear q0 q1 q2 q3 hd
          go_wp2_with (at_builtin; go_loud (refine wpList_append_sl1 (n := 140737488355328) RSign.mono l[k] [.int .i64 l[k].node, .int .i64 l[k].slot.author, .int .i64 l[k].slot.round, .slice A' l[k].slot.digest.length c'] elemSign _ _ rfl rfl rfl hown4 hbl4 (by omega) rfl rfl rfl rfl hR (Nat.le_refl _) (by rw [Hlk.out]; have := Hl.out; omega) (by rw [Hlk.out]; have := Hl.out; omega) ?_))
          intro v' w5 ho5 hbl5 _
          have ho' : OwnSigns w5 w2.heap.size v' (l.take (k + 1)) := by first | exact ho5 | (rw [List.take_succ_eq_append_getElem hlt]; exact ho5)
          clear ho5 hown hown3 hown4
          go_wp2
          go_roundw
          case rel => exact ⟨k + 1, by omega, by go_num, ho', hbl5⟩
          case measure => simp [intOf]; omega
        · have hkl : k = l.length := by omega
          rw [hkl, List.take_length] at hown
          have hbl3 := hbl2.trans (hbl.mono hz2)
          have hk3 := hk2.kept hbl
          have g0 := hk3.cell 0; have g1 := hk3.cell 1; have g2 := hk3.cell 2; have g3 := hk3.cell 3
          simp at g0 g1 g2 g3
          go_wp2_with fail
          refine (sealHas_any _ l s _ _ (hv.mono RSign.mono (vle_below hbl3)) (hsd.mono (vle_below hbl3))).mono ?_
          rintro e w4 ⟨rfl, hb4⟩
          rw [hh.out]
          have hbl4 := hbl3.trans (hb4.mono hbl3.size)
          have hk4 := hk3.kept hb4
          have ho4 := hown.kept RSign.mono hb4
          have hb24 := hbl.trans (hb4.mono hbs)
          clear g0 g1 g2 g3 hk2 hk3 hbl3
          cases h
          · have HL : Hid (L = l ++ [s]) := HL'.out
            clear HL'
            have g0 := hk4.cell 0; have g1 := hk4.cell 1; have g2 := hk4.cell 2; have g3 := hk4.cell 3
            simp at g0 g1 g2 g3
            go_wp2_with fail
            refine (sealOwn_any _ _ _ _ _ _ (hsd.mono (vle_below hbl4))).mono ?_
            rintro e w5 ⟨d', rfl, hb5, o5⟩
            have ho5 := ho4.kept RSign.mono hb5
            have hbl5 := hbl4.trans (hb5.mono hbl4.size)
            have hR : RSign (View.but w5.cell? u8.ownBlock) [.int .i64 s.node, .int .i64 s.slot.author, .int .i64 s.slot.round, d'] s :=
              ⟨d', rfl, o5.reads_but hdl (fun g hg => (ho4.lt g hg).2)⟩
            obtain ⟨A', c', rfl⟩ := o5.form
            have hz5 := hb24.size
            have hz45 := hb5.size
            go_wp2_with (at_builtin; go_loud (refine wpList_append_sl1 (n := 140737488355328) (W := w2) RSign.mono s [.int .i64 s.node, .int .i64 s.slot.author, .int .i64 s.slot.round, .slice A' s.slot.digest.length c'] elemSign _ _ rfl rfl rfl ho5 (hb24.trans (hb5.mono hz5)) (by omega) rfl rfl rfl rfl hR (Nat.le_refl _) Hl.out (by have := Hl.out; omega) ?_))
            intro v' w6 ho6 hbl6 _
            have hr6 := ho6.reads (bs := 48) RSign.mono (by simpa using Hl.out)
            have hbl7 : Below w.heap.size w w6 := hbl2.trans (hbl6.mono hbl2.size)
            go_wp2
            go_ret2
            exact ⟨_, by rw [HE'.out]; rfl, hbl7, by rw [HL.out]; exact hr6⟩
          · have HL : Hid (L = l) := HL'.out
            clear HL'
            have hr := ho4.reads (bs := 48) RSign.mono (by have := Hl.out; omega)
            go_wp2
            go_ret2
            exact ⟨_, by rw [HE'.out]; rfl, hbl4, by rw [HL.out]; exact hr⟩
    · have HL' : Hid (L = []) := by show _ = _; rw [HL.out, if_pos (by rw [HE'.out]; exact hG0)]
      clear HL
      go_wp2
      go_ret2
      exact ⟨_, by rw [HE'.out]; rfl, hbl2, by rw [HL'.out]; exact RSl.nil _ _ _ _⟩
  · have HE' : Hid (E = F) := by show _ = _; rw [HE.out, if_pos hF0]
    have HL' : Hid (L = []) := by show _ = _; rw [HL.out, if_pos (by rw [HE'.out]; exact hF0)]
    clear HL HE
    go_wp2
    go_ret2
    exact ⟨_, by rw [HE'.out]; rfl, hbl1, by rw [HL'.out]; exact RSl.nil _ _ _ _⟩
theorem below2 (w : World) (o1 o2 : Obj) : Below w.heap.size w ((w.alloc o1).alloc o2) := ((Below.refl _ _).alloc (Nat.le_refl _) _).alloc (le_alloc _ (Nat.le_refl _)) _
set_option maxHeartbeats 1000000 in
set_option maxRecDepth 100000 in
theorem sameSlot_same (a r : Int) (va vb : Value) (d : List UInt8) (w : World) (ha : RBytes w.cell? va d) (hb : RBytes w.cell? vb d) :
    Calls Try.prog 56 #[.agg #[.int .i64 a, .int .i64 r, va], .agg #[.int .i64 a, .int .i64 r, vb]] w fun e w' => e = .returned (.bool true) ∧ Below w.heap.size w w' := by
  have hw := below2 w (.cells #[.int .i64 a, .int .i64 r, va] 45) (.cells #[.int .i64 a, .int .i64 r, vb] 45)
  have ga := run_toStr (ha.mono (vle_below hw))
  have gb := run_toStr (hb.mono (vle_below hw))
  clear ha hb
  go_enter Try.func56, Try.ntmps56
  go_wp2
  go_ret
  exact ⟨rfl, hw⟩
set_option maxHeartbeats 2000000 in
set_option maxRecDepth 100000 in
theorem sameSigns_same (va vb : Value) (l : List Sign) (w : World) (ha : RSigns w.cell? va l) (hb : RSigns w.cell? vb l) :
    Calls Try.prog 26 #[va, vb] w fun e w' => e = .returned (.bool true) ∧ Below w.heap.size w w' := by
  obtain ⟨A, c, rfl, _⟩ := id ha
  obtain ⟨B, d, rfl, _⟩ := id hb
  obtain ⟨_, _, hlen, hel⟩ := ha.at
  obtain ⟨_, _, _, hel2⟩ := hb.at
  have Hel := Lib.hid hel
  have Hel2 := Lib.hid hel2
  clear hel hel2 ha hb
  go_enter Try.func26, Try.ntmps26
  go_wp2
  go_loopw [5] (fun i wr => ∃ k : Nat, k ≤ l.length ∧ i = .int .i64 k ∧ Below w.heap.size w wr) (fun i _ => l.length - (intOf i).toNat)
  case atStart => exact ⟨0, Nat.zero_le _, rfl, Below.refl _ _⟩
  case round =>
    obtain ⟨k, hk, rfl, hbl⟩ := hrel
    have hbs := hbl.size
    by_cases hlt : k < l.length
    · obtain ⟨b0, o0, d0, rfl, e0, e1, e2, e3, hd⟩ := Hel.out k hlt
      obtain ⟨b1, o1, d1, rfl, f0, f1, f2, f3, hd1⟩ := Hel2.out k hlt
      have c0 := vle_below hbl _ _ e0; have c1 := vle_below hbl _ _ e1; have c2 := vle_below hbl _ _ e2; have c3 := vle_below hbl _ _ e3
      have g0 := vle_below hbl _ _ f0; have g1 := vle_below hbl _ _ f1; have g2 := vle_below hbl _ _ f2; have g3 := vle_below hbl _ _ f3
      clear e0 e1 e2 e3 f0 f1 f2 f3
      go_wp2
      refine wp_region_pl (fun w' => Below wr.heap.size wr w') [] (.q 0 (.q 1 (.q 2 (.q 3 (.q 4 (.q 5 (.q 6 (.q 7 (.q 8 (.q 9 (.q 10 (.q 11 (.q 12 (.q 13 (.q 14 (.q 15 (.q 16 (.q 17 (.q 18 (.q 19 (.q 20 (.q 21 (.l 22 (.q 23 (.q 24 .nil))))))))))))))))))))))))) (by kernel_rfl) (by kernel_rfl) (fun _ _ d _ _ h => by cases d <;> exact h) rfl (by kernel_rfl) ?_ ?_
      · exact below_drew _
      intro W hS
      repeat (first
        | (refine pl_q (by assumption) rfl rfl ?_; apply Exists.intro; refine ⟨fun w' hS => ?_, ?_⟩; (· (have q := vle_below hS; have a0 := q _ _ c0; have a1 := q _ _ c1; have a2 := q _ _ c2; have a3 := q _ _ c3; have b0 := q _ _ g0; have b1 := q _ _ g1; have b2 := q _ _ g2; have b3 := q _ _ g3; go_simp; exact rfl)); simp only [List.getElem_toArray, List.getElem_cons_zero, List.getElem_cons_succ, Act.put, List.setIfInBounds_toArray, List.set_cons_zero, List.set_cons_succ])
        | (refine pl_qc rfl rfl ?_; apply Exists.intro; refine ⟨fun w' _ => ?_, ?_⟩; (· (go_simp; exact rfl)); simp only [List.getElem_toArray, List.getElem_cons_zero, List.getElem_cons_succ, Act.put, List.setIfInBounds_toArray, List.set_cons_zero, List.set_cons_succ])
        | (refine pl_skip (by assumption) rfl rfl ?_; simp only [List.getElem_toArray, List.getElem_cons_zero, List.getElem_cons_succ, Act.put, List.setIfInBounds_toArray, List.set_cons_zero, List.set_cons_succ])
        | (refine pl_skipl (by assumption) rfl rfl ?_; simp only [List.getElem_toArray, List.getElem_cons_zero, List.getElem_cons_succ, Act.put, List.setIfInBounds_toArray, List.set_cons_zero, List.set_cons_succ]))
      first
        | refine pl_do rfl rfl (fun K hK => ?_)
        | refine op_do rfl rfl (fun K hK => ?_)
      try simp only [List.getElem_toArray, List.getElem_cons_zero, List.getElem_cons_succ]
      go_simp
      have hb2 := hbl.trans (hS.mono hbs)
      refine (sameSlot_same _ _ _ _ _ _ (hd.mono (vle_below hb2)) (hd1.mono (vle_below hb2))).mono ?_
      rintro e w2 ⟨rfl, hb3⟩
      refine hK.out _ _ (hS.trans (hb3.mono hS.size)) (fun hS => ?_)
      clear hK K
      try simp only [List.getElem_toArray, List.getElem_cons_zero, List.getElem_cons_succ, Act.put, List.setIfInBounds_toArray, List.set_cons_zero, List.set_cons_succ]
      repeat (first
        | (refine pl_q (by assumption) rfl rfl ?_; apply Exists.intro; refine ⟨fun w' hS => ?_, ?_⟩; (· (skip; go_simp; exact rfl)); simp only [List.getElem_toArray, List.getElem_cons_zero, List.getElem_cons_succ, Act.put, List.setIfInBounds_toArray, List.set_cons_zero, List.set_cons_succ])
        | (refine pl_qc rfl rfl ?_; apply Exists.intro; refine ⟨fun w' _ => ?_, ?_⟩; (· (go_simp; exact rfl)); simp only [List.getElem_toArray, List.getElem_cons_zero, List.getElem_cons_succ, Act.put, List.setIfInBounds_toArray, List.set_cons_zero, List.set_cons_succ])
        | (refine pl_skip (by assumption) rfl rfl ?_; simp only [List.getElem_toArray, List.getElem_cons_zero, List.getElem_cons_succ, Act.put, List.setIfInBounds_toArray, List.set_cons_zero, List.set_cons_succ])
        | (refine pl_skipl (by assumption) rfl rfl ?_; simp only [List.getElem_toArray, List.getElem_cons_zero, List.getElem_cons_succ, Act.put, List.setIfInBounds_toArray, List.set_cons_zero, List.set_cons_succ]))
      refine pl_nil ?_
      go_wp2
      go_roundw
      case rel => exact ⟨k + 1, by omega, by go_num, hbl.trans (hS.mono hbs)⟩
      case measure => simp [intOf]; omega
    · go_wp2
      go_ret
      exact ⟨rfl, hbl⟩
end Go.Proofs.Ytelfbgfggkhpjaa
