/- seal.Add and the document's answer; the law SealAdds. -/
import Derived.Test.YtelfbgfggkhpjaaSign3
import Derived.Test.YtelfbgfggkhpjaaClone
import Derived.Test.YtelfbgfggkhpjaaChg2
namespace Go.Proofs.Ytelfbgfggkhpjaa
open Go.ChangeShapes Go.WideShapes Go.ChangeAt Go.RowKit
set_option linter.unusedVariables false
theorem wpList_store_blk {P : Program} {ops : Array Oper} {rest : List Oper} {o : Oper} {a : Act} {w : World} {Q : Exit → Act → World → Prop} {t te : TypeId} {x y : Operand} {g off n : Nat} {cs : Array Value} {v : Value} (hgd : o.guard = none)
    (ho : o.op = .store t x y) (hx : a.eval x = .pointer (some ⟨g, off, none⟩)) (hy : a.eval y = v) (hi : (P.info? t).map (·.size) = some n) (hn : v.cells.size = n) (hb : Blk w g te cs) (hfit : off + n ≤ cs.size) (h1 : (v.cells.toList.all fun u => u.oneCell') = true)
    (h : ∀ w', Blk w' g te (cs.toList.take off ++ (v.cells.toList ++ cs.toList.drop (off + n))).toArray → w.grownBy w' (some g) → wpList P ops Q rest (a.put o.dst undef) w') : wpList P ops Q (o :: rest) a w :=
  wpList_plain hgd fun _ hK => wp_store_blk ho hx hy hi hn hb hfit h1 fun w' h2 h3 => hK _ _ (h w' h2 h3)
set_option maxHeartbeats 1000000 in
set_option maxRecDepth 100000 in
theorem sealOwn_any (no au ro : Int) (d : Value) (ds : List UInt8) (w : World) (hd : RBytes w.cell? d ds) :
    Calls Try.prog 55 #[.agg #[.int .i64 no, .int .i64 au, .int .i64 ro, d]] w fun e w' => ∃ d', e = .returned (.agg #[.int .i64 no, .int .i64 au, .int .i64 ro, d']) ∧ Below w.heap.size w w' ∧ OwnB w' w.heap.size d' ds := by
  obtain ⟨A0, c0, rfl, _⟩ := id hd
  go_enter Try.func55, Try.ntmps55
  go_wp2_with fail
  refine two_blocks _ _ _ _ _ (fun W => Calls Try.prog _ _ W _) (fun W hb1 hb2 hsz hbl => ?_)
  refine (cloneB_any _ ds _ (hd.mono (vle_below hbl))).mono ?_
  rintro e w1 ⟨d', rfl, hk1, o1⟩
  obtain ⟨A1, c1, rfl⟩ := o1.form
  have hb1 := hb1.kept hk1
  have hb2 := hb2.kept hk1
  have hbl1 := hbl.trans (hk1.mono hbl.size)
  have hz1 := hk1.size
  go_wp2_with (refine wpList_store_blk (n := 1) rfl rfl rfl rfl (by kernel_rfl) rfl hb1 (by simp) rfl ?_)
  intro w2 hB2 hg2
  have hB2 : Blk w2 w.heap.size 47 #[.int .i64 no, .int .i64 au, .int .i64 ro, .slice A1 ds.length c1] := hB2
  have hb3 := hb2.grown hg2 (by simp)
  have o2 := o1.grown hg2 (by omega)
  have hbl2 := below_grownBy hbl1 (by omega) hg2 (by intro k e; injection e; omega)
  have g0 := hB2.cell 0; have g1 := hB2.cell 1; have g2 := hB2.cell 2; have g3 := hB2.cell 3
  simp at g0 g1 g2 g3
  go_wp2_with (refine wpList_store_whole (n := 4) rfl rfl rfl rfl (by kernel_rfl) rfl hb3 rfl rfl ?_)
  intro w3 hB3 hg3
  have o3 := o2.grown hg3 (by omega)
  have hz2 := hbl2.size
  have hbl3 := below_grownBy hbl2 hz2 hg3 (by intro k e; injection e; omega)
  go_wp2
  refine bodyPost_ret (results_blk rfl rfl (by kernel_rfl) (by kernel_rfl) hB3 rfl) rfl ?_
  exact ⟨_, rfl, hbl3, o3.base (by omega)⟩
def addE (l : List Sign) (s : Sign) : Int := if signsF l ≠ 0 then signsF l else signF s.node s.slot.author s.slot.round s.slot.digest.length
def addL (l : List Sign) (s : Sign) : List Sign := if addE l s ≠ 0 then [] else if hasSign l s then l else l ++ [s]
theorem RSl.nil {α : Type} (sz : Nat) (R : View → List Value → α → Prop) (bs : Nat) (h : View) : RSl sz R bs h (.slice none 0 0) [] := ⟨none, 0, rfl, Nat.le_refl _, Nat.zero_le _, by simp, fun _ => rfl, fun h => by simp at h⟩
set_option maxHeartbeats 2000000 in
set_option maxRecDepth 100000 in
theorem signAdded_any (v : Value) (l : List Sign) (s : Sign) (sd : Value) (w : World) (hv : RSigns w.cell? v l) (hsd : RBytes w.cell? sd s.slot.digest) (hl : (l.length + 1) * 48 ≤ 140737488355328) :
    Calls Try.prog 25 #[v, .agg #[.int .i64 s.node, .int .i64 s.slot.author, .int .i64 s.slot.round, sd]] w fun e w' => ∃ v', e = .returned (.tuple #[v', .int .i64 (addE l s)]) ∧ Below w.heap.size w w' ∧ RSigns w'.cell? v' (addL l s) := by
  have hdl : s.slot.digest.length * 1 ≤ 140737488355328 := by obtain ⟨_, _, _, _, _, h, _⟩ := hsd; exact h
  obtain ⟨sA, sc, rfl, _⟩ := id hsd
  obtain ⟨F, hF⟩ : ∃ F, Hid (signsF l = F) := ⟨_, rfl⟩
  obtain ⟨G, hG⟩ : ∃ G, Hid (signF s.node s.slot.author s.slot.round s.slot.digest.length = G) := ⟨_, rfl⟩
  obtain ⟨h, hh⟩ : ∃ h, Hid (hasSign l s = h) := ⟨_, rfl⟩
  have HE : Hid (addE l s = if F ≠ 0 then F else G) := by show _ = _; rw [addE, hF.out, hG.out]
  have HL : Hid (addL l s = if addE l s ≠ 0 then [] else if h then l else l ++ [s]) := by show _ = _; rw [addL, hh.out]
  generalize addE l s = E at HE HL ⊢
  generalize addL l s = L at HL ⊢
  have Hl := Lib.hid hl
  clear hl
  go_enter Try.func25, Try.ntmps25
  go_wp2_with fail
  refine one_block _ _ _ (fun W => Calls Try.prog _ _ W _) (fun W hk1 hsz hbl => ?_)
  refine (signsFault_any v l _ (hv.mono RSign.mono (vle_below hbl))).mono ?_
  rintro e w1 ⟨rfl, hb1⟩
  rw [hF.out]
  have hbl1 := hbl.trans (hb1.mono hbl.size)
  have hk1 := hk1.kept hb1
  clear hbl hb1
  by_cases hF0 : F = 0
  · subst hF0
    have HE' : Hid (E = G) := by show _ = _; rw [HE.out]; rfl
    clear HE
    have g0 := hk1.cell 0; have g1 := hk1.cell 1; have g2 := hk1.cell 2; have g3 := hk1.cell 3
    simp at g0 g1 g2 g3
    go_wp2_with fail
    refine (signFault_any _ _ _ _ _ _ _).mono ?_
    rintro e w2 ⟨rfl, hb2⟩
    rw [hG.out]
    have hbl2 := hbl1.trans (hb2.mono hbl1.size)
    have hk2 := hk1.kept hb2
    clear hbl1 hk1 hb2 g0 g1 g2 g3
    by_cases hG0 : G = 0
    · subst hG0
      have HL' : Hid (L = if h then l else l ++ [s]) := by show _ = _; rw [HL.out, HE'.out]; rfl
      clear HL
      go_wp2_with fail
      refine (signsCopy_any v l _ (hv.mono RSign.mono (vle_below hbl2))).mono ?_
      rintro e w3 ⟨v3, rfl, hb3, ho3⟩
      have hbl3 := hbl2.trans (hb3.mono hbl2.size)
      have hk3 := hk2.kept hb3
      have g0 := hk3.cell 0; have g1 := hk3.cell 1; have g2 := hk3.cell 2; have g3 := hk3.cell 3
      simp at g0 g1 g2 g3
      go_wp2_with fail
      refine (hasSign_any v l s _ _ (hv.mono RSign.mono (vle_below hbl3)) (hsd.mono (vle_below hbl3))).mono ?_
      rintro e w4 ⟨rfl, hb4⟩
      rw [hh.out]
      have hbl4 := hbl3.trans (hb4.mono hbl3.size)
      have hk4 := hk3.kept hb4
      have ho4 := ho3.kept RSign.mono hb4
      clear g0 g1 g2 g3 hk2 hk3 ho3 hbl3
      cases h
      · have HL : Hid (L = l ++ [s]) := HL'.out
        clear HL'
        have g0 := hk4.cell 0; have g1 := hk4.cell 1; have g2 := hk4.cell 2; have g3 := hk4.cell 3
        simp at g0 g1 g2 g3
        go_wp2_with fail
        refine (signCopy_any _ _ _ _ _ _ (hsd.mono (vle_below hbl4))).mono ?_
        rintro e w5 ⟨d', rfl, hb5, o5⟩
        have ho5 := ho4.kept RSign.mono hb5
        have hbl5 := hbl4.trans (hb5.mono hbl4.size)
        have hz4 := hbl4.size
        have hR : RSign (View.but w5.cell? v3.ownBlock) [.int .i64 s.node, .int .i64 s.slot.author, .int .i64 s.slot.round, d'] s :=
          ⟨d', rfl, o5.reads_but hdl (fun g hg => (ho4.lt g hg).2)⟩
        obtain ⟨A', c', rfl⟩ := o5.form
        have hz5 := hbl5.size
        have hz3 := hb3.size; have hz34 := hb4.size; have hz45 := hb5.size
        go_wp2_with (at_builtin; go_loud (refine wpList_append_sl1 (n := 140737488355328) (W := w2) RSign.mono s [.int .i64 s.node, .int .i64 s.slot.author, .int .i64 s.slot.round, .slice A' s.slot.digest.length c'] elemSign _ _ rfl rfl rfl ho5 ((hb3.trans (hb4.mono hz3)).trans (hb5.mono (by omega))) (by omega) rfl rfl rfl rfl hR (Nat.le_refl _) Hl.out (by have := Hl.out; omega) ?_))
        intro v' w6 ho6 hbl6 _
        have hr6 := ho6.reads (bs := 48) RSign.mono (by simpa using Hl.out)
        have hbl7 : Below w.heap.size w w6 := hbl2.trans (hbl6.mono hbl2.size)
        go_wp2
        go_ret2
        exact ⟨_, by rw [HE'.out]; rfl, hbl7, by rw [HL.out]; exact hr6⟩
      · have HL : Hid (L = l) := HL'.out
        clear HL'
        have hr := ho4.reads (bs := 48) RSign.mono (by have := Hl.out; omega)
        go_wp2
        go_ret2
        exact ⟨_, by rw [HE'.out]; rfl, hbl4, by rw [HL.out]; exact hr⟩
    · have HL' : Hid (L = []) := by show _ = _; rw [HL.out, if_pos (by rw [HE'.out]; exact hG0)]
      clear HL
      go_wp2
      go_ret2
      exact ⟨_, by rw [HE'.out]; rfl, hbl2, by rw [HL'.out]; exact RSl.nil _ _ _ _⟩
  · have HE' : Hid (E = F) := by show _ = _; rw [HE.out, if_pos hF0]
    have HL' : Hid (L = []) := by show _ = _; rw [HL.out, if_pos (by rw [HE'.out]; exact hF0)]
    clear HL HE
    go_wp2
    go_ret2
    exact ⟨_, by rw [HE'.out]; rfl, hbl1, by rw [HL'.out]; exact RSl.nil _ _ _ _⟩
end Go.Proofs.Ytelfbgfggkhpjaa
