/- pool.Add: a region whose clone and whose new block come up in either order. -/
import Derived.Test.YtegcimjmgagpnaaPool2
import Derived.Test.YtegcimjmgagpnaaPlan2
namespace Go.Proofs.Ytegcimjmgagpnaa
open Go.ChangeShapes Go.WideShapes Go.ChangeAt Go.RowKit
set_option linter.unusedVariables false
theorem RVec.one {α : Type} {enc : α → Value} {bs : Nat} {h : View} {g : Nat} (x : α) (hc : h ⟨g, 0, none⟩ = some (enc x)) (hb : bs ≤ 140737488355328) : RVec enc bs h (.slice (some ⟨g, 0, none⟩) 1 1) [x] :=
  ⟨_, 1, rfl, Nat.le_refl _, by decide, by simpa using hb, (fun h => by cases h), fun _ => ⟨g, 0, rfl, fun i hi => by
    have : i = 0 := by simpa using hi
    subst this; simpa using hc⟩⟩
theorem wp_append_vec {α : Type} {enc : α → Value} {P : Program} {wr : World} {o : Oper} {a : Act} {K : Act → World → Prop} {Q : Exit → Act → World → Prop} {t e : TypeId} {bytes base n : Nat} {v vy : Value} {xs ys : List α} {W : World}
    (hE : Elem1 P t e bytes) (h1 : ∀ x : α, (enc x).oneCell' = true) (s y : Operand)
    (ho : o.op = .call { callee := .builtin .append, args := #[s, y], argTypes := #[t, t] })
    (hs : a.eval s = v) (hown : OwnVec enc e wr base v xs) (hbl : Below base W wr) (hbase : base ≤ wr.heap.size)
    (hx : a.eval y = vy) (hy : RVec enc bytes wr.cell? vy ys) (hc : n ≤ 140737488355328) (hn : (xs.length + ys.length) * bytes ≤ n) (hn' : xs.length + ys.length ≤ n)
    (h : ∀ v' w', OwnVec enc e w' base v' (xs ++ ys) → Below base W w' → K (a.put o.dst v') w') : o.wp P a wr K Q := by
  obtain ⟨ht, i, z, hi, hz0, hz1, hz2, hzs⟩ := hE
  obtain ⟨A, c, rfl, _⟩ := id hy
  obtain ⟨_, _, _, hl, hA, hcell⟩ := hy.src
  refine wp_append_any s y t ho base e i z 1 bytes ht hi hz0 hz1 hz2 hzs (by decide) v xs.length _ hs hown.own A ys.length c (ys.map enc) hx hl hA hcell (fun u hu => by obtain ⟨x, _, rfl⟩ := List.mem_map.1 hu; exact h1 x) (le_maxLen (Nat.le_trans hn' hc)) (Nat.le_trans hn hc) hbase (fun v' w' ho hg => h v' w' ⟨?_⟩ (hbl.grown hg hbase (fun g hg => (hown.own.lt g hg).1)))
  simpa using ho
def addF (next : Int) (l : List ByteArray) (s : ByteArray) : Int := if poolF next l ≠ 0 then poolF next l else if txOk s then (if hasText l s then 7 else if 40 ≤ l.length then 6 else 0) else 1
set_option maxHeartbeats 2000000 in
set_option maxRecDepth 100000 in
theorem poolAdd_ok (next : Int) (v : Value) (l : List ByteArray) (s : ByteArray) (w : World) (hv : RTexts w.cell? v l) (hs : ∀ s ∈ l, s.size ≤ 140737488355328) (hss : s.size ≤ 140737488355328) (hf0 : poolF next l = 0) (htx : txOk s = true) (hht : hasText l s = false) (h40 : l.length < 40) :
    Calls Try.prog 40 #[.agg #[.int .i64 next, v], .string s] w fun e w' => ∃ d, e = .returned (.tuple #[.agg #[.int .i64 next, d], .int .i64 0]) ∧ Below w.heap.size w w' ∧ OwnS w' w.heap.size d (l ++ [s]) := by
  obtain ⟨A, c, rfl, hlen, hel⟩ := hv.form
  clear hel
  go_enter Try.func40, Try.ntmps40
  go_wp2_with fail
  refine two_blocks _ _ _ _ _ (fun W => Calls _ _ _ W _) (fun W hb1 hb2 hsz hbl => ?_)
  refine (poolCheck_any next _ l _ (hv.mono (vle_below hbl)) hs).mono ?_
  rintro e w1 ⟨rfl, hbt⟩
  rw [hf0]
  replace hb1 := hb1.kept hbt
  replace hb2 := hb2.kept hbt
  replace hbl := hbl.trans (hbt.mono (by omega))
  have hd1 := hv.below_but hbl (Nat.le_succ _)
  have hsz1 := hbt.size
  have g0 := hb1.cell 0
  have g1 := hb1.cell 1
  simp at g0 g1
  have Hv1 := Lib.hid (hv.mono (vle_below hbl))
  clear hbt
  go_wp2_with fail
  refine (tx_any s _ hss).mono ?_
  rintro e w' ⟨rfl, rfl⟩
  rw [htx]
  go_wp2_with fail
  refine (containsText_any _ l s _ Hv1.out).mono ?_
  rintro e w' ⟨rfl, rfl⟩
  rw [hht]
  go_wp2
  refine wp_region_tree (fun w' => w1.grownBy w' (some (w.heap.size + 1)) ∧ ∃ cs, Blk w' (w.heap.size + 1) 38 cs ∧ cs.size = 2) (.alt [(0, true), (1, true), (2, true), (3, true), (5, true)] 4 6 (.done [(6, false), (7, false), (8, true), (9, false), (10, true)]) (.done [(4, false), (7, false), (8, true), (9, false), (10, true)])) (by kernel_rfl) (by kernel_rfl) (fun _ _ d _ _ h => by cases d <;> exact h) rfl (by kernel_rfl) ?_ ?_
  · exact ⟨grownBy_drew _ _, _, hb2, rfl⟩
  intro W1 hS1
  simp only [PT.wp]
  repeat (first
    | (refine wpPlanK_takes rfl rfl ?_; apply Exists.intro; refine ⟨fun w' hS => ?_, ?_⟩; (· (have hq := hb1.grown hS.1 (by simp); have h0 := hq.cell 0; have h1 := hq.cell 1; simp at h0 h1; go_simp; exact rfl)); simp only [List.getElem_toArray, List.getElem_cons_zero, List.getElem_cons_succ, Act.put, List.setIfInBounds_toArray, List.set_cons_zero, List.set_cons_succ])
    | (refine wpPlanK_skip (by assumption) rfl rfl ?_; simp only [List.getElem_toArray, List.getElem_cons_zero, List.getElem_cons_succ, Act.put, List.setIfInBounds_toArray, List.set_cons_zero, List.set_cons_succ]))
  refine wpPlanK_nil ⟨?_, ?_⟩
  · first
      | refine wpPlanK_do rfl rfl (fun K hK => ?_)
      | refine wpOp_do rfl rfl (fun K hK => ?_)
    try simp only [List.getElem_toArray, List.getElem_cons_zero, List.getElem_cons_succ]
    go_simp
    obtain ⟨hg1, cs, hc, hcs⟩ := hS1
    refine (cloneS_any _ l _ (hd1.mono (vle_grown hg1))).mono ?_
    rintro e w2 ⟨d', rfl, hj, hown⟩
    obtain ⟨A', c', rfl⟩ := hown.form
    have hz1 := hg1.size
    have hz2 := hj.size
    have hg2 := grownBy_trans hg1 (grownBy_below _ hj)
    have hc2 := hc.kept hj
    refine hK.out _ _ (⟨hg2, _, hc2, hcs⟩) (fun hS => ?_)
    clear hK K
    try simp only [PT.wp, List.getElem_toArray, List.getElem_cons_zero, List.getElem_cons_succ, Act.put, List.setIfInBounds_toArray, List.set_cons_zero, List.set_cons_succ]
    clear hS
    first
      | refine wpPlanK_do rfl rfl (fun K hK => ?_)
      | refine wpOp_do rfl rfl (fun K hK => ?_)
    try simp only [List.getElem_toArray, List.getElem_cons_zero, List.getElem_cons_succ]
    go_simp
    have hn := Blk.new w2 9 #[.string s]
    have hb3 := below_one w2 (.cells #[.string s] 9)
    have hown3 := hown.kept hb3
    have hj3 := hj.trans (hb3.mono (by omega))
    have hn0 : (w2.alloc (.cells #[.string s] 9)).cell? ⟨w2.heap.size, 0, none⟩ = some (encS s) := hn.cell 0
    refine hK.out _ _ (⟨grownBy_trans hg2 (grownBy_below _ hb3), _, hc2.kept hb3, hcs⟩) (fun hS => ?_)
    clear hK K
    try simp only [PT.wp, List.getElem_toArray, List.getElem_cons_zero, List.getElem_cons_succ, Act.put, List.setIfInBounds_toArray, List.set_cons_zero, List.set_cons_succ]
    clear hS
    first
      | refine wpPlanK_do rfl rfl (fun K hK => ?_)
      | refine wpOp_do rfl rfl (fun K hK => ?_)
    try simp only [List.getElem_toArray, List.getElem_cons_zero, List.getElem_cons_succ]
    refine wp_append_vec (n := 140737488355328) (ys := [s]) elemStr encS_one _ _ rfl rfl hown3 hj3 (by simp; omega) rfl (RVec.one s hn0 (by decide)) (Nat.le_refl _) (by simp; omega) (by simp; omega) (fun v4 w4 hown4 hj4 => ?_)
    obtain ⟨A4, c4, rfl⟩ := hown4.form
    have hg4 := grownBy_trans hg1 (grownBy_below _ hj4)
    have hc4 := hc.kept hj4
    have hz4 := hj4.size
    refine hK.out _ _ (⟨hg4, _, hc4, hcs⟩) (fun hS => ?_)
    clear hK K
    try simp only [PT.wp, List.getElem_toArray, List.getElem_cons_zero, List.getElem_cons_succ, Act.put, List.setIfInBounds_toArray, List.set_cons_zero, List.set_cons_succ]
    clear hS
    repeat (first
      | (refine wpPlanK_takes rfl rfl ?_; apply Exists.intro; refine ⟨fun w' hS => ?_, ?_⟩; (· (skip; go_simp; exact rfl)); simp only [List.getElem_toArray, List.getElem_cons_zero, List.getElem_cons_succ, Act.put, List.setIfInBounds_toArray, List.set_cons_zero, List.set_cons_succ])
      | (refine wpPlanK_skip (by assumption) rfl rfl ?_; simp only [List.getElem_toArray, List.getElem_cons_zero, List.getElem_cons_succ, Act.put, List.setIfInBounds_toArray, List.set_cons_zero, List.set_cons_succ]))
    first
      | refine wpPlanK_do rfl rfl (fun K hK => ?_)
      | refine wpOp_do rfl rfl (fun K hK => ?_)
    try simp only [List.getElem_toArray, List.getElem_cons_zero, List.getElem_cons_succ]
    refine wp_store_whole rfl rfl rfl (n := 2) (by kernel_rfl) rfl hc4 hcs rfl ?_
    intro w5 hb5 hg5
    refine hK.out _ _ (⟨grownBy_trans hg4 hg5, _, hb5, rfl⟩) (fun hS => ?_)
    clear hK K
    try simp only [PT.wp, List.getElem_toArray, List.getElem_cons_zero, List.getElem_cons_succ, Act.put, List.setIfInBounds_toArray, List.set_cons_zero, List.set_cons_succ]
    repeat (first
      | (refine wpPlanK_takes rfl rfl ?_; apply Exists.intro; refine ⟨fun w' hS => ?_, ?_⟩; (· (skip; go_simp; exact rfl)); simp only [List.getElem_toArray, List.getElem_cons_zero, List.getElem_cons_succ, Act.put, List.setIfInBounds_toArray, List.set_cons_zero, List.set_cons_succ])
      | (refine wpPlanK_skip (by assumption) rfl rfl ?_; simp only [List.getElem_toArray, List.getElem_cons_zero, List.getElem_cons_succ, Act.put, List.setIfInBounds_toArray, List.set_cons_zero, List.set_cons_succ]))
    refine wpPlanK_nil ?_
    go_wp2
    refine bodyPost_ret (results_blk_tmp rfl rfl (by kernel_rfl) (by kernel_rfl) hb5 rfl) rfl ?_
    have hA := below_grownBy (B := w.heap.size) hbl (by omega) (grownBy_trans hg4 hg5) (fun k e => by injection e; omega)
    exact ⟨_, rfl, hA, by simpa only [List.length_append, List.length_singleton] using (hown4.grown hg5 (by omega)).base (b' := w.heap.size) (by omega)⟩
  · first
      | refine wpPlanK_do rfl rfl (fun K hK => ?_)
      | refine wpOp_do rfl rfl (fun K hK => ?_)
    try simp only [List.getElem_toArray, List.getElem_cons_zero, List.getElem_cons_succ]
    go_simp
    obtain ⟨hg1, cs, hc, hcs⟩ := hS1
    have hn := Blk.new W1 9 #[.string s]
    have hb3 := below_one W1 (.cells #[.string s] 9)
    have hz1 := hg1.size
    have hg2 := grownBy_trans hg1 (grownBy_below _ hb3)
    have hc2 := hc.kept hb3
    refine hK.out _ _ (⟨hg2, _, hc2, hcs⟩) (fun hS => ?_)
    clear hK K
    try simp only [PT.wp, List.getElem_toArray, List.getElem_cons_zero, List.getElem_cons_succ, Act.put, List.setIfInBounds_toArray, List.set_cons_zero, List.set_cons_succ]
    clear hS
    first
      | refine wpPlanK_do rfl rfl (fun K hK => ?_)
      | refine wpOp_do rfl rfl (fun K hK => ?_)
    try simp only [List.getElem_toArray, List.getElem_cons_zero, List.getElem_cons_succ]
    go_simp
    refine (cloneS_any _ l _ (hd1.mono (vle_grown hg2))).mono ?_
    rintro e w2 ⟨d', rfl, hj, hown⟩
    obtain ⟨A', c', rfl⟩ := hown.form
    have hz2 := hj.size
    simp at hz2
    have hn0 := (hn.kept hj).cell 0
    simp at hn0
    have hg3 := grownBy_trans hg2 (grownBy_below _ hj)
    refine hK.out _ _ (⟨hg3, _, hc2.kept hj, hcs⟩) (fun hS => ?_)
    clear hK K
    try simp only [PT.wp, List.getElem_toArray, List.getElem_cons_zero, List.getElem_cons_succ, Act.put, List.setIfInBounds_toArray, List.set_cons_zero, List.set_cons_succ]
    clear hS
    first
      | refine wpPlanK_do rfl rfl (fun K hK => ?_)
      | refine wpOp_do rfl rfl (fun K hK => ?_)
    try simp only [List.getElem_toArray, List.getElem_cons_zero, List.getElem_cons_succ]
    refine wp_append_vec (n := 140737488355328) (ys := [s]) elemStr encS_one _ _ rfl rfl hown hj (by simp; omega) rfl (RVec.one s hn0 (by decide)) (Nat.le_refl _) (by simp; omega) (by simp; omega) (fun v4 w4 hown4 hj4 => ?_)
    obtain ⟨A4, c4, rfl⟩ := hown4.form
    have hg4 := grownBy_trans hg2 (grownBy_below _ hj4)
    have hc4 := hc2.kept hj4
    have hz4 := hj4.size
    simp at hz4
    refine hK.out _ _ (⟨hg4, _, hc4, hcs⟩) (fun hS => ?_)
    clear hK K
    try simp only [PT.wp, List.getElem_toArray, List.getElem_cons_zero, List.getElem_cons_succ, Act.put, List.setIfInBounds_toArray, List.set_cons_zero, List.set_cons_succ]
    clear hS
    repeat (first
      | (refine wpPlanK_takes rfl rfl ?_; apply Exists.intro; refine ⟨fun w' hS => ?_, ?_⟩; (· (skip; go_simp; exact rfl)); simp only [List.getElem_toArray, List.getElem_cons_zero, List.getElem_cons_succ, Act.put, List.setIfInBounds_toArray, List.set_cons_zero, List.set_cons_succ])
      | (refine wpPlanK_skip (by assumption) rfl rfl ?_; simp only [List.getElem_toArray, List.getElem_cons_zero, List.getElem_cons_succ, Act.put, List.setIfInBounds_toArray, List.set_cons_zero, List.set_cons_succ]))
    first
      | refine wpPlanK_do rfl rfl (fun K hK => ?_)
      | refine wpOp_do rfl rfl (fun K hK => ?_)
    try simp only [List.getElem_toArray, List.getElem_cons_zero, List.getElem_cons_succ]
    refine wp_store_whole rfl rfl rfl (n := 2) (by kernel_rfl) rfl hc4 hcs rfl ?_
    intro w5 hb5 hg5
    refine hK.out _ _ (⟨grownBy_trans hg4 hg5, _, hb5, rfl⟩) (fun hS => ?_)
    clear hK K
    try simp only [PT.wp, List.getElem_toArray, List.getElem_cons_zero, List.getElem_cons_succ, Act.put, List.setIfInBounds_toArray, List.set_cons_zero, List.set_cons_succ]
    repeat (first
      | (refine wpPlanK_takes rfl rfl ?_; apply Exists.intro; refine ⟨fun w' hS => ?_, ?_⟩; (· (skip; go_simp; exact rfl)); simp only [List.getElem_toArray, List.getElem_cons_zero, List.getElem_cons_succ, Act.put, List.setIfInBounds_toArray, List.set_cons_zero, List.set_cons_succ])
      | (refine wpPlanK_skip (by assumption) rfl rfl ?_; simp only [List.getElem_toArray, List.getElem_cons_zero, List.getElem_cons_succ, Act.put, List.setIfInBounds_toArray, List.set_cons_zero, List.set_cons_succ]))
    refine wpPlanK_nil ?_
    go_wp2
    refine bodyPost_ret (results_blk_tmp rfl rfl (by kernel_rfl) (by kernel_rfl) hb5 rfl) rfl ?_
    have hA := below_grownBy (B := w.heap.size) hbl (by omega) (grownBy_trans hg4 hg5) (fun k e => by injection e; omega)
    exact ⟨_, rfl, hA, by simpa only [List.length_append, List.length_singleton] using (hown4.grown hg5 (by simp; omega)).base (b' := w.heap.size) (by simp; omega)⟩
def emptyPool : Value := .agg #[.int .i64 0, .slice none 0 0]
set_option maxHeartbeats 2000000 in
set_option maxRecDepth 100000 in
theorem poolAdd_bad (next : Int) (v : Value) (l : List ByteArray) (s : ByteArray) (w : World) (hv : RTexts w.cell? v l) (hs : ∀ s ∈ l, s.size ≤ 140737488355328) (hss : s.size ≤ 140737488355328) (f : Int) (hf : addF next l s = f) (h0 : f ≠ 0) (hle : poolF next l = 0 → l.length ≤ 40) :
    Calls Try.prog 40 #[.agg #[.int .i64 next, v], .string s] w fun e w' => e = .returned (.tuple #[.agg #[.int .i64 0, .slice none 0 0], .int .i64 f]) ∧ Below w.heap.size w w' := by
  obtain ⟨A, c, rfl, hlen, hel⟩ := hv.form
  have Hle := Lib.hid hle
  have Hf := Lib.hid hf
  clear hel hle hf
  obtain ⟨p, hp⟩ : ∃ p, poolF next l = p := ⟨_, rfl⟩
  go_enter Try.func40, Try.ntmps40
  go_wp2_with fail
  refine (poolCheck_any next _ l _ (hv.mono (vle_below (below_2 _ _ _))) hs).mono ?_
  rintro e w1 ⟨rfl, hb1⟩
  rw [hp]
  have Hv1 := Lib.hid (hv.mono (vle_below ((below_2 _ _ _).trans (hb1.mono (by simp; omega)))))
  obtain ⟨hc, hf⟩ := bcell hb1
  have hz : w.heap.size + 1 < w1.heap.size := by have := hb1.size; simp at this; omega
  have hbw : Below w.heap.size w w1 := (below_2 _ _ _).trans (hb1.mono (by simp; omega))
  have hz0 : w.heap.size < w1.heap.size := by omega
  have hv1 := Hv1.out
  clear hb1
  have hr := Hf.out
  unfold addF at hr
  rw [hp] at hr
  by_cases hp0 : p = 0
  · subst hp0
    rw [if_neg (by simp)] at hr
    go_wp2_with fail
    refine (tx_any s _ hss).mono ?_
    rintro e w' ⟨rfl, rfl⟩
    cases htx : txOk s
    · rw [htx, if_neg (by simp)] at hr
      subst hr
      clear h0 Hf
      go_wp2
      refine bodyPost_ret (v := .tuple #[.agg #[.int .i64 0, .slice none 0 0], .int .i64 1]) (by simp [results, Try.results40, go_sem, hc, hf, hz]) rfl ⟨rfl, ?_⟩
      repeat (first
        | assumption
        | exact Below.refl _ _
        | refine Below.drew ?_
        | (refine Below.alloc ?_ ?sa _; (case sa => first | omega | (simp; done) | (simp; omega)))
        | (refine Below.setCell ?_ ?sa _; (case sa => first | (dsimp only; omega) | (simp; done) | (simp; omega))))
    · rw [htx, if_pos rfl] at hr
      go_wp2_with fail
      refine (containsText_any _ l s _ hv1).mono ?_
      rintro e w' ⟨rfl, rfl⟩
      cases hht : hasText l s
      · rw [hht, if_neg (by simp)] at hr
        have h40 : l.length = 40 := by
          have := Hle.out hp
          by_cases h : 40 ≤ l.length
          · omega
          · rw [if_neg h] at hr; exact absurd hr.symm h0
        rw [if_pos (by omega)] at hr
        subst hr
        clear h0 Hf
        go_wp2
        refine bodyPost_ret (v := .tuple #[.agg #[.int .i64 0, .slice none 0 0], .int .i64 6]) (by simp [results, Try.results40, go_sem, hc, hf, hz]) rfl ⟨rfl, ?_⟩
        repeat (first
          | assumption
          | exact Below.refl _ _
          | refine Below.drew ?_
          | (refine Below.alloc ?_ ?sa _; (case sa => first | omega | (simp; done) | (simp; omega)))
          | (refine Below.setCell ?_ ?sa _; (case sa => first | (dsimp only; omega) | (simp; done) | (simp; omega))))
      · rw [hht, if_pos rfl] at hr
        subst hr
        clear h0 Hf
        go_wp2
        refine bodyPost_ret (v := .tuple #[.agg #[.int .i64 0, .slice none 0 0], .int .i64 7]) (by simp [results, Try.results40, go_sem, hc, hf, hz]) rfl ⟨rfl, ?_⟩
        repeat (first
          | assumption
          | exact Below.refl _ _
          | refine Below.drew ?_
          | (refine Below.alloc ?_ ?sa _; (case sa => first | omega | (simp; done) | (simp; omega)))
          | (refine Below.setCell ?_ ?sa _; (case sa => first | (dsimp only; omega) | (simp; done) | (simp; omega))))
  · rw [if_pos hp0] at hr
    subst hr
    clear Hf
    go_wp2
    refine bodyPost_ret (v := .tuple #[.agg #[.int .i64 0, .slice none 0 0], .int .i64 p]) (by simp [results, Try.results40, go_sem, hc, hf, hz]) rfl ⟨rfl, ?_⟩
    repeat (first
      | assumption
      | exact Below.refl _ _
      | refine Below.drew ?_
      | (refine Below.alloc ?_ ?sa _; (case sa => first | omega | (simp; done) | (simp; omega)))
      | (refine Below.setCell ?_ ?sa _; (case sa => first | (dsimp only; omega) | (simp; done) | (simp; omega))))
end Go.Proofs.Ytegcimjmgagpnaa
