/- putBatch: a region whose row of one byte may be made before, between or behind the rest. -/
import Derived.Test.YtbcoecmeoemmeaaGreatDoorPut2
import Derived.Test.YtbcoecmeoemmeaaGreatDoorBatch
import Derived.Deep.DeepCutAuto
import Derived.Deep.CutBlock
namespace Go.Proofs.YtbcoecmeoemmeaaGreatDoor
open Go.ChangeShapes Go.WideShapes Go.ChangeAt Go.RowKit
set_option linter.unusedVariables false
set_option linter.unusedSimpArgs false
/-- 'append(out, x)', x in a block of one byte: and where the row lies then -/
theorem wp_append_b1 {P : Program} {wr : World} {o : Oper} {a : Act} {K : Act → World → Prop} {Q : Exit → Act → World → Prop} {t e : TypeId} {base n : Nat} {v : Value} {xs : List UInt8} {W : World} (u : UInt8)
    (hE : Elem1 P t e 1) (s y : Operand)
    (ho : o.op = .call { callee := .builtin .append, args := #[s, y], argTypes := #[t, t] })
    (hs : a.eval s = v) (hown : OwnVec encB e wr base v xs) (hbl : Below base W wr) (hbase : base ≤ wr.heap.size)
    {gy : Nat} (hx : a.eval y = .slice (some ⟨gy, 0, none⟩) 1 1) (hcu : wr.cell? ⟨gy, 0, none⟩ = some (encB u)) (hc : n ≤ 140737488355328) (hn : xs.length + 1 ≤ n)
    (h : ∀ v' w', OwnVec encB e w' base v' (xs ++ [u]) → Below base W w' → wr.grownBy w' v.ownBlock → (v'.ownBlock = v.ownBlock ∨ v'.ownBlock = some wr.heap.size) → K (a.put o.dst v') w') : o.wp P a wr K Q := by
  obtain ⟨ht, i, z, hi, hz0, hz1, hz2, hzs⟩ := hE
  have hnews : ∀ j u', [encB u][j]? = some u' → wr.cell? ((⟨gy, 0, none⟩ : Addr).add j) = some u' := fun j u' hu => by
    cases j with
    | zero => simp at hu; subst hu; rw [add_off]; exact hcu
    | succ j => simp at hu
  have h1' : ∀ u' ∈ [encB u], u'.oneCell' = true := fun u' hu => by rw [List.mem_singleton.1 hu]; rfl
  obtain ⟨v', w', hr, hro, hg⟩ := run_append_any (P := P) wr base t o.type e i z 1 1 ht hi hz0 hz1 hz2 hzs (by decide) v xs.length (xs.map encB) hown.own (some ⟨gy, 0, none⟩) 1 1 [encB u] rfl (fun h => by cases h)
    (fun ad had => by obtain rfl := Option.some.inj had; exact hnews) h1' (le_maxLen (Nat.le_trans hn hc)) (by omega) hbase
  have hloc := append_loc (P := P) wr base t o.type e i z 1 1 ht hi hz0 hz1 hz2 v xs.length (xs.map encB) hown.own ⟨gy, 0, none⟩ 1 1 [encB u] rfl hnews h1' (by decide) (Nat.le_trans hn hc) (by omega) hr
  unfold Oper.wp execOp
  simp [ho, resolve, invoke, builtin, hs, hx, hr, Result.andThen, Oper.upon]
  refine h v' w' ⟨?_⟩ (hbl.grown hg hbase (fun g hg => (hown.own.lt g hg).1)) hg hloc
  simpa using hro
theorem byte_alloc (w : World) (u : UInt8) (R : World → Prop) (h : ∀ W, W.cell? ⟨w.heap.size, 0, none⟩ = some (encB u) → W.heap.size = w.heap.size + 1 → Below w.heap.size w W → R W) : R (w.alloc (.cells #[.int .u8 u.toNat] 5)) :=
  h _ ((Blk.new w 5 #[encB u]).cell 0) (by simp) (below_one _ _)
theorem ne_new {w : World} {B : Nat} {v : Value} {xs : List UInt8} (ho : OwnB w B v xs) : ¬ (some w.heap.size = v.ownBlock) := fun e => by
  have := (ho.own.lt _ e.symm).2; omega
theorem ne_loc {g n : Nat} {v v' : Value} (h : ¬ (some g = v.ownBlock)) (hl : v'.ownBlock = v.ownBlock ∨ v'.ownBlock = some n) (hg : g < n) : ¬ (some g = v'.ownBlock) := fun e => by
  rcases hl with hl | hl
  · exact h (e.trans hl)
  · rw [hl] at e; injection e with e; omega
def textsB (l : List ByteArray) : List UInt8 := (l.map fun s => byteI s.size :: sbytes s).flatten
def batchB (a n : Int) (l : List ByteArray) : List UInt8 := ((byteI a :: wideB n) ++ [byteI l.length]) ++ textsB l
theorem texts_take (l : List ByteArray) {k : Nat} (hk : k < l.length) : textsB (l.take (k + 1)) = textsB (l.take k) ++ ([byteI l[k].size] ++ sbytes l[k]) := by
  unfold textsB
  rw [List.take_succ_eq_append_getElem hk, List.map_append, List.flatten_append, List.map_singleton, List.flatten_singleton]
  rfl
theorem texts_len (l : List ByteArray) {k : Nat} (hk : k < l.length) : (textsB (l.take k)).length + 1 + l[k].size ≤ (textsB l).length := by
  have h2 : textsB l = textsB (l.take (k + 1)) ++ textsB (l.drop (k + 1)) := by
    unfold textsB
    rw [← List.flatten_append, ← List.map_append, List.take_append_drop]
  rw [h2, texts_take l hk]
  simp only [List.length_append, List.length_cons, List.length_nil, sbytes_len]
  omega
set_option maxHeartbeats 4000000 in
set_option maxRecDepth 100000 in
theorem putBatch_any (w0 : World) (v : Value) (xs : List UInt8) (a n : Int) (vl : Value) (l : List ByteArray) (w : World) (hbl : Below w0.heap.size w0 w) (ho : OwnB w w0.heap.size v xs) (hr0 : 0 ≤ n) (hr1 : n ≤ 140737488355328) (hl : RTexts w0.cell? vl l) (hsz : xs.length + 5 + (textsB l).length ≤ 140737488355328) :
    Calls Tryz.prog 52 #[v, .agg #[.int .i64 a, .int .i64 n, vl]] w fun e w' => ∃ v', e = .returned v' ∧ Below w0.heap.size w0 w' ∧ Keeps w w' ∧ OwnB w' w0.heap.size v' (xs ++ batchB a n l) := by
  obtain ⟨oA, oc, rfl⟩ := ho.form
  obtain ⟨A, c, rfl, hlen, hel⟩ := hl.form
  have Hel := Lib.hid hel
  clear hel hl
  have hz := hbl.size
  have e0 := byteI_wrap a
  have e1 := byteI_wrap l.length
  have hD : Hid (batchB a n l = ((byteI a :: wideB n) ++ [byteI l.length]) ++ textsB l) := rfl
  generalize byteI a = U0 at e0 hD
  generalize byteI l.length = U1 at e1 hD
  generalize batchB a n l = Db at hD ⊢
  have hwl : (wideB n).length = 3 := rfl
  generalize hWr : wideB n = Wr at hwl hD
  obtain ⟨Y, hY⟩ : ∃ Y, Hid (xs ++ [U0] ++ Wr ++ [U1] = Y) := ⟨_, rfl⟩
  have hYl : Y.length = xs.length + 5 := by rw [← hY.out]; simp only [List.length_append, List.length_cons, List.length_nil]; omega
  go_enter Tryz.func52, Tryz.ntmps52
  go_upto_region 1 with fail
  refine one_block _ _ _ (fun W => Code.wp _ _ _ _ W) (fun W hk hszW hblW => ?_)
  have hkp : Keeps w W := keeps_below hblW
  have ho := ho.kept hblW
  have hbl := hbl.trans (hblW.mono hz)
  have hz := hbl.size
  go_cut [0] (fun v w' => Blk w' w.heap.size 71 #[.int .i64 a, .int .i64 n, .slice A l.length c] ∧ Keeps w w' ∧ Below w0.heap.size w0 w' ∧ OwnB w' w0.heap.size v Y)
  case first =>
    refine wp_region_pl0 (fun w' => Below W.heap.size W w') (fun w' => Blk w' w.heap.size 71 #[.int .i64 a, .int .i64 n, .slice A l.length c]) [15] (.q 0 (.q 1 (.q 2 (.q 3 (.q 6 (.q 7 (.q 9 (.q 10 (.q 11 (.q 12 (.alt 4 (.alt 5 (.alt 8 (.l 13 (.l 14 (.qc 15 .nil))) 13 (.l 8 (.l 14 (.qc 15 .nil)))) 13 (.l 5 (.l 8 (.l 14 (.qc 15 .nil))))) 13 (.l 4 (.l 5 (.l 8 (.l 14 (.qc 15 .nil)))))))))))))))) (by kernel_rfl) (by kernel_rfl) (fun _ _ d _ _ h => by cases d <;> exact h) rfl (by kernel_rfl) ?_ ?_
    · exact ⟨below_drew _, hk⟩
    intro W1 hS0 hS
    have ho := ho.kept hS0
    have hkp := hkp.trans (keeps_below hS0)
    have hbl := hbl.trans (hS0.mono hz)
    have hz := hbl.size
    clear hS0 hk
    -- ORDERS
    repeat (first
      | (refine pl_q (by assumption) rfl rfl ?_; apply Exists.intro; refine ⟨fun w' hS => ?_, ?_⟩; (· (have h0 := hS.cell 0; have h1 := hS.cell 1; have h2 := hS.cell 2; simp at h0 h1 h2; go_simp; exact rfl)); simp only [List.getElem_toArray, List.getElem_cons_zero, List.getElem_cons_succ, Act.put, List.setIfInBounds_toArray, List.set_cons_zero, List.set_cons_succ])
      | (refine pl_qc rfl rfl ?_; apply Exists.intro; refine ⟨fun w' _ => ?_, ?_⟩; (· (go_simp; exact rfl)); simp only [List.getElem_toArray, List.getElem_cons_zero, List.getElem_cons_succ, Act.put, List.setIfInBounds_toArray, List.set_cons_zero, List.set_cons_succ])
      | (refine pl_skip (by assumption) rfl rfl ?_; simp only [List.getElem_toArray, List.getElem_cons_zero, List.getElem_cons_succ, Act.put, List.setIfInBounds_toArray, List.set_cons_zero, List.set_cons_succ])
      | (refine pl_skipl (by assumption) rfl rfl ?_; simp only [List.getElem_toArray, List.getElem_cons_zero, List.getElem_cons_succ, Act.put, List.setIfInBounds_toArray, List.set_cons_zero, List.set_cons_succ]))
    refine pl_alt ?_ ?_
    ·
      first
        | refine pl_do rfl rfl (fun K hK => ?_)
        | refine op_do rfl rfl (fun K hK => ?_)
      try simp only [List.getElem_toArray, List.getElem_cons_zero, List.getElem_cons_succ]
      go_simp
      refine byte_alloc _ U0 (fun W => K _ W) (fun wn cA zn bn => ?_)
      refine hK.out _ _ (hS.kept bn) (fun hS => ?_)
      clear hK K
      try simp only [List.getElem_toArray, List.getElem_cons_zero, List.getElem_cons_succ, Act.put, List.setIfInBounds_toArray, List.set_cons_zero, List.set_cons_succ]
      have ho := ho.kept bn
      have hkp := hkp.trans (keeps_below bn)
      have hbl := hbl.trans (bn.mono hz)
      have hz := hbl.size
      have hgt := Nat.lt_of_succ_le (Nat.le_of_eq zn.symm)
      clear bn zn
      refine pl_alt ?_ ?_
      ·
        first
          | refine pl_do rfl rfl (fun K hK => ?_)
          | refine op_do rfl rfl (fun K hK => ?_)
        try simp only [List.getElem_toArray, List.getElem_cons_zero, List.getElem_cons_succ]
        refine wp_append_b1 (n := 140737488355328) (W := w0) (xs := xs) U0 elemByte _ _ rfl rfl ho hbl hz rfl cA (by decide) (by omega) (fun v1 wn on bn gn ln => ?_)
        refine hK.out _ _ (keeps_grown ho gn _ _ _ (by decide) hS) (fun hS => ?_)
        clear hK K
        try simp only [List.getElem_toArray, List.getElem_cons_zero, List.getElem_cons_succ, Act.put, List.setIfInBounds_toArray, List.set_cons_zero, List.set_cons_succ]
        have hkp := hkp.trans (keeps_grown ho gn)
        have ho := on
        have hbl := bn
        have hz := hbl.size
        clear gn on bn ln cA
        refine pl_alt ?_ ?_
        ·
          first
            | refine pl_do rfl rfl (fun K hK => ?_)
            | refine op_do rfl rfl (fun K hK => ?_)
          try simp only [List.getElem_toArray, List.getElem_cons_zero, List.getElem_cons_succ]
          go_simp
          refine (wide_any v1 n (xs ++ [U0]) _ _ ho hz hr0 hr1 (by simp; omega)).mono ?_
          rintro e wn ⟨v2, rfl, bn, kn, on, gn⟩
          rw [hWr] at on
          refine hK.out _ _ (kn _ _ _ (by decide) hS) (fun hS => ?_)
          clear hK K
          try simp only [List.getElem_toArray, List.getElem_cons_zero, List.getElem_cons_succ, Act.put, List.setIfInBounds_toArray, List.set_cons_zero, List.set_cons_succ]
          have hkp := hkp.trans kn
          have hbl := hbl.trans bn
          have hz := hbl.size
          have ho := on
          clear gn on bn kn
          first
            | refine pl_do rfl rfl (fun K hK => ?_)
            | refine op_do rfl rfl (fun K hK => ?_)
          try simp only [List.getElem_toArray, List.getElem_cons_zero, List.getElem_cons_succ]
          go_simp
          refine byte_alloc _ U1 (fun W => K _ W) (fun wn cD zn bn => ?_)
          refine hK.out _ _ (hS.kept bn) (fun hS => ?_)
          clear hK K
          try simp only [List.getElem_toArray, List.getElem_cons_zero, List.getElem_cons_succ, Act.put, List.setIfInBounds_toArray, List.set_cons_zero, List.set_cons_succ]
          have hneD := ne_new ho
          have ho := ho.kept bn
          have hkp := hkp.trans (keeps_below bn)
          have hbl := hbl.trans (bn.mono hz)
          have hz := hbl.size
          have hgt := Nat.lt_of_succ_le (Nat.le_of_eq zn.symm)
          clear bn zn
          first
            | refine pl_do rfl rfl (fun K hK => ?_)
            | refine op_do rfl rfl (fun K hK => ?_)
          try simp only [List.getElem_toArray, List.getElem_cons_zero, List.getElem_cons_succ]
          refine wp_append_b1 (n := 140737488355328) (W := w0) (xs := xs ++ [U0] ++ Wr) U1 elemByte _ _ rfl rfl ho hbl hz rfl cD (by decide) (by simp only [List.length_append, List.length_cons, List.length_nil]; omega) (fun v3 wn on bn gn ln => ?_)
          refine hK.out _ _ (keeps_grown ho gn _ _ _ (by decide) hS) (fun hS => ?_)
          clear hK K
          try simp only [List.getElem_toArray, List.getElem_cons_zero, List.getElem_cons_succ, Act.put, List.setIfInBounds_toArray, List.set_cons_zero, List.set_cons_succ]
          have hkp := hkp.trans (keeps_grown ho gn)
          repeat (first
            | (refine pl_q (by assumption) rfl rfl ?_; apply Exists.intro; refine ⟨fun w' hS => ?_, ?_⟩; (· (have h0 := hS.cell 0; have h1 := hS.cell 1; have h2 := hS.cell 2; simp at h0 h1 h2; go_simp; exact rfl)); simp only [List.getElem_toArray, List.getElem_cons_zero, List.getElem_cons_succ, Act.put, List.setIfInBounds_toArray, List.set_cons_zero, List.set_cons_succ])
            | (refine pl_qc rfl rfl ?_; apply Exists.intro; refine ⟨fun w' _ => ?_, ?_⟩; (· (go_simp; exact rfl)); simp only [List.getElem_toArray, List.getElem_cons_zero, List.getElem_cons_succ, Act.put, List.setIfInBounds_toArray, List.set_cons_zero, List.set_cons_succ])
            | (refine pl_skip (by assumption) rfl rfl ?_; simp only [List.getElem_toArray, List.getElem_cons_zero, List.getElem_cons_succ, Act.put, List.setIfInBounds_toArray, List.set_cons_zero, List.set_cons_succ])
            | (refine pl_skipl (by assumption) rfl rfl ?_; simp only [List.getElem_toArray, List.getElem_cons_zero, List.getElem_cons_succ, Act.put, List.setIfInBounds_toArray, List.set_cons_zero, List.set_cons_succ]))
          refine pl_nil ?_
          go_wp2
          go_meet
          exact ⟨hS, hkp, bn, by rw [hY.out] at on; exact on⟩
        ·
          first
            | refine pl_do rfl rfl (fun K hK => ?_)
            | refine op_do rfl rfl (fun K hK => ?_)
          try simp only [List.getElem_toArray, List.getElem_cons_zero, List.getElem_cons_succ]
          go_simp
          refine byte_alloc _ U1 (fun W => K _ W) (fun wn cD zn bn => ?_)
          refine hK.out _ _ (hS.kept bn) (fun hS => ?_)
          clear hK K
          try simp only [List.getElem_toArray, List.getElem_cons_zero, List.getElem_cons_succ, Act.put, List.setIfInBounds_toArray, List.set_cons_zero, List.set_cons_succ]
          have hneD := ne_new ho
          have ho := ho.kept bn
          have hkp := hkp.trans (keeps_below bn)
          have hbl := hbl.trans (bn.mono hz)
          have hz := hbl.size
          have hgt := Nat.lt_of_succ_le (Nat.le_of_eq zn.symm)
          clear bn zn
          first
            | refine pl_do rfl rfl (fun K hK => ?_)
            | refine op_do rfl rfl (fun K hK => ?_)
          try simp only [List.getElem_toArray, List.getElem_cons_zero, List.getElem_cons_succ]
          go_simp
          refine (wide_any v1 n (xs ++ [U0]) _ _ ho hz hr0 hr1 (by simp; omega)).mono ?_
          rintro e wn ⟨v2, rfl, bn, kn, on, gn⟩
          rw [hWr] at on
          refine hK.out _ _ (kn _ _ _ (by decide) hS) (fun hS => ?_)
          clear hK K
          try simp only [List.getElem_toArray, List.getElem_cons_zero, List.getElem_cons_succ, Act.put, List.setIfInBounds_toArray, List.set_cons_zero, List.set_cons_succ]
          have hkp := hkp.trans kn
          have hbl := hbl.trans bn
          have hz := hbl.size
          have cD := gn.cell cD hneD
          have ho := on
          clear gn on bn kn
          first
            | refine pl_do rfl rfl (fun K hK => ?_)
            | refine op_do rfl rfl (fun K hK => ?_)
          try simp only [List.getElem_toArray, List.getElem_cons_zero, List.getElem_cons_succ]
          refine wp_append_b1 (n := 140737488355328) (W := w0) (xs := xs ++ [U0] ++ Wr) U1 elemByte _ _ rfl rfl ho hbl hz rfl cD (by decide) (by simp only [List.length_append, List.length_cons, List.length_nil]; omega) (fun v3 wn on bn gn ln => ?_)
          refine hK.out _ _ (keeps_grown ho gn _ _ _ (by decide) hS) (fun hS => ?_)
          clear hK K
          try simp only [List.getElem_toArray, List.getElem_cons_zero, List.getElem_cons_succ, Act.put, List.setIfInBounds_toArray, List.set_cons_zero, List.set_cons_succ]
          have hkp := hkp.trans (keeps_grown ho gn)
          repeat (first
            | (refine pl_q (by assumption) rfl rfl ?_; apply Exists.intro; refine ⟨fun w' hS => ?_, ?_⟩; (· (have h0 := hS.cell 0; have h1 := hS.cell 1; have h2 := hS.cell 2; simp at h0 h1 h2; go_simp; exact rfl)); simp only [List.getElem_toArray, List.getElem_cons_zero, List.getElem_cons_succ, Act.put, List.setIfInBounds_toArray, List.set_cons_zero, List.set_cons_succ])
            | (refine pl_qc rfl rfl ?_; apply Exists.intro; refine ⟨fun w' _ => ?_, ?_⟩; (· (go_simp; exact rfl)); simp only [List.getElem_toArray, List.getElem_cons_zero, List.getElem_cons_succ, Act.put, List.setIfInBounds_toArray, List.set_cons_zero, List.set_cons_succ])
            | (refine pl_skip (by assumption) rfl rfl ?_; simp only [List.getElem_toArray, List.getElem_cons_zero, List.getElem_cons_succ, Act.put, List.setIfInBounds_toArray, List.set_cons_zero, List.set_cons_succ])
            | (refine pl_skipl (by assumption) rfl rfl ?_; simp only [List.getElem_toArray, List.getElem_cons_zero, List.getElem_cons_succ, Act.put, List.setIfInBounds_toArray, List.set_cons_zero, List.set_cons_succ]))
          refine pl_nil ?_
          go_wp2
          go_meet
          exact ⟨hS, hkp, bn, by rw [hY.out] at on; exact on⟩
      ·
        first
          | refine pl_do rfl rfl (fun K hK => ?_)
          | refine op_do rfl rfl (fun K hK => ?_)
        try simp only [List.getElem_toArray, List.getElem_cons_zero, List.getElem_cons_succ]
        go_simp
        refine byte_alloc _ U1 (fun W => K _ W) (fun wn cD zn bn => ?_)
        refine hK.out _ _ (hS.kept bn) (fun hS => ?_)
        clear hK K
        try simp only [List.getElem_toArray, List.getElem_cons_zero, List.getElem_cons_succ, Act.put, List.setIfInBounds_toArray, List.set_cons_zero, List.set_cons_succ]
        have cA := vle_below bn _ _ cA
        have hneD := ne_new ho
        have ho := ho.kept bn
        have hkp := hkp.trans (keeps_below bn)
        have hbl := hbl.trans (bn.mono hz)
        have hz := hbl.size
        have hgt := Nat.lt_of_succ_le (Nat.le_of_eq zn.symm)
        clear bn zn
        first
          | refine pl_do rfl rfl (fun K hK => ?_)
          | refine op_do rfl rfl (fun K hK => ?_)
        try simp only [List.getElem_toArray, List.getElem_cons_zero, List.getElem_cons_succ]
        refine wp_append_b1 (n := 140737488355328) (W := w0) (xs := xs) U0 elemByte _ _ rfl rfl ho hbl hz rfl cA (by decide) (by omega) (fun v1 wn on bn gn ln => ?_)
        refine hK.out _ _ (keeps_grown ho gn _ _ _ (by decide) hS) (fun hS => ?_)
        clear hK K
        try simp only [List.getElem_toArray, List.getElem_cons_zero, List.getElem_cons_succ, Act.put, List.setIfInBounds_toArray, List.set_cons_zero, List.set_cons_succ]
        have hkp := hkp.trans (keeps_grown ho gn)
        have cD := gn.cell cD hneD
        have hneD := ne_loc hneD ln (by omega)
        have ho := on
        have hbl := bn
        have hz := hbl.size
        clear gn on bn ln cA
        first
          | refine pl_do rfl rfl (fun K hK => ?_)
          | refine op_do rfl rfl (fun K hK => ?_)
        try simp only [List.getElem_toArray, List.getElem_cons_zero, List.getElem_cons_succ]
        go_simp
        refine (wide_any v1 n (xs ++ [U0]) _ _ ho hz hr0 hr1 (by simp; omega)).mono ?_
        rintro e wn ⟨v2, rfl, bn, kn, on, gn⟩
        rw [hWr] at on
        refine hK.out _ _ (kn _ _ _ (by decide) hS) (fun hS => ?_)
        clear hK K
        try simp only [List.getElem_toArray, List.getElem_cons_zero, List.getElem_cons_succ, Act.put, List.setIfInBounds_toArray, List.set_cons_zero, List.set_cons_succ]
        have hkp := hkp.trans kn
        have hbl := hbl.trans bn
        have hz := hbl.size
        have cD := gn.cell cD hneD
        have ho := on
        clear gn on bn kn
        first
          | refine pl_do rfl rfl (fun K hK => ?_)
          | refine op_do rfl rfl (fun K hK => ?_)
        try simp only [List.getElem_toArray, List.getElem_cons_zero, List.getElem_cons_succ]
        refine wp_append_b1 (n := 140737488355328) (W := w0) (xs := xs ++ [U0] ++ Wr) U1 elemByte _ _ rfl rfl ho hbl hz rfl cD (by decide) (by simp only [List.length_append, List.length_cons, List.length_nil]; omega) (fun v3 wn on bn gn ln => ?_)
        refine hK.out _ _ (keeps_grown ho gn _ _ _ (by decide) hS) (fun hS => ?_)
        clear hK K
        try simp only [List.getElem_toArray, List.getElem_cons_zero, List.getElem_cons_succ, Act.put, List.setIfInBounds_toArray, List.set_cons_zero, List.set_cons_succ]
        have hkp := hkp.trans (keeps_grown ho gn)
        repeat (first
          | (refine pl_q (by assumption) rfl rfl ?_; apply Exists.intro; refine ⟨fun w' hS => ?_, ?_⟩; (· (have h0 := hS.cell 0; have h1 := hS.cell 1; have h2 := hS.cell 2; simp at h0 h1 h2; go_simp; exact rfl)); simp only [List.getElem_toArray, List.getElem_cons_zero, List.getElem_cons_succ, Act.put, List.setIfInBounds_toArray, List.set_cons_zero, List.set_cons_succ])
          | (refine pl_qc rfl rfl ?_; apply Exists.intro; refine ⟨fun w' _ => ?_, ?_⟩; (· (go_simp; exact rfl)); simp only [List.getElem_toArray, List.getElem_cons_zero, List.getElem_cons_succ, Act.put, List.setIfInBounds_toArray, List.set_cons_zero, List.set_cons_succ])
          | (refine pl_skip (by assumption) rfl rfl ?_; simp only [List.getElem_toArray, List.getElem_cons_zero, List.getElem_cons_succ, Act.put, List.setIfInBounds_toArray, List.set_cons_zero, List.set_cons_succ])
          | (refine pl_skipl (by assumption) rfl rfl ?_; simp only [List.getElem_toArray, List.getElem_cons_zero, List.getElem_cons_succ, Act.put, List.setIfInBounds_toArray, List.set_cons_zero, List.set_cons_succ]))
        refine pl_nil ?_
        go_wp2
        go_meet
        exact ⟨hS, hkp, bn, by rw [hY.out] at on; exact on⟩
    ·
      first
        | refine pl_do rfl rfl (fun K hK => ?_)
        | refine op_do rfl rfl (fun K hK => ?_)
      try simp only [List.getElem_toArray, List.getElem_cons_zero, List.getElem_cons_succ]
      go_simp
      refine byte_alloc _ U1 (fun W => K _ W) (fun wn cD zn bn => ?_)
      refine hK.out _ _ (hS.kept bn) (fun hS => ?_)
      clear hK K
      try simp only [List.getElem_toArray, List.getElem_cons_zero, List.getElem_cons_succ, Act.put, List.setIfInBounds_toArray, List.set_cons_zero, List.set_cons_succ]
      have hneD := ne_new ho
      have ho := ho.kept bn
      have hkp := hkp.trans (keeps_below bn)
      have hbl := hbl.trans (bn.mono hz)
      have hz := hbl.size
      have hgt := Nat.lt_of_succ_le (Nat.le_of_eq zn.symm)
      clear bn zn
      first
        | refine pl_do rfl rfl (fun K hK => ?_)
        | refine op_do rfl rfl (fun K hK => ?_)
      try simp only [List.getElem_toArray, List.getElem_cons_zero, List.getElem_cons_succ]
      go_simp
      refine byte_alloc _ U0 (fun W => K _ W) (fun wn cA zn bn => ?_)
      refine hK.out _ _ (hS.kept bn) (fun hS => ?_)
      clear hK K
      try simp only [List.getElem_toArray, List.getElem_cons_zero, List.getElem_cons_succ, Act.put, List.setIfInBounds_toArray, List.set_cons_zero, List.set_cons_succ]
      have cD := vle_below bn _ _ cD
      have ho := ho.kept bn
      have hkp := hkp.trans (keeps_below bn)
      have hbl := hbl.trans (bn.mono hz)
      have hz := hbl.size
      have hgt := Nat.lt_of_succ_le (Nat.le_of_eq zn.symm)
      clear bn zn
      first
        | refine pl_do rfl rfl (fun K hK => ?_)
        | refine op_do rfl rfl (fun K hK => ?_)
      try simp only [List.getElem_toArray, List.getElem_cons_zero, List.getElem_cons_succ]
      refine wp_append_b1 (n := 140737488355328) (W := w0) (xs := xs) U0 elemByte _ _ rfl rfl ho hbl hz rfl cA (by decide) (by omega) (fun v1 wn on bn gn ln => ?_)
      refine hK.out _ _ (keeps_grown ho gn _ _ _ (by decide) hS) (fun hS => ?_)
      clear hK K
      try simp only [List.getElem_toArray, List.getElem_cons_zero, List.getElem_cons_succ, Act.put, List.setIfInBounds_toArray, List.set_cons_zero, List.set_cons_succ]
      have hkp := hkp.trans (keeps_grown ho gn)
      have cD := gn.cell cD hneD
      have hneD := ne_loc hneD ln (by omega)
      have ho := on
      have hbl := bn
      have hz := hbl.size
      clear gn on bn ln cA
      first
        | refine pl_do rfl rfl (fun K hK => ?_)
        | refine op_do rfl rfl (fun K hK => ?_)
      try simp only [List.getElem_toArray, List.getElem_cons_zero, List.getElem_cons_succ]
      go_simp
      refine (wide_any v1 n (xs ++ [U0]) _ _ ho hz hr0 hr1 (by simp; omega)).mono ?_
      rintro e wn ⟨v2, rfl, bn, kn, on, gn⟩
      rw [hWr] at on
      refine hK.out _ _ (kn _ _ _ (by decide) hS) (fun hS => ?_)
      clear hK K
      try simp only [List.getElem_toArray, List.getElem_cons_zero, List.getElem_cons_succ, Act.put, List.setIfInBounds_toArray, List.set_cons_zero, List.set_cons_succ]
      have hkp := hkp.trans kn
      have hbl := hbl.trans bn
      have hz := hbl.size
      have cD := gn.cell cD hneD
      have ho := on
      clear gn on bn kn
      first
        | refine pl_do rfl rfl (fun K hK => ?_)
        | refine op_do rfl rfl (fun K hK => ?_)
      try simp only [List.getElem_toArray, List.getElem_cons_zero, List.getElem_cons_succ]
      refine wp_append_b1 (n := 140737488355328) (W := w0) (xs := xs ++ [U0] ++ Wr) U1 elemByte _ _ rfl rfl ho hbl hz rfl cD (by decide) (by simp only [List.length_append, List.length_cons, List.length_nil]; omega) (fun v3 wn on bn gn ln => ?_)
      refine hK.out _ _ (keeps_grown ho gn _ _ _ (by decide) hS) (fun hS => ?_)
      clear hK K
      try simp only [List.getElem_toArray, List.getElem_cons_zero, List.getElem_cons_succ, Act.put, List.setIfInBounds_toArray, List.set_cons_zero, List.set_cons_succ]
      have hkp := hkp.trans (keeps_grown ho gn)
      repeat (first
        | (refine pl_q (by assumption) rfl rfl ?_; apply Exists.intro; refine ⟨fun w' hS => ?_, ?_⟩; (· (have h0 := hS.cell 0; have h1 := hS.cell 1; have h2 := hS.cell 2; simp at h0 h1 h2; go_simp; exact rfl)); simp only [List.getElem_toArray, List.getElem_cons_zero, List.getElem_cons_succ, Act.put, List.setIfInBounds_toArray, List.set_cons_zero, List.set_cons_succ])
        | (refine pl_qc rfl rfl ?_; apply Exists.intro; refine ⟨fun w' _ => ?_, ?_⟩; (· (go_simp; exact rfl)); simp only [List.getElem_toArray, List.getElem_cons_zero, List.getElem_cons_succ, Act.put, List.setIfInBounds_toArray, List.set_cons_zero, List.set_cons_succ])
        | (refine pl_skip (by assumption) rfl rfl ?_; simp only [List.getElem_toArray, List.getElem_cons_zero, List.getElem_cons_succ, Act.put, List.setIfInBounds_toArray, List.set_cons_zero, List.set_cons_succ])
        | (refine pl_skipl (by assumption) rfl rfl ?_; simp only [List.getElem_toArray, List.getElem_cons_zero, List.getElem_cons_succ, Act.put, List.setIfInBounds_toArray, List.set_cons_zero, List.set_cons_succ]))
      refine pl_nil ?_
      go_wp2
      go_meet
      exact ⟨hS, hkp, bn, by rw [hY.out] at on; exact on⟩
    -- END ORDERS
  case rest =>
    clear ho hbl hz hkp
    obtain ⟨hk2, hkp, hbl, ho⟩ := hcut
    obtain ⟨yA, yc, rfl⟩ := ho.form
    have c2 := hk2.cell 2
    simp at c2
    have c2 : wc.cell? ⟨w.heap.size, 2, none⟩ = some (.slice A l.length c) := c2
    clear hk2 hk hblW
    go_wp2
    go_loopw [0, 25] (fun v i wr => ∃ k : Nat, k ≤ l.length ∧ i = .int .i64 k ∧ OwnB wr w0.heap.size v (Y ++ textsB (l.take k)) ∧ Below w0.heap.size w0 wr ∧ Keeps w wr) (fun _ i _ => l.length - (intOf i).toNat)
    case atStart => exact ⟨0, Nat.zero_le _, rfl, by simpa [textsB] using ho, hbl, hkp⟩
    case round =>
      clear ho hbl hkp c2
      obtain ⟨k, hk, rfl, hown, hbl, hkp⟩ := hrel
      have hz := hbl.size
      by_cases hlt : k < l.length
      · obtain ⟨b0, o0, rfl, q0⟩ := Hel.out k hlt
        have c0 := vle_below hbl _ _ q0
        have hnl := texts_len l hlt
        have Hn := Lib.hid (texts_take l hlt)
        have e2 := byteI_wrap l[k].size
        clear q0
        generalize byteI l[k].size = U2 at e2 Hn
        generalize textsB (l.take k) = Z at hown Hn hnl
        generalize l[k] = p at Hn hnl c0 e2
        go_wp2_with (at_builtin; first
          | (refine wpList_append_vec (n := 140737488355328) (W := w0) (ys := [U2]) elemByte encB_one _ _ rfl rfl rfl (hown.alloc _) (hbl.alloc hz _) (le_alloc _ hz) rfl (byBlk (xs := [U2]) (Blk.new _ _ _) (by simp) (by simp)) (by decide) (by simp; omega) (by simp; omega) ?_))
        intro v1 w1 o1 b1 g1
        have k1 := (keeps_alloc wr (.cells #[encB U2] 5)).trans (keeps_grown (hown.alloc _) g1)
        have z1 := b1.size
        clear g1 hown
        go_wp2_with (at_builtin; go_loud (refine wpList_append_str (n := 140737488355328) (W := w0) p elemByte Tryz.underlying9 _ _ rfl rfl rfl rfl o1 b1 z1 (by decide) (by simp only [List.length_append, List.length_cons, List.length_nil]; omega) ?_))
        intro v2 w2 o2 b2 g2
        have k2 := (hkp.trans k1).trans (keeps_grown o1 g2)
        clear g2 o1
        go_wp2
        go_roundw
        case rel => exact ⟨k + 1, by omega, by go_num, by rw [Hn.out]; simpa using o2, b2, k2⟩
        case measure => simp [intOf]; omega
      · have hkl : k = l.length := by omega
        subst hkl
        rw [List.take_length] at hown
        have hfin : OwnB wr w0.heap.size u0 (xs ++ Db) := by rw [hD.out]; rw [← hY.out] at hown; simpa using hown
        go_wp2
        go_ret
        exact ⟨_, rfl, hbl, hkp, hfin⟩
end Go.Proofs.YtbcoecmeoemmeaaGreatDoor
