/- pool.Seal: what it answers. -/
import Derived.Test.YtelfbgfggkhpjaaPool2
import Derived.Test.YtelfbgfggkhpjaaSealAdd
import Derived.Deep.DeepCutAuto
import Derived.Test.YtelfbgfggkhpjaaHead
namespace Go.Proofs.Ytelfbgfggkhpjaa
open Go.ChangeShapes Go.WideShapes Go.ChangeAt Go.RowKit
set_option linter.unusedVariables false
set_option linter.unusedSimpArgs false
def sealE (nx : Int) (l : List ByteArray) (au : Int) : Int := if poolF nx l ≠ 0 then poolF nx l else if inB au 0 3 then (if l.length = 0 then 8 else if 1048576 < nx then 6 else 0) else 2
def sealNx (nx : Int) (l : List ByteArray) (au : Int) : Int := if sealE nx l au ≠ 0 then 0 else nx + 1
def sealRest (nx : Int) (l : List ByteArray) (au : Int) : List ByteArray := if sealE nx l au ≠ 0 then [] else l.drop 4
def sealAu (nx : Int) (l : List ByteArray) (au : Int) : Int := if sealE nx l au ≠ 0 then 0 else au
def sealNu (nx : Int) (l : List ByteArray) (au : Int) : Int := if sealE nx l au ≠ 0 then 0 else nx
def sealTx (nx : Int) (l : List ByteArray) (au : Int) : List ByteArray := if sealE nx l au ≠ 0 then [] else l.take 4
theorem three_blocks (w : World) (c1 c2 c3 : Array Value) (t1 t2 t3 : TypeId) (R : World → Prop)
    (h : ∀ W, Blk W w.heap.size t1 c1 → Blk W (w.heap.size + 1) t2 c2 → Blk W (w.heap.size + 2) t3 c3 → W.heap.size = w.heap.size + 3 → Below w.heap.size w W → R W) : R (((w.alloc (.cells c1 t1)).alloc (.cells c2 t2)).alloc (.cells c3 t3)) := by
  refine h _ (((Blk.new w t1 c1).alloc _).alloc _) ?_ ?_ (by simp) ((((Below.refl _ _).alloc (Nat.le_refl _) _).alloc (le_alloc _ (Nat.le_refl _)) _).alloc (le_alloc _ (le_alloc _ (Nat.le_refl _))) _)
  · have := (Blk.new (w.alloc (.cells c1 t1)) t2 c2).alloc (.cells c3 t3)
    simpa using this
  · have := Blk.new ((w.alloc (.cells c1 t1)).alloc (.cells c2 t2)) t3 c3
    simpa using this
theorem results_blk2_tmp {P : Program} {fn : Func} {p q u : Tmp} {t t2 te te2 : TypeId} {w : World} {g g2 n n2 : Nat} {cur cur2 : Array Value} {tmps : Array Value} (h : fn.results = #[.cell p t, .cell q t2, .tmp u]) (hp : tmps.getD p undef = .pointer (some ⟨g, 0, none⟩)) (hq : tmps.getD q undef = .pointer (some ⟨g2, 0, none⟩))
    (hagg : (isAgg t).run P w = .ok true w) (hi : (P.info? t).map (·.size) = some n) (hb : Blk w g te cur) (hn : cur.size = n) (hagg2 : (isAgg t2).run P w = .ok true w) (hi2 : (P.info? t2).map (·.size) = some n2) (hb2 : Blk w g2 te2 cur2) (hn2 : cur2.size = n2) :
    (results fn tmps).run P w = .ok (.tuple #[.agg cur, .agg cur2, tmps.getD u undef]) w := by
  have h1 := run_load_blk (P := P) hagg hi hb (o := 0) (by omega)
  rw [List.drop_zero, List.take_of_length_le (by simp [hn])] at h1
  have h2 := run_load_blk (P := P) hagg2 hi2 hb2 (o := 0) (by omega)
  rw [List.drop_zero, List.take_of_length_le (by simp [hn2])] at h2
  have hp' : tmps[p]?.getD undef = .pointer (some ⟨g, 0, none⟩) := by simpa using hp
  have hq' : tmps[q]?.getD undef = .pointer (some ⟨g2, 0, none⟩) := by simpa using hq
  simp only [results, h]
  simp [Sem.run_bind, Result.andThen, hp', hq', asAddr, h1, h2]
theorem RVec.part {α : Type} {enc : α → Value} {bs : Nat} {h : View} {A : Option Addr} {n c : Nat} {xs : List α} (hr : RVec enc bs h (.slice A n c) xs) {lo m : Nat} (hm : lo + m ≤ xs.length) : RVec enc bs h (.slice (A.map fun x => x.add lo) m (c - lo)) ((xs.drop lo).take m) := by
  obtain ⟨A', c', e, h1, h2, h3, h4, h5⟩ := hr
  injection e with e1 e2 e3
  subst e1 e2 e3
  have hl : ((xs.drop lo).take m).length = m := by simp; omega
  refine ⟨_, _, by rw [hl], by omega, Nat.le_trans (Nat.sub_le _ _) h2, ?_, ?_, fun hp => ?_⟩
  · rw [hl]; exact Nat.le_trans (Nat.mul_le_mul_right _ (by omega)) h3
  · intro hA
    cases A with
    | none => have := h4 rfl; omega
    | some a => simp at hA
  · obtain ⟨b, o, ea, hc⟩ := h5 (by omega)
    subst ea
    refine ⟨b, o + lo, by simp [add_off], fun i hi => ?_⟩
    rw [hl] at hi
    have := hc (lo + i) (by omega)
    rw [show o + lo + i = o + (lo + i) by omega, this]
    simp
theorem RVec.stub {α : Type} (enc : α → Value) (bs : Nat) (h : View) (A : Option Addr) {m : Nat} {xs : List α} (hm : m = 0) (hx : xs.length = m) : RVec enc bs h (.slice A m 0) xs := by
  subst hm
  have : xs = [] := List.eq_nil_of_length_eq_zero hx
  subst this
  exact ⟨A, 0, rfl, Nat.le_refl _, Nat.zero_le _, by simp, fun _ => rfl, fun h => by simp at h⟩
theorem fromP {w w' : World} {b g : Nat} (hg : w.grownBy w' (some g)) (hgb : g < b) : VLe (View.from w.cell? b) (View.from w'.cell? b) := fun a v e => by
  unfold View.from at e ⊢
  split at e
  · cases e
  · rename_i hne
    rw [if_neg hne]
    exact hg.cell e (by intro h; injection h; omega)
theorem vle_butP {w W : World} {g : Nat} (hb : Below w.heap.size w W) (hg : w.heap.size ≤ g) : VLe w.cell? (View.but W.cell? (some g)) := fun a u hu => by
  have hlt := World.block_lt_of_cell? w a hu
  unfold View.but
  rw [if_neg (by intro e; injection e with e; omega)]
  exact vle_below hb _ _ hu
set_option maxHeartbeats 4000000 in
set_option maxRecDepth 100000 in
theorem poolSeal_any (nx au : Int) (v : Value) (l : List ByteArray) (w : World) (hv : RTexts w.cell? v l) (hs : ∀ s ∈ l, s.size ≤ 140737488355328) :
    Calls Try.prog 11 #[.agg #[.int .i64 nx, v], .int .i64 au] w fun e w' => ∃ d1 d2, e = .returned (.tuple #[.agg #[.int .i64 (sealNx nx l au), d1], .agg #[.int .i64 (sealAu nx l au), .int .i64 (sealNu nx l au), d2], .int .i64 (sealE nx l au)]) ∧ Below w.heap.size w w' ∧ RTexts w'.cell? d1 (sealRest nx l au) ∧ RTexts w'.cell? d2 (sealTx nx l au) := by
  obtain ⟨A, c, rfl, hlen, _⟩ := hv.form
  have hcap : l.length ≤ c := by obtain ⟨_, _, e, h, _⟩ := hv; injection e with _ _ e; omega
  obtain ⟨F, hF⟩ : ∃ F, Hid (poolF nx l = F) := ⟨_, rfl⟩
  obtain ⟨E, hE⟩ : ∃ E, Hid (sealE nx l au = E) := ⟨_, rfl⟩
  have HE : Hid (E = if F ≠ 0 then F else if inB au 0 3 then (if l.length = 0 then 8 else if 1048576 < nx then 6 else 0) else 2) := by show _ = _; rw [← hE.out, ← hF.out]; rfl
  have H1 : Hid (sealNx nx l au = if E ≠ 0 then 0 else nx + 1) := by show _ = _; rw [← hE.out]; rfl
  have H2 : Hid (sealAu nx l au = if E ≠ 0 then 0 else au) := by show _ = _; rw [← hE.out]; rfl
  have H3 : Hid (sealNu nx l au = if E ≠ 0 then 0 else nx) := by show _ = _; rw [← hE.out]; rfl
  have H4 : Hid (sealRest nx l au = if E ≠ 0 then [] else l.drop 4) := by show _ = _; rw [← hE.out]; rfl
  have H5 : Hid (sealTx nx l au = if E ≠ 0 then [] else l.take 4) := by show _ = _; rw [← hE.out]; rfl
  rw [hE.out]
  generalize sealNx nx l au = X1 at H1 ⊢
  generalize sealAu nx l au = X2 at H2 ⊢
  generalize sealNu nx l au = X3 at H3 ⊢
  generalize sealRest nx l au = X4 at H4 ⊢
  generalize sealTx nx l au = X5 at H5 ⊢
  have Hs := Lib.hid hs
  clear hs hE
  go_enter Try.func11, Try.ntmps11
  go_wp2_with fail
  refine three_blocks _ _ _ _ _ _ _ (fun W => Calls Try.prog _ _ W _) (fun W hk1 hk2 hk3 hsz hbl => ?_)
  refine (poolCheck_any nx _ l _ (hv.mono (vle_below hbl)) Hs.out).mono ?_
  rintro e w1 ⟨rfl, hb1⟩
  rw [hF.out]
  have hbl1 := hbl.trans (hb1.mono hbl.size)
  have hk1 := hk1.kept hb1
  have hk2 := hk2.kept hb1
  have hk3 := hk3.kept hb1
  have hz1 := hb1.size
  clear hbl hb1
  have g0 := hk1.cell 0; have g1 := hk1.cell 1
  simp at g0 g1
  have fin : ∀ f : Int, f ≠ 0 → E = f → ∀ (w' : World), Below w.heap.size w w' → ∃ d1 d2, Ending.returned (.tuple #[.agg #[.int .i64 0, .slice none 0 0], .agg #[.int .i64 0, .int .i64 0, .slice none 0 0], .int .i64 f]) = .returned (.tuple #[.agg #[.int .i64 X1, d1], .agg #[.int .i64 X2, .int .i64 X3, d2], .int .i64 E]) ∧ Below w.heap.size w w' ∧ RTexts w'.cell? d1 X4 ∧ RTexts w'.cell? d2 X5 := by
    intro f hf0 hEf w' hb
    subst hEf
    rw [H1.out, H2.out, H3.out, H4.out, H5.out, if_pos hf0, if_pos hf0, if_pos hf0, if_pos hf0, if_pos hf0]
    exact ⟨_, _, rfl, hb, RVec.nil _ _ _, RVec.nil _ _ _⟩
  have Fin := Lib.hid fin
  clear fin
  by_cases hF0 : F = 0
  · subst hF0
    have HE' : Hid (E = if inB au 0 3 then (if l.length = 0 then 8 else if 1048576 < nx then 6 else 0) else 2) := by show _ = _; rw [HE.out]; rfl
    clear HE
    by_cases h1 : au < 0
    · have HE2 : Hid (E = 2) := by show _ = _; rw [HE'.out, if_neg (by simp [inB]; omega)]
      go_wp2_with (refine wpList_store_whole (n := 2) rfl rfl rfl rfl (by kernel_rfl) rfl hk2 rfl rfl ?_)
      intro w2 hA hg2
      have hk3 := hk3.grown hg2 (by simp)
      have hbl2 := below_grownBy hbl1 (hbl1).size hg2 (by intro k e; injection e; omega)
      go_wp2_with (refine wpList_store_whole (n := 3) rfl rfl rfl rfl (by kernel_rfl) rfl hk3 rfl rfl ?_)
      intro w3 hB hg3
      have hA := hA.grown hg3 (by simp)
      have hbl3 := below_grownBy hbl2 hbl2.size hg3 (by intro k e; injection e; omega)
      go_wp2
      refine bodyPost_ret (results_blk2_tmp rfl rfl rfl (by kernel_rfl) (by kernel_rfl) hA rfl (by kernel_rfl) (by kernel_rfl) hB rfl) rfl ?_
      exact Fin.out _ (by decide) (HE2).out _ hbl3
    by_cases h2 : 4 ≤ au
    · have HE2 : Hid (E = 2) := by show _ = _; rw [HE'.out, if_neg (by simp [inB]; omega)]
      go_wp2_with (refine wpList_store_whole (n := 2) rfl rfl rfl rfl (by kernel_rfl) rfl hk2 rfl rfl ?_)
      intro w2 hA hg2
      have hk3 := hk3.grown hg2 (by simp)
      have hbl2 := below_grownBy hbl1 (hbl1).size hg2 (by intro k e; injection e; omega)
      go_wp2_with (refine wpList_store_whole (n := 3) rfl rfl rfl rfl (by kernel_rfl) rfl hk3 rfl rfl ?_)
      intro w3 hB hg3
      have hA := hA.grown hg3 (by simp)
      have hbl3 := below_grownBy hbl2 hbl2.size hg3 (by intro k e; injection e; omega)
      go_wp2
      refine bodyPost_ret (results_blk2_tmp rfl rfl rfl (by kernel_rfl) (by kernel_rfl) hA rfl (by kernel_rfl) (by kernel_rfl) hB rfl) rfl ?_
      exact Fin.out _ (by decide) (HE2).out _ hbl3
    have HE3 : Hid (E = if l.length = 0 then 8 else if 1048576 < nx then 6 else 0) := by show _ = _; rw [HE'.out, if_pos (by simp [inB]; omega)]
    clear HE'
    by_cases h3 : l.length = 0
    · have HE2 : Hid (E = 8) := by show _ = _; rw [HE3.out, if_pos h3]
      rw [h3] at g1
      go_wp2_with (refine wpList_store_whole (n := 2) rfl rfl rfl rfl (by kernel_rfl) rfl hk2 rfl rfl ?_)
      intro w2 hA hg2
      have hk3 := hk3.grown hg2 (by simp)
      have hbl2 := below_grownBy hbl1 (hbl1).size hg2 (by intro k e; injection e; omega)
      go_wp2_with (refine wpList_store_whole (n := 3) rfl rfl rfl rfl (by kernel_rfl) rfl hk3 rfl rfl ?_)
      intro w3 hB hg3
      have hA := hA.grown hg3 (by simp)
      have hbl3 := below_grownBy hbl2 hbl2.size hg3 (by intro k e; injection e; omega)
      go_wp2
      refine bodyPost_ret (results_blk2_tmp rfl rfl rfl (by kernel_rfl) (by kernel_rfl) hA rfl (by kernel_rfl) (by kernel_rfl) hB rfl) rfl ?_
      exact Fin.out _ (by decide) (HE2).out _ hbl3
    by_cases h4 : 1048576 < nx
    · have HE2 : Hid (E = 6) := by show _ = _; rw [HE3.out, if_neg h3, if_pos h4]
      have h3' : ¬ (l.length : Int) = 0 := by omega
      go_wp2_with (refine wpList_store_whole (n := 2) rfl rfl rfl rfl (by kernel_rfl) rfl hk2 rfl rfl ?_)
      intro w2 hA hg2
      have hk3 := hk3.grown hg2 (by simp)
      have hbl2 := below_grownBy hbl1 (hbl1).size hg2 (by intro k e; injection e; omega)
      go_wp2_with (refine wpList_store_whole (n := 3) rfl rfl rfl rfl (by kernel_rfl) rfl hk3 rfl rfl ?_)
      intro w3 hB hg3
      have hA := hA.grown hg3 (by simp)
      have hbl3 := below_grownBy hbl2 hbl2.size hg3 (by intro k e; injection e; omega)
      go_wp2
      refine bodyPost_ret (results_blk2_tmp rfl rfl rfl (by kernel_rfl) (by kernel_rfl) hA rfl (by kernel_rfl) (by kernel_rfl) hB rfl) rfl ?_
      exact Fin.out _ (by decide) (HE2).out _ hbl3
    have HE2 : Hid (E = 0) := by show _ = _; rw [HE3.out, if_neg h3, if_neg h4]
    have hp1 : 1 ≤ nx := by
      have := hF.out
      simp only [poolF] at this
      by_cases hq : 1 ≤ nx
      · exact hq
      · simp [inB, hq] at this
    clear HE3
    have h3' : ¬ (l.length : Int) = 0 := by omega
    have hv1 := hv.mono (vle_below hbl1)
    obtain ⟨KT, hKT⟩ : ∃ K, Hid (l.take 4 = K) := ⟨_, rfl⟩
    obtain ⟨KD, hKD⟩ : ∃ K, Hid (l.drop 4 = K) := ⟨_, rfl⟩
    have hld4 : KD.length * 16 ≤ 140737488355328 := by rw [← hKD.out]; simp; omega
    have hlt4 : KT.length * 16 ≤ 140737488355328 := by rw [← hKT.out]; simp; omega
    have hz3 : w.heap.size + 3 ≤ w1.heap.size := by omega
    by_cases h5 : 4 < l.length
    · have hrd1 := hv1.take (k := 4) (by omega)
      have hrd2 := hv1.part (lo := 4) (m := l.length - 4) (by omega)
      rw [List.take_of_length_le (by simp)] at hrd2
      rw [hKT.out] at hrd1
      rw [hKD.out] at hrd2
      have h5' : (4 : Int) < l.length := by omega
      have c1 : (4 : Int) ≤ c := by omega
      have c2 : (4 : Int) ≤ l.length := by omega
      have c3 : (l.length : Int) ≤ c := by omega
      have c4 : 4 ≤ c := by omega
      have c5 : ¬ c = 4 := by omega
      have c6 : ¬ 4 = c := by omega
      have c7 : 4 ≤ l.length := by omega
      go_upto_region 11 with fail
      go_cut [9, 17, 26, 33] (fun p _ _ _ w' => ∃ gb A' c', p = .pointer (some ⟨gb, 0, none⟩) ∧ w1.heap.size ≤ gb ∧ Blk w' gb 31 #[.int .i64 au, .int .i64 nx, .slice A' KT.length c'] ∧ Below w1.heap.size w1 w' ∧ RTexts (View.from w'.cell? w1.heap.size) (.slice A' KT.length c') KT)
      case first =>
        refine wp_region_pl (fun w' => Below w1.heap.size w1 w') [10] (.q 0 (.q 1 (.q 2 (.q 3 (.q 4 (.q 5 (.q 6 (.alt 7 (.q 8 (.l 9 (.l 10 .nil))) 9 (.l 7 (.q 8 (.l 10 .nil))))))))))) (by kernel_rfl) (by kernel_rfl) (fun _ _ d _ _ h => by cases d <;> exact h) rfl (by kernel_rfl) ?_ ?_
        · exact below_drew _
        intro W hS1
        repeat (first
          | (refine pl_q (by assumption) rfl rfl ?_; apply Exists.intro; refine ⟨fun w' hS => ?_, ?_⟩; (· (have hq := hk1.kept hS; have h0 := hq.cell 0; have h1 := hq.cell 1; simp at h0 h1; go_simp; exact rfl)); simp only [List.getElem_toArray, List.getElem_cons_zero, List.getElem_cons_succ, Act.put, List.setIfInBounds_toArray, List.set_cons_zero, List.set_cons_succ])
          | (refine pl_qc rfl rfl ?_; apply Exists.intro; refine ⟨fun w' _ => ?_, ?_⟩; (· (go_simp; exact rfl)); simp only [List.getElem_toArray, List.getElem_cons_zero, List.getElem_cons_succ, Act.put, List.setIfInBounds_toArray, List.set_cons_zero, List.set_cons_succ])
          | (refine pl_skip (by assumption) rfl rfl ?_; simp only [List.getElem_toArray, List.getElem_cons_zero, List.getElem_cons_succ, Act.put, List.setIfInBounds_toArray, List.set_cons_zero, List.set_cons_succ])
          | (refine pl_skipl (by assumption) rfl rfl ?_; simp only [List.getElem_toArray, List.getElem_cons_zero, List.getElem_cons_succ, Act.put, List.setIfInBounds_toArray, List.set_cons_zero, List.set_cons_succ]))
        refine pl_alt ?_ ?_
        · first
            | refine pl_do rfl rfl (fun K hK => ?_)
            | refine op_do rfl rfl (fun K hK => ?_)
          try simp only [List.getElem_toArray, List.getElem_cons_zero, List.getElem_cons_succ]
          go_simp
          refine (cloneS_any _ KT _ ((hrd1).mono (vle_below hS1))).mono ?_
          rintro e w2 ⟨d', rfl, hj, hown⟩
          obtain ⟨A', c', rfl⟩ := hown.form
          have hb2 := hS1.trans (hj.mono hS1.size)
          have hz2 := hb2.size
          have hr2 := hown.reads_from (bs := 16) hlt4 (b0 := w1.heap.size) hS1.size (g := none) (by simp)
          refine hK.out _ _ (hb2) (fun hS => ?_)
          clear hK K
          try simp only [List.getElem_toArray, List.getElem_cons_zero, List.getElem_cons_succ, Act.put, List.setIfInBounds_toArray, List.set_cons_zero, List.set_cons_succ]
          repeat (first
            | (refine pl_q (by assumption) rfl rfl ?_; apply Exists.intro; refine ⟨fun w' hS => ?_, ?_⟩; (· (skip; go_simp; exact rfl)); simp only [List.getElem_toArray, List.getElem_cons_zero, List.getElem_cons_succ, Act.put, List.setIfInBounds_toArray, List.set_cons_zero, List.set_cons_succ])
            | (refine pl_qc rfl rfl ?_; apply Exists.intro; refine ⟨fun w' _ => ?_, ?_⟩; (· (go_simp; exact rfl)); simp only [List.getElem_toArray, List.getElem_cons_zero, List.getElem_cons_succ, Act.put, List.setIfInBounds_toArray, List.set_cons_zero, List.set_cons_succ])
            | (refine pl_skip (by assumption) rfl rfl ?_; simp only [List.getElem_toArray, List.getElem_cons_zero, List.getElem_cons_succ, Act.put, List.setIfInBounds_toArray, List.set_cons_zero, List.set_cons_succ])
            | (refine pl_skipl (by assumption) rfl rfl ?_; simp only [List.getElem_toArray, List.getElem_cons_zero, List.getElem_cons_succ, Act.put, List.setIfInBounds_toArray, List.set_cons_zero, List.set_cons_succ]))
          first
            | refine pl_do rfl rfl (fun K hK => ?_)
            | refine op_do rfl rfl (fun K hK => ?_)
          try simp only [List.getElem_toArray, List.getElem_cons_zero, List.getElem_cons_succ]
          go_simp
          have hb3 := below_one w2 (.cells #[.int .i64 0, .int .i64 0, .slice none 0 0] 31)
          have hbl3 := hb2.trans (hb3.mono hz2)
          have hn := Blk.new w2 31 #[.int .i64 0, .int .i64 0, .slice none 0 0]
          refine hK.out _ _ (hbl3) (fun hS => ?_)
          clear hK K
          try simp only [List.getElem_toArray, List.getElem_cons_zero, List.getElem_cons_succ, Act.put, List.setIfInBounds_toArray, List.set_cons_zero, List.set_cons_succ]
          first
            | refine pl_close rfl rfl rfl (fun K hK => ?_)
            | refine op_close rfl rfl rfl (fun K hK => ?_)
          try simp only [List.getElem_toArray, List.getElem_cons_zero, List.getElem_cons_succ]
          refine wp_store_whole (n := 3) rfl rfl rfl (by kernel_rfl) rfl hn rfl rfl ?_
          intro w4 hB4 hg4
          refine hK.out _ _ ?_
          clear hK K
          try simp only [List.getElem_toArray, List.getElem_cons_zero, List.getElem_cons_succ, Act.put, List.setIfInBounds_toArray, List.set_cons_zero, List.set_cons_succ]
          refine pl_nil ?_
          go_wp2_with fail
          go_meet
          exact ⟨_, A', c', rfl, hz2, hB4, below_grownBy hbl3 hbl3.size hg4 (by intro k e; injection e; omega), hr2.mono (vle_from _ ((View.but_le _ _).trans ((vle_butP hb3 (Nat.le_refl _)).trans (vle_grown hg4))))⟩
        · first
            | refine pl_do rfl rfl (fun K hK => ?_)
            | refine op_do rfl rfl (fun K hK => ?_)
          try simp only [List.getElem_toArray, List.getElem_cons_zero, List.getElem_cons_succ]
          go_simp
          have hb3 := below_one W (.cells #[.int .i64 0, .int .i64 0, .slice none 0 0] 31)
          have hbl3 := hS1.trans (hb3.mono hS1.size)
          have hn := Blk.new W 31 #[.int .i64 0, .int .i64 0, .slice none 0 0]
          have hz1' := hS1.size
          refine hK.out _ _ (hbl3) (fun hS => ?_)
          clear hK K
          try simp only [List.getElem_toArray, List.getElem_cons_zero, List.getElem_cons_succ, Act.put, List.setIfInBounds_toArray, List.set_cons_zero, List.set_cons_succ]
          first
            | refine pl_do rfl rfl (fun K hK => ?_)
            | refine op_do rfl rfl (fun K hK => ?_)
          try simp only [List.getElem_toArray, List.getElem_cons_zero, List.getElem_cons_succ]
          go_simp
          refine (cloneS_any _ KT _ ((hrd1).mono (vle_below hbl3))).mono ?_
          rintro e w2 ⟨d', rfl, hj, hown⟩
          obtain ⟨A', c', rfl⟩ := hown.form
          have hb2 := hbl3.trans (hj.mono hbl3.size)
          have hn2 := hn.kept hj
          have hz2 := hj.size
          simp at hz2
          have hr2 := hown.reads_from (bs := 16) hlt4 (b0 := w1.heap.size) hbl3.size (g := some W.heap.size) (by simp)
          refine hK.out _ _ (hb2) (fun hS => ?_)
          clear hK K
          try simp only [List.getElem_toArray, List.getElem_cons_zero, List.getElem_cons_succ, Act.put, List.setIfInBounds_toArray, List.set_cons_zero, List.set_cons_succ]
          repeat (first
            | (refine pl_q (by assumption) rfl rfl ?_; apply Exists.intro; refine ⟨fun w' hS => ?_, ?_⟩; (· (skip; go_simp; exact rfl)); simp only [List.getElem_toArray, List.getElem_cons_zero, List.getElem_cons_succ, Act.put, List.setIfInBounds_toArray, List.set_cons_zero, List.set_cons_succ])
            | (refine pl_qc rfl rfl ?_; apply Exists.intro; refine ⟨fun w' _ => ?_, ?_⟩; (· (go_simp; exact rfl)); simp only [List.getElem_toArray, List.getElem_cons_zero, List.getElem_cons_succ, Act.put, List.setIfInBounds_toArray, List.set_cons_zero, List.set_cons_succ])
            | (refine pl_skip (by assumption) rfl rfl ?_; simp only [List.getElem_toArray, List.getElem_cons_zero, List.getElem_cons_succ, Act.put, List.setIfInBounds_toArray, List.set_cons_zero, List.set_cons_succ])
            | (refine pl_skipl (by assumption) rfl rfl ?_; simp only [List.getElem_toArray, List.getElem_cons_zero, List.getElem_cons_succ, Act.put, List.setIfInBounds_toArray, List.set_cons_zero, List.set_cons_succ]))
          first
            | refine pl_close rfl rfl rfl (fun K hK => ?_)
            | refine op_close rfl rfl rfl (fun K hK => ?_)
          try simp only [List.getElem_toArray, List.getElem_cons_zero, List.getElem_cons_succ]
          refine wp_store_whole (n := 3) rfl rfl rfl (by kernel_rfl) rfl hn2 rfl rfl ?_
          intro w4 hB4 hg4
          refine hK.out _ _ ?_
          clear hK K
          try simp only [List.getElem_toArray, List.getElem_cons_zero, List.getElem_cons_succ, Act.put, List.setIfInBounds_toArray, List.set_cons_zero, List.set_cons_succ]
          refine pl_nil ?_
          go_wp2_with fail
          go_meet
          exact ⟨_, A', c', rfl, hz1', hB4, below_grownBy hb2 hb2.size hg4 (by intro k e; injection e; omega), hr2.mono (vle_from _ (vle_grown hg4))⟩
      case rest =>
        obtain ⟨gb, A', c', rfl, hgb, hkb, hbc, hrb⟩ := hcut
        have hk1c := hk1.kept hbc
        have hk2c := hk2.kept hbc
        have hk3c := hk3.kept hbc
        have hblc := hbl1.trans (hbc.mono hbl1.size)
        have hzc := hbc.size
        have hgbl := hkb.lt
        obtain ⟨nx1, hnx1⟩ : ∃ y : Int, Hid (nx + 1 = y) := ⟨_, rfl⟩
        have e1 : IntKind.i64.wrap (nx + 1) = nx1 := by rw [IntKind.wrap_i64, ← hnx1.out]; omega
        clear g0 g1
        go_wp2_with fail
        refine wp_region_pl0 (fun w' => Below wc.heap.size wc w') (fun w' => wc.grownBy w' (some (w.heap.size + 1))) [11, 12] (.q 0 (.q 1 (.q 2 (.q 3 (.q 4 (.q 5 (.q 6 (.q 9 (.l 7 (.q 8 (.l 10 (.l 11 (.qc 12 .nil))))))))))))) (by kernel_rfl) (by kernel_rfl) (fun _ _ d _ _ h => by cases d <;> exact h) rfl (by kernel_rfl) ?_ ?_
        · exact ⟨below_drew _, grownBy_drew _ _⟩
        intro W hS0 hS1
        have hS := hS1
        repeat (first
          | (refine pl_q (by assumption) rfl rfl ?_; apply Exists.intro; refine ⟨fun w' hS => ?_, ?_⟩; (· (have hq := hk1c.grown hS (by simp); have h0 := hq.cell 0; have h1 := hq.cell 1; have hq2 := hkb.grown hS (by simp; omega); have h2 := hq2.cell 0; have h3 := hq2.cell 1; have h4 := hq2.cell 2; simp at h0 h1 h2 h3 h4; go_simp; exact rfl)); simp only [List.getElem_toArray, List.getElem_cons_zero, List.getElem_cons_succ, Act.put, List.setIfInBounds_toArray, List.set_cons_zero, List.set_cons_succ])
          | (refine pl_qc rfl rfl ?_; apply Exists.intro; refine ⟨fun w' _ => ?_, ?_⟩; (· (go_simp; exact rfl)); simp only [List.getElem_toArray, List.getElem_cons_zero, List.getElem_cons_succ, Act.put, List.setIfInBounds_toArray, List.set_cons_zero, List.set_cons_succ])
          | (refine pl_skip (by assumption) rfl rfl ?_; simp only [List.getElem_toArray, List.getElem_cons_zero, List.getElem_cons_succ, Act.put, List.setIfInBounds_toArray, List.set_cons_zero, List.set_cons_succ])
          | (refine pl_skipl (by assumption) rfl rfl ?_; simp only [List.getElem_toArray, List.getElem_cons_zero, List.getElem_cons_succ, Act.put, List.setIfInBounds_toArray, List.set_cons_zero, List.set_cons_succ]))
        first
          | refine pl_do rfl rfl (fun K hK => ?_)
          | refine op_do rfl rfl (fun K hK => ?_)
        try simp only [List.getElem_toArray, List.getElem_cons_zero, List.getElem_cons_succ]
        go_simp
        refine (cloneS_any _ KD _ ((hrd2).mono ((vle_below hbc).trans (vle_below hS0)))).mono ?_
        rintro e w2 ⟨d', rfl, hj, hown⟩
        obtain ⟨B', e', rfl⟩ := hown.form
        have hb2 := hS0.trans (hj.mono hS0.size)
        have hz0 := hS0.size
        have hz2 := hj.size
        refine hK.out _ _ (grownBy_below _ hb2) (fun hS => ?_)
        clear hK K
        try simp only [List.getElem_toArray, List.getElem_cons_zero, List.getElem_cons_succ, Act.put, List.setIfInBounds_toArray, List.set_cons_zero, List.set_cons_succ]
        repeat (first
          | (refine pl_q (by assumption) rfl rfl ?_; apply Exists.intro; refine ⟨fun w' hS => ?_, ?_⟩; (· (skip; go_simp; exact rfl)); simp only [List.getElem_toArray, List.getElem_cons_zero, List.getElem_cons_succ, Act.put, List.setIfInBounds_toArray, List.set_cons_zero, List.set_cons_succ])
          | (refine pl_qc rfl rfl ?_; apply Exists.intro; refine ⟨fun w' _ => ?_, ?_⟩; (· (go_simp; exact rfl)); simp only [List.getElem_toArray, List.getElem_cons_zero, List.getElem_cons_succ, Act.put, List.setIfInBounds_toArray, List.set_cons_zero, List.set_cons_succ])
          | (refine pl_skip (by assumption) rfl rfl ?_; simp only [List.getElem_toArray, List.getElem_cons_zero, List.getElem_cons_succ, Act.put, List.setIfInBounds_toArray, List.set_cons_zero, List.set_cons_succ])
          | (refine pl_skipl (by assumption) rfl rfl ?_; simp only [List.getElem_toArray, List.getElem_cons_zero, List.getElem_cons_succ, Act.put, List.setIfInBounds_toArray, List.set_cons_zero, List.set_cons_succ]))
        first
          | refine pl_do rfl rfl (fun K hK => ?_)
          | refine op_do rfl rfl (fun K hK => ?_)
        try simp only [List.getElem_toArray, List.getElem_cons_zero, List.getElem_cons_succ]
        refine wp_store_whole (n := 2) rfl rfl rfl (by kernel_rfl) rfl (hk2c.kept hb2) rfl rfl ?_
        intro w3 hA hg3
        have hown3 := hown.grown hg3 (by omega)
        have hk33 := (hk3c.kept hb2).grown hg3 (by simp)
        have hrb3 := ((hrb.mono (vle_from _ (vle_below hb2))).mono (fromP hg3 (by omega)))
        refine hK.out _ _ (grownBy_trans (grownBy_below _ hb2) hg3) (fun hS => ?_)
        clear hK K
        try simp only [List.getElem_toArray, List.getElem_cons_zero, List.getElem_cons_succ, Act.put, List.setIfInBounds_toArray, List.set_cons_zero, List.set_cons_succ]
        first
          | refine pl_close rfl rfl rfl (fun K hK => ?_)
          | refine op_close rfl rfl rfl (fun K hK => ?_)
        try simp only [List.getElem_toArray, List.getElem_cons_zero, List.getElem_cons_succ]
        refine wp_store_whole (n := 3) rfl rfl rfl (by kernel_rfl) rfl hk33 rfl rfl ?_
        intro w4 hB hg4
        have hA := hA.grown hg4 (by simp)
        have hown4 := hown3.grown hg4 (by omega)
        refine hK.out _ _ ?_
        clear hK K
        try simp only [List.getElem_toArray, List.getElem_cons_zero, List.getElem_cons_succ, Act.put, List.setIfInBounds_toArray, List.set_cons_zero, List.set_cons_succ]
        repeat (first
          | (refine pl_q (by assumption) rfl rfl ?_; apply Exists.intro; refine ⟨fun w' hS => ?_, ?_⟩; (· (skip; go_simp; exact rfl)); simp only [List.getElem_toArray, List.getElem_cons_zero, List.getElem_cons_succ, Act.put, List.setIfInBounds_toArray, List.set_cons_zero, List.set_cons_succ])
          | (refine pl_qc rfl rfl ?_; apply Exists.intro; refine ⟨fun w' _ => ?_, ?_⟩; (· (go_simp; exact rfl)); simp only [List.getElem_toArray, List.getElem_cons_zero, List.getElem_cons_succ, Act.put, List.setIfInBounds_toArray, List.set_cons_zero, List.set_cons_succ])
          | (refine pl_skip (by assumption) rfl rfl ?_; simp only [List.getElem_toArray, List.getElem_cons_zero, List.getElem_cons_succ, Act.put, List.setIfInBounds_toArray, List.set_cons_zero, List.set_cons_succ])
          | (refine pl_skipl (by assumption) rfl rfl ?_; simp only [List.getElem_toArray, List.getElem_cons_zero, List.getElem_cons_succ, Act.put, List.setIfInBounds_toArray, List.set_cons_zero, List.set_cons_succ]))
        refine pl_nil ?_
        go_wp2
        refine bodyPost_ret (results_blk2_tmp rfl rfl rfl (by kernel_rfl) (by kernel_rfl) hA rfl (by kernel_rfl) (by kernel_rfl) hB rfl) rfl ?_
        have hbl5 : Below w.heap.size w w4 := below_grownBy (below_grownBy (hblc.trans (hb2.mono hblc.size)) (by omega) hg3 (by intro k e; injection e; omega)) (by have := hg3.size; omega) hg4 (by intro k e; injection e; omega)
        refine ⟨.slice B' KD.length e', .slice A' KT.length c', ?_, hbl5, ?_, ?_⟩
        · rw [H1.out, H2.out, H3.out, HE2.out, if_neg (by decide), if_neg (by decide), if_neg (by decide), hnx1.out]
          rfl
        · rw [H4.out, HE2.out, if_neg (by decide), hKD.out]
          exact hown4.reads hld4
        · rw [H5.out, HE2.out, if_neg (by decide), hKT.out]
          exact (hrb3.mono (fromP hg4 (by omega))).mono (View.from_le _ _)
    have h5' : ¬ (4 : Int) < l.length := by omega
    have h6 : (l.length : Int) ≤ 4 := by omega
    have h7 : min (l.length : Int) 4 = l.length := by omega
    have hrd1 := hv1
    have hKT1 : KT = l := by rw [← hKT.out]; exact List.take_of_length_le (by omega)
    have hKD1 : KD.length = 0 := by rw [← hKD.out]; simp; omega
    have c3 : (l.length : Int) ≤ c := by omega
    have hrd1 : RTexts w1.cell? (.slice A l.length c) KT := by rw [hKT1]; exact hv1
    have HKT1 := Lib.hid hKT1
    clear hKT1
    by_cases hcl : l.length = c
    · have hrd2 : RTexts w1.cell? (.slice A 0 0) KD := RVec.stub _ _ _ _ rfl hKD1
      clear hKD1
      subst hcl
      go_upto_region 11 with fail
      go_cut [9, 17, 26, 33] (fun p _ _ _ w' => ∃ gb A' c', p = .pointer (some ⟨gb, 0, none⟩) ∧ w1.heap.size ≤ gb ∧ Blk w' gb 31 #[.int .i64 au, .int .i64 nx, .slice A' KT.length c'] ∧ Below w1.heap.size w1 w' ∧ RTexts (View.from w'.cell? w1.heap.size) (.slice A' KT.length c') KT)
      case first =>
        refine wp_region_pl (fun w' => Below w1.heap.size w1 w') [10] (.q 0 (.q 1 (.q 2 (.q 3 (.q 4 (.q 5 (.q 6 (.alt 7 (.q 8 (.l 9 (.l 10 .nil))) 9 (.l 7 (.q 8 (.l 10 .nil))))))))))) (by kernel_rfl) (by kernel_rfl) (fun _ _ d _ _ h => by cases d <;> exact h) rfl (by kernel_rfl) ?_ ?_
        · exact below_drew _
        intro W hS1
        repeat (first
          | (refine pl_q (by assumption) rfl rfl ?_; apply Exists.intro; refine ⟨fun w' hS => ?_, ?_⟩; (· (have hq := hk1.kept hS; have h0 := hq.cell 0; have h1 := hq.cell 1; simp at h0 h1; go_simp; exact rfl)); simp only [List.getElem_toArray, List.getElem_cons_zero, List.getElem_cons_succ, Act.put, List.setIfInBounds_toArray, List.set_cons_zero, List.set_cons_succ])
          | (refine pl_qc rfl rfl ?_; apply Exists.intro; refine ⟨fun w' _ => ?_, ?_⟩; (· (go_simp; exact rfl)); simp only [List.getElem_toArray, List.getElem_cons_zero, List.getElem_cons_succ, Act.put, List.setIfInBounds_toArray, List.set_cons_zero, List.set_cons_succ])
          | (refine pl_skip (by assumption) rfl rfl ?_; simp only [List.getElem_toArray, List.getElem_cons_zero, List.getElem_cons_succ, Act.put, List.setIfInBounds_toArray, List.set_cons_zero, List.set_cons_succ])
          | (refine pl_skipl (by assumption) rfl rfl ?_; simp only [List.getElem_toArray, List.getElem_cons_zero, List.getElem_cons_succ, Act.put, List.setIfInBounds_toArray, List.set_cons_zero, List.set_cons_succ]))
        refine pl_alt ?_ ?_
        · first
            | refine pl_do rfl rfl (fun K hK => ?_)
            | refine op_do rfl rfl (fun K hK => ?_)
          try simp only [List.getElem_toArray, List.getElem_cons_zero, List.getElem_cons_succ]
          go_simp
          refine (cloneS_any _ KT _ ((hrd1).mono (vle_below hS1))).mono ?_
          rintro e w2 ⟨d', rfl, hj, hown⟩
          obtain ⟨A', c', rfl⟩ := hown.form
          have hb2 := hS1.trans (hj.mono hS1.size)
          have hz2 := hb2.size
          have hr2 := hown.reads_from (bs := 16) hlt4 (b0 := w1.heap.size) hS1.size (g := none) (by simp)
          refine hK.out _ _ (hb2) (fun hS => ?_)
          clear hK K
          try simp only [List.getElem_toArray, List.getElem_cons_zero, List.getElem_cons_succ, Act.put, List.setIfInBounds_toArray, List.set_cons_zero, List.set_cons_succ]
          repeat (first
            | (refine pl_q (by assumption) rfl rfl ?_; apply Exists.intro; refine ⟨fun w' hS => ?_, ?_⟩; (· (skip; go_simp; exact rfl)); simp only [List.getElem_toArray, List.getElem_cons_zero, List.getElem_cons_succ, Act.put, List.setIfInBounds_toArray, List.set_cons_zero, List.set_cons_succ])
            | (refine pl_qc rfl rfl ?_; apply Exists.intro; refine ⟨fun w' _ => ?_, ?_⟩; (· (go_simp; exact rfl)); simp only [List.getElem_toArray, List.getElem_cons_zero, List.getElem_cons_succ, Act.put, List.setIfInBounds_toArray, List.set_cons_zero, List.set_cons_succ])
            | (refine pl_skip (by assumption) rfl rfl ?_; simp only [List.getElem_toArray, List.getElem_cons_zero, List.getElem_cons_succ, Act.put, List.setIfInBounds_toArray, List.set_cons_zero, List.set_cons_succ])
            | (refine pl_skipl (by assumption) rfl rfl ?_; simp only [List.getElem_toArray, List.getElem_cons_zero, List.getElem_cons_succ, Act.put, List.setIfInBounds_toArray, List.set_cons_zero, List.set_cons_succ]))
          first
            | refine pl_do rfl rfl (fun K hK => ?_)
            | refine op_do rfl rfl (fun K hK => ?_)
          try simp only [List.getElem_toArray, List.getElem_cons_zero, List.getElem_cons_succ]
          go_simp
          have hb3 := below_one w2 (.cells #[.int .i64 0, .int .i64 0, .slice none 0 0] 31)
          have hbl3 := hb2.trans (hb3.mono hz2)
          have hn := Blk.new w2 31 #[.int .i64 0, .int .i64 0, .slice none 0 0]
          refine hK.out _ _ (hbl3) (fun hS => ?_)
          clear hK K
          try simp only [List.getElem_toArray, List.getElem_cons_zero, List.getElem_cons_succ, Act.put, List.setIfInBounds_toArray, List.set_cons_zero, List.set_cons_succ]
          first
            | refine pl_close rfl rfl rfl (fun K hK => ?_)
            | refine op_close rfl rfl rfl (fun K hK => ?_)
          try simp only [List.getElem_toArray, List.getElem_cons_zero, List.getElem_cons_succ]
          refine wp_store_whole (n := 3) rfl rfl rfl (by kernel_rfl) rfl hn rfl rfl ?_
          intro w4 hB4 hg4
          refine hK.out _ _ ?_
          clear hK K
          try simp only [List.getElem_toArray, List.getElem_cons_zero, List.getElem_cons_succ, Act.put, List.setIfInBounds_toArray, List.set_cons_zero, List.set_cons_succ]
          refine pl_nil ?_
          go_wp2_with fail
          go_meet
          exact ⟨_, A', c', rfl, hz2, hB4, below_grownBy hbl3 hbl3.size hg4 (by intro k e; injection e; omega), hr2.mono (vle_from _ ((View.but_le _ _).trans ((vle_butP hb3 (Nat.le_refl _)).trans (vle_grown hg4))))⟩
        · first
            | refine pl_do rfl rfl (fun K hK => ?_)
            | refine op_do rfl rfl (fun K hK => ?_)
          try simp only [List.getElem_toArray, List.getElem_cons_zero, List.getElem_cons_succ]
          go_simp
          have hb3 := below_one W (.cells #[.int .i64 0, .int .i64 0, .slice none 0 0] 31)
          have hbl3 := hS1.trans (hb3.mono hS1.size)
          have hn := Blk.new W 31 #[.int .i64 0, .int .i64 0, .slice none 0 0]
          have hz1' := hS1.size
          refine hK.out _ _ (hbl3) (fun hS => ?_)
          clear hK K
          try simp only [List.getElem_toArray, List.getElem_cons_zero, List.getElem_cons_succ, Act.put, List.setIfInBounds_toArray, List.set_cons_zero, List.set_cons_succ]
          first
            | refine pl_do rfl rfl (fun K hK => ?_)
            | refine op_do rfl rfl (fun K hK => ?_)
          try simp only [List.getElem_toArray, List.getElem_cons_zero, List.getElem_cons_succ]
          go_simp
          refine (cloneS_any _ KT _ ((hrd1).mono (vle_below hbl3))).mono ?_
          rintro e w2 ⟨d', rfl, hj, hown⟩
          obtain ⟨A', c', rfl⟩ := hown.form
          have hb2 := hbl3.trans (hj.mono hbl3.size)
          have hn2 := hn.kept hj
          have hz2 := hj.size
          simp at hz2
          have hr2 := hown.reads_from (bs := 16) hlt4 (b0 := w1.heap.size) hbl3.size (g := some W.heap.size) (by simp)
          refine hK.out _ _ (hb2) (fun hS => ?_)
          clear hK K
          try simp only [List.getElem_toArray, List.getElem_cons_zero, List.getElem_cons_succ, Act.put, List.setIfInBounds_toArray, List.set_cons_zero, List.set_cons_succ]
          repeat (first
            | (refine pl_q (by assumption) rfl rfl ?_; apply Exists.intro; refine ⟨fun w' hS => ?_, ?_⟩; (· (skip; go_simp; exact rfl)); simp only [List.getElem_toArray, List.getElem_cons_zero, List.getElem_cons_succ, Act.put, List.setIfInBounds_toArray, List.set_cons_zero, List.set_cons_succ])
            | (refine pl_qc rfl rfl ?_; apply Exists.intro; refine ⟨fun w' _ => ?_, ?_⟩; (· (go_simp; exact rfl)); simp only [List.getElem_toArray, List.getElem_cons_zero, List.getElem_cons_succ, Act.put, List.setIfInBounds_toArray, List.set_cons_zero, List.set_cons_succ])
            | (refine pl_skip (by assumption) rfl rfl ?_; simp only [List.getElem_toArray, List.getElem_cons_zero, List.getElem_cons_succ, Act.put, List.setIfInBounds_toArray, List.set_cons_zero, List.set_cons_succ])
            | (refine pl_skipl (by assumption) rfl rfl ?_; simp only [List.getElem_toArray, List.getElem_cons_zero, List.getElem_cons_succ, Act.put, List.setIfInBounds_toArray, List.set_cons_zero, List.set_cons_succ]))
          first
            | refine pl_close rfl rfl rfl (fun K hK => ?_)
            | refine op_close rfl rfl rfl (fun K hK => ?_)
          try simp only [List.getElem_toArray, List.getElem_cons_zero, List.getElem_cons_succ]
          refine wp_store_whole (n := 3) rfl rfl rfl (by kernel_rfl) rfl hn2 rfl rfl ?_
          intro w4 hB4 hg4
          refine hK.out _ _ ?_
          clear hK K
          try simp only [List.getElem_toArray, List.getElem_cons_zero, List.getElem_cons_succ, Act.put, List.setIfInBounds_toArray, List.set_cons_zero, List.set_cons_succ]
          refine pl_nil ?_
          go_wp2_with fail
          go_meet
          exact ⟨_, A', c', rfl, hz1', hB4, below_grownBy hb2 hb2.size hg4 (by intro k e; injection e; omega), hr2.mono (vle_from _ (vle_grown hg4))⟩
      case rest =>
        obtain ⟨gb, A', c', rfl, hgb, hkb, hbc, hrb⟩ := hcut
        have hk1c := hk1.kept hbc
        have hk2c := hk2.kept hbc
        have hk3c := hk3.kept hbc
        have hblc := hbl1.trans (hbc.mono hbl1.size)
        have hzc := hbc.size
        have hgbl := hkb.lt
        obtain ⟨nx1, hnx1⟩ : ∃ y : Int, Hid (nx + 1 = y) := ⟨_, rfl⟩
        have e1 : IntKind.i64.wrap (nx + 1) = nx1 := by rw [IntKind.wrap_i64, ← hnx1.out]; omega
        clear g0 g1
        go_wp2_with fail
        refine wp_region_pl0 (fun w' => Below wc.heap.size wc w') (fun w' => wc.grownBy w' (some (w.heap.size + 1))) [11, 12] (.q 0 (.q 1 (.q 2 (.q 3 (.q 4 (.q 5 (.q 6 (.q 9 (.l 7 (.q 8 (.l 10 (.l 11 (.qc 12 .nil))))))))))))) (by kernel_rfl) (by kernel_rfl) (fun _ _ d _ _ h => by cases d <;> exact h) rfl (by kernel_rfl) ?_ ?_
        · exact ⟨below_drew _, grownBy_drew _ _⟩
        intro W hS0 hS1
        have hS := hS1
        repeat (first
          | (refine pl_q (by assumption) rfl rfl ?_; apply Exists.intro; refine ⟨fun w' hS => ?_, ?_⟩; (· (have hq := hk1c.grown hS (by simp); have h0 := hq.cell 0; have h1 := hq.cell 1; have hq2 := hkb.grown hS (by simp; omega); have h2 := hq2.cell 0; have h3 := hq2.cell 1; have h4 := hq2.cell 2; simp at h0 h1 h2 h3 h4; go_simp; exact rfl)); simp only [List.getElem_toArray, List.getElem_cons_zero, List.getElem_cons_succ, Act.put, List.setIfInBounds_toArray, List.set_cons_zero, List.set_cons_succ])
          | (refine pl_qc rfl rfl ?_; apply Exists.intro; refine ⟨fun w' _ => ?_, ?_⟩; (· (go_simp; exact rfl)); simp only [List.getElem_toArray, List.getElem_cons_zero, List.getElem_cons_succ, Act.put, List.setIfInBounds_toArray, List.set_cons_zero, List.set_cons_succ])
          | (refine pl_skip (by assumption) rfl rfl ?_; simp only [List.getElem_toArray, List.getElem_cons_zero, List.getElem_cons_succ, Act.put, List.setIfInBounds_toArray, List.set_cons_zero, List.set_cons_succ])
          | (refine pl_skipl (by assumption) rfl rfl ?_; simp only [List.getElem_toArray, List.getElem_cons_zero, List.getElem_cons_succ, Act.put, List.setIfInBounds_toArray, List.set_cons_zero, List.set_cons_succ]))
        first
          | refine pl_do rfl rfl (fun K hK => ?_)
          | refine op_do rfl rfl (fun K hK => ?_)
        try simp only [List.getElem_toArray, List.getElem_cons_zero, List.getElem_cons_succ]
        go_simp
        refine (cloneS_any _ KD _ ((hrd2).mono ((vle_below hbc).trans (vle_below hS0)))).mono ?_
        rintro e w2 ⟨d', rfl, hj, hown⟩
        obtain ⟨B', e', rfl⟩ := hown.form
        have hb2 := hS0.trans (hj.mono hS0.size)
        have hz0 := hS0.size
        have hz2 := hj.size
        refine hK.out _ _ (grownBy_below _ hb2) (fun hS => ?_)
        clear hK K
        try simp only [List.getElem_toArray, List.getElem_cons_zero, List.getElem_cons_succ, Act.put, List.setIfInBounds_toArray, List.set_cons_zero, List.set_cons_succ]
        repeat (first
          | (refine pl_q (by assumption) rfl rfl ?_; apply Exists.intro; refine ⟨fun w' hS => ?_, ?_⟩; (· (skip; go_simp; exact rfl)); simp only [List.getElem_toArray, List.getElem_cons_zero, List.getElem_cons_succ, Act.put, List.setIfInBounds_toArray, List.set_cons_zero, List.set_cons_succ])
          | (refine pl_qc rfl rfl ?_; apply Exists.intro; refine ⟨fun w' _ => ?_, ?_⟩; (· (go_simp; exact rfl)); simp only [List.getElem_toArray, List.getElem_cons_zero, List.getElem_cons_succ, Act.put, List.setIfInBounds_toArray, List.set_cons_zero, List.set_cons_succ])
          | (refine pl_skip (by assumption) rfl rfl ?_; simp only [List.getElem_toArray, List.getElem_cons_zero, List.getElem_cons_succ, Act.put, List.setIfInBounds_toArray, List.set_cons_zero, List.set_cons_succ])
          | (refine pl_skipl (by assumption) rfl rfl ?_; simp only [List.getElem_toArray, List.getElem_cons_zero, List.getElem_cons_succ, Act.put, List.setIfInBounds_toArray, List.set_cons_zero, List.set_cons_succ]))
        first
          | refine pl_do rfl rfl (fun K hK => ?_)
          | refine op_do rfl rfl (fun K hK => ?_)
        try simp only [List.getElem_toArray, List.getElem_cons_zero, List.getElem_cons_succ]
        refine wp_store_whole (n := 2) rfl rfl rfl (by kernel_rfl) rfl (hk2c.kept hb2) rfl rfl ?_
        intro w3 hA hg3
        have hown3 := hown.grown hg3 (by omega)
        have hk33 := (hk3c.kept hb2).grown hg3 (by simp)
        have hrb3 := ((hrb.mono (vle_from _ (vle_below hb2))).mono (fromP hg3 (by omega)))
        refine hK.out _ _ (grownBy_trans (grownBy_below _ hb2) hg3) (fun hS => ?_)
        clear hK K
        try simp only [List.getElem_toArray, List.getElem_cons_zero, List.getElem_cons_succ, Act.put, List.setIfInBounds_toArray, List.set_cons_zero, List.set_cons_succ]
        first
          | refine pl_close rfl rfl rfl (fun K hK => ?_)
          | refine op_close rfl rfl rfl (fun K hK => ?_)
        try simp only [List.getElem_toArray, List.getElem_cons_zero, List.getElem_cons_succ]
        refine wp_store_whole (n := 3) rfl rfl rfl (by kernel_rfl) rfl hk33 rfl rfl ?_
        intro w4 hB hg4
        have hA := hA.grown hg4 (by simp)
        have hown4 := hown3.grown hg4 (by omega)
        refine hK.out _ _ ?_
        clear hK K
        try simp only [List.getElem_toArray, List.getElem_cons_zero, List.getElem_cons_succ, Act.put, List.setIfInBounds_toArray, List.set_cons_zero, List.set_cons_succ]
        repeat (first
          | (refine pl_q (by assumption) rfl rfl ?_; apply Exists.intro; refine ⟨fun w' hS => ?_, ?_⟩; (· (skip; go_simp; exact rfl)); simp only [List.getElem_toArray, List.getElem_cons_zero, List.getElem_cons_succ, Act.put, List.setIfInBounds_toArray, List.set_cons_zero, List.set_cons_succ])
          | (refine pl_qc rfl rfl ?_; apply Exists.intro; refine ⟨fun w' _ => ?_, ?_⟩; (· (go_simp; exact rfl)); simp only [List.getElem_toArray, List.getElem_cons_zero, List.getElem_cons_succ, Act.put, List.setIfInBounds_toArray, List.set_cons_zero, List.set_cons_succ])
          | (refine pl_skip (by assumption) rfl rfl ?_; simp only [List.getElem_toArray, List.getElem_cons_zero, List.getElem_cons_succ, Act.put, List.setIfInBounds_toArray, List.set_cons_zero, List.set_cons_succ])
          | (refine pl_skipl (by assumption) rfl rfl ?_; simp only [List.getElem_toArray, List.getElem_cons_zero, List.getElem_cons_succ, Act.put, List.setIfInBounds_toArray, List.set_cons_zero, List.set_cons_succ]))
        refine pl_nil ?_
        go_wp2
        refine bodyPost_ret (results_blk2_tmp rfl rfl rfl (by kernel_rfl) (by kernel_rfl) hA rfl (by kernel_rfl) (by kernel_rfl) hB rfl) rfl ?_
        have hbl5 : Below w.heap.size w w4 := below_grownBy (below_grownBy (hblc.trans (hb2.mono hblc.size)) (by omega) hg3 (by intro k e; injection e; omega)) (by have := hg3.size; omega) hg4 (by intro k e; injection e; omega)
        refine ⟨.slice B' KD.length e', .slice A' KT.length c', ?_, hbl5, ?_, ?_⟩
        · rw [H1.out, H2.out, H3.out, HE2.out, if_neg (by decide), if_neg (by decide), if_neg (by decide), hnx1.out]
          rfl
        · rw [H4.out, HE2.out, if_neg (by decide), hKD.out]
          exact hown4.reads hld4
        · rw [H5.out, HE2.out, if_neg (by decide), hKT.out]
          exact (hrb3.mono (fromP hg4 (by omega))).mono (View.from_le _ _)
    · have hrd2 := hv1.part (lo := l.length) (m := 0) (by omega)
      have hcl1 : ¬ c = l.length := by omega
      have hcl2 : ¬ (l.length : Int) = c := by omega
      rw [show (l.drop l.length).take 0 = KD from by rw [List.take_zero]; exact (List.eq_nil_of_length_eq_zero hKD1).symm] at hrd2
      clear hKD1
      go_upto_region 11 with fail
      go_cut [9, 17, 26, 33] (fun p _ _ _ w' => ∃ gb A' c', p = .pointer (some ⟨gb, 0, none⟩) ∧ w1.heap.size ≤ gb ∧ Blk w' gb 31 #[.int .i64 au, .int .i64 nx, .slice A' KT.length c'] ∧ Below w1.heap.size w1 w' ∧ RTexts (View.from w'.cell? w1.heap.size) (.slice A' KT.length c') KT)
      case first =>
        refine wp_region_pl (fun w' => Below w1.heap.size w1 w') [10] (.q 0 (.q 1 (.q 2 (.q 3 (.q 4 (.q 5 (.q 6 (.alt 7 (.q 8 (.l 9 (.l 10 .nil))) 9 (.l 7 (.q 8 (.l 10 .nil))))))))))) (by kernel_rfl) (by kernel_rfl) (fun _ _ d _ _ h => by cases d <;> exact h) rfl (by kernel_rfl) ?_ ?_
        · exact below_drew _
        intro W hS1
        repeat (first
          | (refine pl_q (by assumption) rfl rfl ?_; apply Exists.intro; refine ⟨fun w' hS => ?_, ?_⟩; (· (have hq := hk1.kept hS; have h0 := hq.cell 0; have h1 := hq.cell 1; simp at h0 h1; go_simp; exact rfl)); simp only [List.getElem_toArray, List.getElem_cons_zero, List.getElem_cons_succ, Act.put, List.setIfInBounds_toArray, List.set_cons_zero, List.set_cons_succ])
          | (refine pl_qc rfl rfl ?_; apply Exists.intro; refine ⟨fun w' _ => ?_, ?_⟩; (· (go_simp; exact rfl)); simp only [List.getElem_toArray, List.getElem_cons_zero, List.getElem_cons_succ, Act.put, List.setIfInBounds_toArray, List.set_cons_zero, List.set_cons_succ])
          | (refine pl_skip (by assumption) rfl rfl ?_; simp only [List.getElem_toArray, List.getElem_cons_zero, List.getElem_cons_succ, Act.put, List.setIfInBounds_toArray, List.set_cons_zero, List.set_cons_succ])
          | (refine pl_skipl (by assumption) rfl rfl ?_; simp only [List.getElem_toArray, List.getElem_cons_zero, List.getElem_cons_succ, Act.put, List.setIfInBounds_toArray, List.set_cons_zero, List.set_cons_succ]))
        refine pl_alt ?_ ?_
        · first
            | refine pl_do rfl rfl (fun K hK => ?_)
            | refine op_do rfl rfl (fun K hK => ?_)
          try simp only [List.getElem_toArray, List.getElem_cons_zero, List.getElem_cons_succ]
          go_simp
          refine (cloneS_any _ KT _ ((hrd1).mono (vle_below hS1))).mono ?_
          rintro e w2 ⟨d', rfl, hj, hown⟩
          obtain ⟨A', c', rfl⟩ := hown.form
          have hb2 := hS1.trans (hj.mono hS1.size)
          have hz2 := hb2.size
          have hr2 := hown.reads_from (bs := 16) hlt4 (b0 := w1.heap.size) hS1.size (g := none) (by simp)
          refine hK.out _ _ (hb2) (fun hS => ?_)
          clear hK K
          try simp only [List.getElem_toArray, List.getElem_cons_zero, List.getElem_cons_succ, Act.put, List.setIfInBounds_toArray, List.set_cons_zero, List.set_cons_succ]
          repeat (first
            | (refine pl_q (by assumption) rfl rfl ?_; apply Exists.intro; refine ⟨fun w' hS => ?_, ?_⟩; (· (skip; go_simp; exact rfl)); simp only [List.getElem_toArray, List.getElem_cons_zero, List.getElem_cons_succ, Act.put, List.setIfInBounds_toArray, List.set_cons_zero, List.set_cons_succ])
            | (refine pl_qc rfl rfl ?_; apply Exists.intro; refine ⟨fun w' _ => ?_, ?_⟩; (· (go_simp; exact rfl)); simp only [List.getElem_toArray, List.getElem_cons_zero, List.getElem_cons_succ, Act.put, List.setIfInBounds_toArray, List.set_cons_zero, List.set_cons_succ])
            | (refine pl_skip (by assumption) rfl rfl ?_; simp only [List.getElem_toArray, List.getElem_cons_zero, List.getElem_cons_succ, Act.put, List.setIfInBounds_toArray, List.set_cons_zero, List.set_cons_succ])
            | (refine pl_skipl (by assumption) rfl rfl ?_; simp only [List.getElem_toArray, List.getElem_cons_zero, List.getElem_cons_succ, Act.put, List.setIfInBounds_toArray, List.set_cons_zero, List.set_cons_succ]))
          first
            | refine pl_do rfl rfl (fun K hK => ?_)
            | refine op_do rfl rfl (fun K hK => ?_)
          try simp only [List.getElem_toArray, List.getElem_cons_zero, List.getElem_cons_succ]
          go_simp
          have hb3 := below_one w2 (.cells #[.int .i64 0, .int .i64 0, .slice none 0 0] 31)
          have hbl3 := hb2.trans (hb3.mono hz2)
          have hn := Blk.new w2 31 #[.int .i64 0, .int .i64 0, .slice none 0 0]
          refine hK.out _ _ (hbl3) (fun hS => ?_)
          clear hK K
          try simp only [List.getElem_toArray, List.getElem_cons_zero, List.getElem_cons_succ, Act.put, List.setIfInBounds_toArray, List.set_cons_zero, List.set_cons_succ]
          first
            | refine pl_close rfl rfl rfl (fun K hK => ?_)
            | refine op_close rfl rfl rfl (fun K hK => ?_)
          try simp only [List.getElem_toArray, List.getElem_cons_zero, List.getElem_cons_succ]
          refine wp_store_whole (n := 3) rfl rfl rfl (by kernel_rfl) rfl hn rfl rfl ?_
          intro w4 hB4 hg4
          refine hK.out _ _ ?_
          clear hK K
          try simp only [List.getElem_toArray, List.getElem_cons_zero, List.getElem_cons_succ, Act.put, List.setIfInBounds_toArray, List.set_cons_zero, List.set_cons_succ]
          refine pl_nil ?_
          go_wp2_with fail
          go_meet
          exact ⟨_, A', c', rfl, hz2, hB4, below_grownBy hbl3 hbl3.size hg4 (by intro k e; injection e; omega), hr2.mono (vle_from _ ((View.but_le _ _).trans ((vle_butP hb3 (Nat.le_refl _)).trans (vle_grown hg4))))⟩
        · first
            | refine pl_do rfl rfl (fun K hK => ?_)
            | refine op_do rfl rfl (fun K hK => ?_)
          try simp only [List.getElem_toArray, List.getElem_cons_zero, List.getElem_cons_succ]
          go_simp
          have hb3 := below_one W (.cells #[.int .i64 0, .int .i64 0, .slice none 0 0] 31)
          have hbl3 := hS1.trans (hb3.mono hS1.size)
          have hn := Blk.new W 31 #[.int .i64 0, .int .i64 0, .slice none 0 0]
          have hz1' := hS1.size
          refine hK.out _ _ (hbl3) (fun hS => ?_)
          clear hK K
          try simp only [List.getElem_toArray, List.getElem_cons_zero, List.getElem_cons_succ, Act.put, List.setIfInBounds_toArray, List.set_cons_zero, List.set_cons_succ]
          first
            | refine pl_do rfl rfl (fun K hK => ?_)
            | refine op_do rfl rfl (fun K hK => ?_)
          try simp only [List.getElem_toArray, List.getElem_cons_zero, List.getElem_cons_succ]
          go_simp
          refine (cloneS_any _ KT _ ((hrd1).mono (vle_below hbl3))).mono ?_
          rintro e w2 ⟨d', rfl, hj, hown⟩
          obtain ⟨A', c', rfl⟩ := hown.form
          have hb2 := hbl3.trans (hj.mono hbl3.size)
          have hn2 := hn.kept hj
          have hz2 := hj.size
          simp at hz2
          have hr2 := hown.reads_from (bs := 16) hlt4 (b0 := w1.heap.size) hbl3.size (g := some W.heap.size) (by simp)
          refine hK.out _ _ (hb2) (fun hS => ?_)
          clear hK K
          try simp only [List.getElem_toArray, List.getElem_cons_zero, List.getElem_cons_succ, Act.put, List.setIfInBounds_toArray, List.set_cons_zero, List.set_cons_succ]
          repeat (first
            | (refine pl_q (by assumption) rfl rfl ?_; apply Exists.intro; refine ⟨fun w' hS => ?_, ?_⟩; (· (skip; go_simp; exact rfl)); simp only [List.getElem_toArray, List.getElem_cons_zero, List.getElem_cons_succ, Act.put, List.setIfInBounds_toArray, List.set_cons_zero, List.set_cons_succ])
            | (refine pl_qc rfl rfl ?_; apply Exists.intro; refine ⟨fun w' _ => ?_, ?_⟩; (· (go_simp; exact rfl)); simp only [List.getElem_toArray, List.getElem_cons_zero, List.getElem_cons_succ, Act.put, List.setIfInBounds_toArray, List.set_cons_zero, List.set_cons_succ])
            | (refine pl_skip (by assumption) rfl rfl ?_; simp only [List.getElem_toArray, List.getElem_cons_zero, List.getElem_cons_succ, Act.put, List.setIfInBounds_toArray, List.set_cons_zero, List.set_cons_succ])
            | (refine pl_skipl (by assumption) rfl rfl ?_; simp only [List.getElem_toArray, List.getElem_cons_zero, List.getElem_cons_succ, Act.put, List.setIfInBounds_toArray, List.set_cons_zero, List.set_cons_succ]))
          first
            | refine pl_close rfl rfl rfl (fun K hK => ?_)
            | refine op_close rfl rfl rfl (fun K hK => ?_)
          try simp only [List.getElem_toArray, List.getElem_cons_zero, List.getElem_cons_succ]
          refine wp_store_whole (n := 3) rfl rfl rfl (by kernel_rfl) rfl hn2 rfl rfl ?_
          intro w4 hB4 hg4
          refine hK.out _ _ ?_
          clear hK K
          try simp only [List.getElem_toArray, List.getElem_cons_zero, List.getElem_cons_succ, Act.put, List.setIfInBounds_toArray, List.set_cons_zero, List.set_cons_succ]
          refine pl_nil ?_
          go_wp2_with fail
          go_meet
          exact ⟨_, A', c', rfl, hz1', hB4, below_grownBy hb2 hb2.size hg4 (by intro k e; injection e; omega), hr2.mono (vle_from _ (vle_grown hg4))⟩
      case rest =>
        obtain ⟨gb, A', c', rfl, hgb, hkb, hbc, hrb⟩ := hcut
        have hk1c := hk1.kept hbc
        have hk2c := hk2.kept hbc
        have hk3c := hk3.kept hbc
        have hblc := hbl1.trans (hbc.mono hbl1.size)
        have hzc := hbc.size
        have hgbl := hkb.lt
        obtain ⟨nx1, hnx1⟩ : ∃ y : Int, Hid (nx + 1 = y) := ⟨_, rfl⟩
        have e1 : IntKind.i64.wrap (nx + 1) = nx1 := by rw [IntKind.wrap_i64, ← hnx1.out]; omega
        clear g0 g1
        go_wp2_with fail
        refine wp_region_pl0 (fun w' => Below wc.heap.size wc w') (fun w' => wc.grownBy w' (some (w.heap.size + 1))) [11, 12] (.q 0 (.q 1 (.q 2 (.q 3 (.q 4 (.q 5 (.q 6 (.q 9 (.l 7 (.q 8 (.l 10 (.l 11 (.qc 12 .nil))))))))))))) (by kernel_rfl) (by kernel_rfl) (fun _ _ d _ _ h => by cases d <;> exact h) rfl (by kernel_rfl) ?_ ?_
        · exact ⟨below_drew _, grownBy_drew _ _⟩
        intro W hS0 hS1
        have hS := hS1
        repeat (first
          | (refine pl_q (by assumption) rfl rfl ?_; apply Exists.intro; refine ⟨fun w' hS => ?_, ?_⟩; (· (have hq := hk1c.grown hS (by simp); have h0 := hq.cell 0; have h1 := hq.cell 1; have hq2 := hkb.grown hS (by simp; omega); have h2 := hq2.cell 0; have h3 := hq2.cell 1; have h4 := hq2.cell 2; simp at h0 h1 h2 h3 h4; go_simp; exact rfl)); simp only [List.getElem_toArray, List.getElem_cons_zero, List.getElem_cons_succ, Act.put, List.setIfInBounds_toArray, List.set_cons_zero, List.set_cons_succ])
          | (refine pl_qc rfl rfl ?_; apply Exists.intro; refine ⟨fun w' _ => ?_, ?_⟩; (· (go_simp; exact rfl)); simp only [List.getElem_toArray, List.getElem_cons_zero, List.getElem_cons_succ, Act.put, List.setIfInBounds_toArray, List.set_cons_zero, List.set_cons_succ])
          | (refine pl_skip (by assumption) rfl rfl ?_; simp only [List.getElem_toArray, List.getElem_cons_zero, List.getElem_cons_succ, Act.put, List.setIfInBounds_toArray, List.set_cons_zero, List.set_cons_succ])
          | (refine pl_skipl (by assumption) rfl rfl ?_; simp only [List.getElem_toArray, List.getElem_cons_zero, List.getElem_cons_succ, Act.put, List.setIfInBounds_toArray, List.set_cons_zero, List.set_cons_succ]))
        first
          | refine pl_do rfl rfl (fun K hK => ?_)
          | refine op_do rfl rfl (fun K hK => ?_)
        try simp only [List.getElem_toArray, List.getElem_cons_zero, List.getElem_cons_succ]
        go_simp
        refine (cloneS_any _ KD _ ((hrd2).mono ((vle_below hbc).trans (vle_below hS0)))).mono ?_
        rintro e w2 ⟨d', rfl, hj, hown⟩
        obtain ⟨B', e', rfl⟩ := hown.form
        have hb2 := hS0.trans (hj.mono hS0.size)
        have hz0 := hS0.size
        have hz2 := hj.size
        refine hK.out _ _ (grownBy_below _ hb2) (fun hS => ?_)
        clear hK K
        try simp only [List.getElem_toArray, List.getElem_cons_zero, List.getElem_cons_succ, Act.put, List.setIfInBounds_toArray, List.set_cons_zero, List.set_cons_succ]
        repeat (first
          | (refine pl_q (by assumption) rfl rfl ?_; apply Exists.intro; refine ⟨fun w' hS => ?_, ?_⟩; (· (skip; go_simp; exact rfl)); simp only [List.getElem_toArray, List.getElem_cons_zero, List.getElem_cons_succ, Act.put, List.setIfInBounds_toArray, List.set_cons_zero, List.set_cons_succ])
          | (refine pl_qc rfl rfl ?_; apply Exists.intro; refine ⟨fun w' _ => ?_, ?_⟩; (· (go_simp; exact rfl)); simp only [List.getElem_toArray, List.getElem_cons_zero, List.getElem_cons_succ, Act.put, List.setIfInBounds_toArray, List.set_cons_zero, List.set_cons_succ])
          | (refine pl_skip (by assumption) rfl rfl ?_; simp only [List.getElem_toArray, List.getElem_cons_zero, List.getElem_cons_succ, Act.put, List.setIfInBounds_toArray, List.set_cons_zero, List.set_cons_succ])
          | (refine pl_skipl (by assumption) rfl rfl ?_; simp only [List.getElem_toArray, List.getElem_cons_zero, List.getElem_cons_succ, Act.put, List.setIfInBounds_toArray, List.set_cons_zero, List.set_cons_succ]))
        first
          | refine pl_do rfl rfl (fun K hK => ?_)
          | refine op_do rfl rfl (fun K hK => ?_)
        try simp only [List.getElem_toArray, List.getElem_cons_zero, List.getElem_cons_succ]
        refine wp_store_whole (n := 2) rfl rfl rfl (by kernel_rfl) rfl (hk2c.kept hb2) rfl rfl ?_
        intro w3 hA hg3
        have hown3 := hown.grown hg3 (by omega)
        have hk33 := (hk3c.kept hb2).grown hg3 (by simp)
        have hrb3 := ((hrb.mono (vle_from _ (vle_below hb2))).mono (fromP hg3 (by omega)))
        refine hK.out _ _ (grownBy_trans (grownBy_below _ hb2) hg3) (fun hS => ?_)
        clear hK K
        try simp only [List.getElem_toArray, List.getElem_cons_zero, List.getElem_cons_succ, Act.put, List.setIfInBounds_toArray, List.set_cons_zero, List.set_cons_succ]
        first
          | refine pl_close rfl rfl rfl (fun K hK => ?_)
          | refine op_close rfl rfl rfl (fun K hK => ?_)
        try simp only [List.getElem_toArray, List.getElem_cons_zero, List.getElem_cons_succ]
        refine wp_store_whole (n := 3) rfl rfl rfl (by kernel_rfl) rfl hk33 rfl rfl ?_
        intro w4 hB hg4
        have hA := hA.grown hg4 (by simp)
        have hown4 := hown3.grown hg4 (by omega)
        refine hK.out _ _ ?_
        clear hK K
        try simp only [List.getElem_toArray, List.getElem_cons_zero, List.getElem_cons_succ, Act.put, List.setIfInBounds_toArray, List.set_cons_zero, List.set_cons_succ]
        repeat (first
          | (refine pl_q (by assumption) rfl rfl ?_; apply Exists.intro; refine ⟨fun w' hS => ?_, ?_⟩; (· (skip; go_simp; exact rfl)); simp only [List.getElem_toArray, List.getElem_cons_zero, List.getElem_cons_succ, Act.put, List.setIfInBounds_toArray, List.set_cons_zero, List.set_cons_succ])
          | (refine pl_qc rfl rfl ?_; apply Exists.intro; refine ⟨fun w' _ => ?_, ?_⟩; (· (go_simp; exact rfl)); simp only [List.getElem_toArray, List.getElem_cons_zero, List.getElem_cons_succ, Act.put, List.setIfInBounds_toArray, List.set_cons_zero, List.set_cons_succ])
          | (refine pl_skip (by assumption) rfl rfl ?_; simp only [List.getElem_toArray, List.getElem_cons_zero, List.getElem_cons_succ, Act.put, List.setIfInBounds_toArray, List.set_cons_zero, List.set_cons_succ])
          | (refine pl_skipl (by assumption) rfl rfl ?_; simp only [List.getElem_toArray, List.getElem_cons_zero, List.getElem_cons_succ, Act.put, List.setIfInBounds_toArray, List.set_cons_zero, List.set_cons_succ]))
        refine pl_nil ?_
        go_wp2
        refine bodyPost_ret (results_blk2_tmp rfl rfl rfl (by kernel_rfl) (by kernel_rfl) hA rfl (by kernel_rfl) (by kernel_rfl) hB rfl) rfl ?_
        have hbl5 : Below w.heap.size w w4 := below_grownBy (below_grownBy (hblc.trans (hb2.mono hblc.size)) (by omega) hg3 (by intro k e; injection e; omega)) (by have := hg3.size; omega) hg4 (by intro k e; injection e; omega)
        refine ⟨.slice B' KD.length e', .slice A' KT.length c', ?_, hbl5, ?_, ?_⟩
        · rw [H1.out, H2.out, H3.out, HE2.out, if_neg (by decide), if_neg (by decide), if_neg (by decide), hnx1.out]
          rfl
        · rw [H4.out, HE2.out, if_neg (by decide), hKD.out]
          exact hown4.reads hld4
        · rw [H5.out, HE2.out, if_neg (by decide), hKT.out]
          exact (hrb3.mono (fromP hg4 (by omega))).mono (View.from_le _ _)
  · have HE2 : Hid (E = F) := by show _ = _; rw [HE.out, if_pos hF0]
    go_wp2_with (refine wpList_store_whole (n := 2) rfl rfl rfl rfl (by kernel_rfl) rfl hk2 rfl rfl ?_)
    intro w2 hA hg2
    have hk3 := hk3.grown hg2 (by simp)
    have hbl2 := below_grownBy hbl1 (hbl1).size hg2 (by intro k e; injection e; omega)
    go_wp2_with (refine wpList_store_whole (n := 3) rfl rfl rfl rfl (by kernel_rfl) rfl hk3 rfl rfl ?_)
    intro w3 hB hg3
    have hA := hA.grown hg3 (by simp)
    have hbl3 := below_grownBy hbl2 hbl2.size hg3 (by intro k e; injection e; omega)
    go_wp2
    refine bodyPost_ret (results_blk2_tmp rfl rfl rfl (by kernel_rfl) (by kernel_rfl) hA rfl (by kernel_rfl) (by kernel_rfl) hB rfl) rfl ?_
    exact Fin.out _ hF0 (HE2).out _ hbl3
end Go.Proofs.Ytelfbgfggkhpjaa
