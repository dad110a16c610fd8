/- Certificates: copy, check, fault. -/
import Derived.Test.YtbcoecmeoemmeaaGreatDoorHead2
import Derived.Test.YtbcoecmeoemmeaaGreatDoorChg2
namespace Go.Proofs.YtbcoecmeoemmeaaGreatDoor
open Go.ChangeShapes Go.WideShapes Go.ChangeAt Go.RowKit
set_option linter.unusedVariables false
/-- the first fault of n ones; 0: there is none -/
def firstF (p : Nat → Int) (n : Nat) : Int := match (List.range n).find? (fun i => p i != 0) with | some i => p i | none => 0
theorem firstF_found {p : Nat → Int} {n k : Nat} {f : Int} (hk : k < n) (h : ∀ j, j < k → p j = 0) (hf : p k = f) (h0 : f ≠ 0) : firstF p n = f := by
  have : (List.range n).find? (fun i => p i != 0) = some k := by
    rw [List.find?_range_eq_some]
    exact ⟨by simp [hf, h0], List.mem_range.2 hk, fun j hj => by simp [h j hj]⟩
  unfold firstF
  simp only [this, hf]
theorem firstF_none {p : Nat → Int} {n : Nat} (h : ∀ j, j < n → p j = 0) : firstF p n = 0 := by
  have : (List.range n).find? (fun i => p i != 0) = none := by
    rw [List.find?_eq_none]
    intro x hx
    simp [h x (List.mem_range.1 hx)]
  unfold firstF
  simp only [this]
def encI (n : Int) : Value := .int .i64 n
theorem encI_one (n : Int) : (encI n).oneCell' = true := rfl
abbrev RIs := RVec encI 8
abbrev OwnI := OwnVec encI 3
theorem elemI : Elem1 Tryz.prog 66 3 8 := elem1 (z := .int .i64 0) Tryz.underlying66 (by kernel_rfl) rfl
theorem RIs.at {h : View} {A : Option Addr} {n c : Nat} {xs : List Int} (hr : RIs h (.slice A n c) xs) : n = xs.length ∧ n ≤ c ∧ n * 8 ≤ 140737488355328 ∧ ∀ k (hk : k < xs.length), ∃ b o, A = some ⟨b, o, none⟩ ∧ h ⟨b, o + k, none⟩ = some (.int .i64 xs[k]) := by
  obtain ⟨A', c', e, h1, h2, h3, h4, h5⟩ := hr
  injection e with e1 e2 e3
  subst e1 e2 e3
  refine ⟨rfl, h1, h3, fun k hk => ?_⟩
  obtain ⟨b, o, ea, hc⟩ := h5 (by omega)
  exact ⟨b, o, ea, hc k hk⟩
theorem from_trans {h : View} {w w' : World} {b b' : Nat} (hb : b' ≤ b) (hle : VLe h (View.from w.cell? b)) (hg : VLe w.cell? w'.cell?) : VLe h (View.from w'.cell? b') := fun a v e => by
  have := hle a v e
  unfold View.from at this ⊢
  split at this
  · cases this
  · rw [if_neg (by omega)]
    exact hg _ _ this
theorem ownBlock_ne {α : Type} {enc : α → Value} {e : TypeId} {w : World} {B : Nat} {v : Value} {xs : List α} (h : OwnVec enc e w B v xs) {g : Nat} (hg : g < B) : some g ≠ v.ownBlock := fun e => by
  have := (h.own.lt g e.symm).1; omega
set_option maxHeartbeats 1000000 in
set_option maxRecDepth 100000 in
theorem certCopy_any (a r : Int) (vb vp vv : Value) (b p : List (List UInt8)) (vs : List Int) (w : World) (hb : RDigs w.cell? vb b) (hp : RDigs w.cell? vp p) (hv : RIs w.cell? vv vs) :
    Calls Tryz.prog 28 #[.agg #[.int .i64 a, .int .i64 r, vb, vp, vv]] w fun e w' => ∃ vb' vp' vv', e = .returned (.agg #[.int .i64 a, .int .i64 r, vb', vp', vv']) ∧ Below w.heap.size w w' ∧
      RDigs (View.from w'.cell? w.heap.size) vb' b ∧ RDigs (View.from w'.cell? w.heap.size) vp' p ∧ RIs (View.from w'.cell? w.heap.size) vv' vs := by
  obtain ⟨vA, vc, rfl, _⟩ := id hv
  obtain ⟨_, hvcap, hvlen, hvel⟩ := hv.at
  have Hvel := Lib.hid hvel
  clear hvel hv
  go_enter Tryz.func28, Tryz.ntmps28
  go_wp2_with fail
  refine two_blocks _ _ _ _ _ (fun W => Calls Tryz.prog _ _ W _) (fun W hb1 hb2 hsz hbl => ?_)
  refine (headerCopy_any a r vb vp b p _ (hb.mono RDig.mono (vle_below hbl)) (hp.mono RDig.mono (vle_below hbl))).mono ?_
  rintro e w1 ⟨vb', vp', rfl, hk1, r1, r2⟩
  have hbl1 := hbl.trans (hk1.mono hbl.size)
  have hz1 := hk1.size
  rw [hsz] at r1 r2 hz1
  obtain ⟨A1, c1, rfl, _⟩ := id r1
  obtain ⟨A2, c2, rfl, _⟩ := id r2
  have hb1 := hb1.kept hk1
  have hb2 := hb2.kept hk1
  clear hk1 hbl
  go_wp2_with (refine wpList_store_whole (n := 5) rfl rfl rfl rfl (by kernel_rfl) rfl (Blk.new _ _ _) rfl rfl ?_)
  intro w3 hb4 hg3
  have hbl4 : Below w1.heap.size w1 w3 := below_grownBy (below_one _ _) (le_alloc _ (Nat.le_refl _)) hg3 (by intro k e; injection e; omega)
  have hz4 := hbl4.size
  clear hg3
  go_wp2
  go_loopw [4] (fun i wr => ∃ k : Nat, k ≤ vs.length ∧ i = .int .i64 k ∧ ∃ vv', Blk wr w1.heap.size 68 #[.int .i64 a, .int .i64 r, .slice A1 b.length c1, .slice A2 p.length c2, vv'] ∧ OwnI wr (w1.heap.size + 1) vv' (vs.take k) ∧ Below w1.heap.size w1 wr ∧ w1.heap.size < wr.heap.size) (fun i _ => vs.length - (intOf i).toNat)
  case atStart => exact ⟨0, Nat.zero_le _, rfl, _, hb4, OwnVec.nil _ _ _ _, hbl4, hb4.lt⟩
  case round =>
    clear hbl4 hz4 hb4
    obtain ⟨k, hk, rfl, vv', hB, hown, hbl, hzr⟩ := hrel
    have c4 := (hb1.kept hbl).cell 4
    simp at c4
    by_cases hlt : k < vs.length
    · obtain ⟨b0, o0, rfl, hcell'⟩ := Hvel.out k hlt
      have hc1 : wr.cell? ⟨b0, o0 + k, none⟩ = some (.int .i64 vs[k]) := vle_below hbl _ _ (vle_below hbl1 _ _ hcell')
      have hb0 : b0 < w.heap.size := World.block_lt_of_cell? w ⟨b0, o0 + k, none⟩ hcell'
      clear hcell'
      have d4 := hB.cell 4
      simp at d4
      have Hn := Lib.hid (show vs.take (k + 1) = vs.take k ++ [vs[k]] by rw [List.take_add_one]; simp [hlt])
      have hL : (vs.take k).length = k := by rw [List.length_take]; omega
      generalize vs.take k = L at hown Hn hL
      obtain ⟨oA, oc, rfl⟩ := hown.form
      rw [hL] at hown d4 hB
      have hne := ownBlock_ne hown (g := w1.heap.size) (by omega)
      have hne0 := ownBlock_ne hown (g := w.heap.size) (by omega)
      have hneb := ownBlock_ne hown (g := b0) (by omega)
      generalize vs[k] = x at hc1 Hn
      have hbox := hb1.kept hbl
      go_wp2
      refine wp_region_pl0 (fun w' => Below wr.heap.size wr w') (fun w' => wr.grownBy w' (Value.ownBlock (.slice oA k oc)) ∧ w'.cell? ⟨b0, o0 + k, none⟩ = some (.int .i64 x)) [10] (.q 0 (.q 1 (.q 2 (.q 3 (.q 4 (.q 5 (.q 6 (.l 7 (.l 8 (.q 9 (.l 10 .nil))))))))))) (by kernel_rfl) (by kernel_rfl) (fun _ _ d _ _ h => by cases d <;> exact h) rfl (by kernel_rfl) ?_ ?_
      · exact ⟨below_drew _, grownBy_drew _ _, hc1⟩
      intro W hS0 hS
      have hzW := hS0.size
      repeat (first
        | (refine pl_q (by assumption) rfl rfl ?_; apply Exists.intro; refine ⟨fun w' hS => ?_, ?_⟩; (· (have h1 := (hB.grown hS.1 hne).cell 4; have h2 := (hbox.grown hS.1 hne0).cell 4; have h3 := hS.2; simp at h1 h2 h3; go_simp; exact rfl)); simp only [List.getElem_toArray, List.getElem_cons_zero, List.getElem_cons_succ, Act.put, List.setIfInBounds_toArray, List.set_cons_zero, List.set_cons_succ])
        | (refine pl_qc rfl rfl ?_; apply Exists.intro; refine ⟨fun w' _ => ?_, ?_⟩; (· (go_simp; exact rfl)); simp only [List.getElem_toArray, List.getElem_cons_zero, List.getElem_cons_succ, Act.put, List.setIfInBounds_toArray, List.set_cons_zero, List.set_cons_succ])
        | (refine pl_skip (by assumption) rfl rfl ?_; simp only [List.getElem_toArray, List.getElem_cons_zero, List.getElem_cons_succ, Act.put, List.setIfInBounds_toArray, List.set_cons_zero, List.set_cons_succ])
        | (refine pl_skipl (by assumption) rfl rfl ?_; simp only [List.getElem_toArray, List.getElem_cons_zero, List.getElem_cons_succ, Act.put, List.setIfInBounds_toArray, List.set_cons_zero, List.set_cons_succ]))
      first
        | refine pl_do rfl rfl (fun K hK => ?_)
        | refine op_do rfl rfl (fun K hK => ?_)
      try simp only [List.getElem_toArray, List.getElem_cons_zero, List.getElem_cons_succ]
      go_simp
      have hb5 := below_one W (.cells #[.int .i64 x] 3)
      have ho5 := (hown.kept hS0).kept hb5
      have hn0 : (W.alloc (.cells #[.int .i64 x] 3)).cell? ⟨W.heap.size, 0, none⟩ = some (encI x) := (Blk.new W 3 #[.int .i64 x]).cell 0
      have hS5 : wr.grownBy (W.alloc (.cells #[.int .i64 x] 3)) (Value.ownBlock (.slice oA k oc)) := grownBy_trans hS.1 (grownBy_below _ hb5)
      refine hK.out _ _ (⟨hS5, vle_below hb5 _ _ hS.2⟩) (fun hS => ?_)
      clear hK K
      try simp only [List.getElem_toArray, List.getElem_cons_zero, List.getElem_cons_succ, Act.put, List.setIfInBounds_toArray, List.set_cons_zero, List.set_cons_succ]
      first
        | refine pl_do rfl rfl (fun K hK => ?_)
        | refine op_do rfl rfl (fun K hK => ?_)
      try simp only [List.getElem_toArray, List.getElem_cons_zero, List.getElem_cons_succ]
      refine wp_append_at (n := 140737488355328) (ys := [x]) elemI encI_one _ _ rfl rfl ho5 (by simp; omega) rfl (RVec.one x hn0 (by decide)) (by decide) (by rw [hL]; simp; omega) (by rw [hL]; simp; omega) (fun v6 w6 ho6 hg6 _ => ?_)
      have hg7 := grownBy_trans hS5 hg6
      refine hK.out _ _ (⟨hg7, hg7.cell hc1 hneb⟩) (fun hS => ?_)
      clear hK K
      try simp only [List.getElem_toArray, List.getElem_cons_zero, List.getElem_cons_succ, Act.put, List.setIfInBounds_toArray, List.set_cons_zero, List.set_cons_succ]
      repeat (first
        | (refine pl_q (by assumption) rfl rfl ?_; apply Exists.intro; refine ⟨fun w' hS => ?_, ?_⟩; (· (skip; go_simp; exact rfl)); simp only [List.getElem_toArray, List.getElem_cons_zero, List.getElem_cons_succ, Act.put, List.setIfInBounds_toArray, List.set_cons_zero, List.set_cons_succ])
        | (refine pl_qc rfl rfl ?_; apply Exists.intro; refine ⟨fun w' _ => ?_, ?_⟩; (· (go_simp; exact rfl)); simp only [List.getElem_toArray, List.getElem_cons_zero, List.getElem_cons_succ, Act.put, List.setIfInBounds_toArray, List.set_cons_zero, List.set_cons_succ])
        | (refine pl_skip (by assumption) rfl rfl ?_; simp only [List.getElem_toArray, List.getElem_cons_zero, List.getElem_cons_succ, Act.put, List.setIfInBounds_toArray, List.set_cons_zero, List.set_cons_succ])
        | (refine pl_skipl (by assumption) rfl rfl ?_; simp only [List.getElem_toArray, List.getElem_cons_zero, List.getElem_cons_succ, Act.put, List.setIfInBounds_toArray, List.set_cons_zero, List.set_cons_succ]))
      first
        | refine pl_close rfl rfl rfl (fun K hK => ?_)
        | refine op_close rfl rfl rfl (fun K hK => ?_)
      try simp only [List.getElem_toArray, List.getElem_cons_zero, List.getElem_cons_succ]
      obtain ⟨vA6, vc6, rfl⟩ := ho6.form
      refine wp_store_blk (n := 1) rfl rfl rfl (by kernel_rfl) rfl (hB.grown hg7 hne) (by simp) rfl ?_
      intro w7 hB7 hg8
      have hbl7 : Below w1.heap.size w1 w7 := below_grownBy (below_grownBy hbl (by omega) hg7 (fun j e => by have := (hown.own.lt j e).1; omega)) (by have := hg7.size; omega) hg8 (by intro j e; injection e; omega)
      have ho7 := ho6.grown hg8 (by omega)
      have hz7 := hB7.lt
      clear hg8
      refine hK.out _ _ ?_
      clear hK K
      try simp only [List.getElem_toArray, List.getElem_cons_zero, List.getElem_cons_succ, Act.put, List.setIfInBounds_toArray, List.set_cons_zero, List.set_cons_succ]
      refine pl_nil ?_
      go_wp2
      go_roundw
      case rel => exact ⟨k + 1, by omega, by go_num, _, hB7, by rw [Hn.out]; exact ho7, hbl7, hz7⟩
      case measure => simp [intOf]; omega
    · have hkl : k = vs.length := by omega
      subst hkl
      rw [List.take_length] at hown
      obtain ⟨oA, oc, rfl⟩ := hown.form
      have hq := hb2.kept hbl
      have d0 := hB.cell 0
      have d1 := hB.cell 1
      have d2 := hB.cell 2
      have d3 := hB.cell 3
      have d4 := hB.cell 4
      simp at d0 d1 d2 d3 d4
      go_wp2_with (refine wpList_store_whole (n := 5) rfl rfl rfl rfl (by kernel_rfl) rfl hq rfl rfl ?_)
      intro w8 hB8 hg8
      go_wp2
      refine bodyPost_ret (results_blk rfl rfl (by kernel_rfl) (by kernel_rfl) hB8 rfl) rfl ?_
      have hA : Below w.heap.size w w8 := below_grownBy (hbl1.trans (hbl.mono (by omega))) (by omega) hg8 (by intro j e; injection e; omega)
      refine ⟨_, _, _, rfl, hA, ?_, ?_, ?_⟩
      · exact r1.mono RDig.mono (from_le_from (by omega) (vle_from _ (vle_below hbl)) hg8 (by omega))
      · exact r2.mono RDig.mono (from_le_from (by omega) (vle_from _ (vle_below hbl)) hg8 (by omega))
      · exact (hown.reads_from (bs := 8) hvlen (b0 := w.heap.size + 2) (by omega) (g := none) (by simp)).mono (from_le_from (by omega) (vle_from _ (View.but_le _ _)) hg8 (by omega))
end Go.Proofs.YtbcoecmeoemmeaaGreatDoor
