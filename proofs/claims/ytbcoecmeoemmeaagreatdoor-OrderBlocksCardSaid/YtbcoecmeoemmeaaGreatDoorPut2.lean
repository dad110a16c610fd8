/- putHeader and putBatch. -/
import Derived.Test.YtbcoecmeoemmeaaGreatDoorPut
import Derived.Test.YtbcoecmeoemmeaaGreatDoorChg2
namespace Go.Proofs.YtbcoecmeoemmeaaGreatDoor
open Go.ChangeShapes Go.WideShapes Go.ChangeAt Go.RowKit
set_option linter.unusedVariables false
set_option linter.unusedSimpArgs false
theorem wp_append_by {P : Program} {wr : World} {o : Oper} {a : Act} {K : Act → World → Prop} {Q : Exit → Act → World → Prop} {t e : TypeId} {base n : Nat} {v vy : Value} {xs ys : List UInt8} {W : World}
    (hE : Elem1 P t e 1) (s y : Operand)
    (ho : o.op = .call { callee := .builtin .append, args := #[s, y], argTypes := #[t, t] })
    (hs : a.eval s = v) (hown : OwnVec encB e wr base v xs) (hbl : Below base W wr) (hbase : base ≤ wr.heap.size)
    (hx : a.eval y = vy) (hy : RBytes wr.cell? vy ys) (hc : n ≤ 140737488355328) (hn : xs.length + ys.length ≤ n)
    (h : ∀ v' w', OwnVec encB e w' base v' (xs ++ ys) → Below base W w' → wr.grownBy w' v.ownBlock → K (a.put o.dst v') w') : o.wp P a wr K Q := by
  obtain ⟨ht, i, z, hi, hz0, hz1, hz2, hzs⟩ := hE
  obtain ⟨A, c, rfl, _⟩ := id hy
  obtain ⟨_, _, _, hl, hA, hcell⟩ := hy.src
  refine wp_append_any s y t ho base e i z 1 1 ht hi hz0 hz1 hz2 hzs (by decide) v xs.length _ hs hown.own A ys.length c (ys.map encB) hx hl hA hcell (fun u hu => by obtain ⟨x, _, rfl⟩ := List.mem_map.1 hu; exact encB_one x) (le_maxLen (Nat.le_trans hn hc)) (by omega) hbase (fun v' w' ho hg => h v' w' ⟨?_⟩ (hbl.grown hg hbase (fun g hg => (hown.own.lt g hg).1)) hg)
  simpa using ho
theorem byte_row (w : World) (u : UInt8) : RBytes (w.alloc (.cells #[.int .u8 u.toNat] 5)).cell? (.slice (some ⟨w.heap.size, 0, none⟩) 1 1) [u] := byBlk (enc := encB) (bs := 1) (xs := [u]) (Blk.new w 5 #[encB u]) (by simp) (by simp)
def headerB (a r : Int) (b p : List (List UInt8)) : List UInt8 := ((byteI a :: wideB r) ++ digsB b) ++ digsB p
set_option maxHeartbeats 2000000 in
set_option maxRecDepth 100000 in
theorem putHeader_any (w0 : World) (v : Value) (xs : List UInt8) (a r : Int) (vb vp : Value) (b p : List (List UInt8)) (w : World) (hbl : Below w0.heap.size w0 w) (ho : OwnB w w0.heap.size v xs) (hr0 : 0 ≤ r) (hr1 : r ≤ 140737488355328) (hb : RDigs w0.cell? vb b) (hp : RDigs w0.cell? vp p) (hsz : xs.length + 6 + b.flatten.length + p.flatten.length ≤ 140737488355328) :
    Calls Tryz.prog 79 #[v, .agg #[.int .i64 a, .int .i64 r, vb, vp]] w fun e w' => ∃ v', e = .returned v' ∧ Below w0.heap.size w0 w' ∧ Keeps w w' ∧ OwnB w' w0.heap.size v' (xs ++ headerB a r b p) := by
  obtain ⟨oA, oc, rfl⟩ := ho.form
  have hz := hbl.size
  have e0 := byteI_wrap a
  have hD : Hid (headerB a r b p = ((byteI a :: wideB r) ++ digsB b) ++ digsB p) := rfl
  generalize byteI a = U0 at e0 hD
  generalize headerB a r b p = Db at hD ⊢
  have hwl : (wideB r).length = 3 := rfl
  have hbl1 : (digsB b).length = 1 + b.flatten.length := by show (_ :: _).length = _; rw [List.length_cons]; omega
  generalize hWr : wideB r = Wr at hwl hD
  generalize hBd : digsB b = Bd at hbl1 hD
  go_enter Tryz.func79, Tryz.ntmps79
  go_wp2
  refine one_block _ _ _ (fun W => (Code.region _ _ _).wp _ _ _ W) (fun W hk hszW hblW => ?_)
  have hkp : Keeps w W := keeps_below hblW
  have ho := ho.kept hblW
  have hbl := hbl.trans (hblW.mono hz)
  have hz := hbl.size
  refine wp_region_pl0 (fun w' => Below W.heap.size W w') (fun w' => Blk w' w.heap.size 65 #[.int .i64 a, .int .i64 r, vb, vp]) [15] (.q 0 (.q 1 (.q 2 (.q 3 (.q 6 (.q 7 (.q 9 (.q 10 (.q 12 (.q 13 (.l 4 (.l 5 (.l 8 (.l 11 (.l 14 (.qc 15 .nil)))))))))))))))) (by kernel_rfl) (by kernel_rfl) (fun _ _ d _ _ h => by cases d <;> exact h) rfl (by kernel_rfl) ?_ ?_
  · exact ⟨below_drew _, hk⟩
  intro W1 hS0 hS
  have ho := ho.kept hS0
  have hkp := hkp.trans (keeps_below hS0)
  have hbl := hbl.trans (hS0.mono hz)
  have hz := hbl.size
  clear hS0 hk
  repeat (first
    | (refine pl_q (by assumption) rfl rfl ?_; apply Exists.intro; refine ⟨fun w' hS => ?_, ?_⟩; (· (have h0 := hS.cell 0; have h1 := hS.cell 1; have h2 := hS.cell 2; have h3 := hS.cell 3; simp at h0 h1 h2 h3; go_simp; exact rfl)); simp only [List.getElem_toArray, List.getElem_cons_zero, List.getElem_cons_succ, Act.put, List.setIfInBounds_toArray, List.set_cons_zero, List.set_cons_succ])
    | (refine pl_qc rfl rfl ?_; apply Exists.intro; refine ⟨fun w' _ => ?_, ?_⟩; (· (go_simp; exact rfl)); simp only [List.getElem_toArray, List.getElem_cons_zero, List.getElem_cons_succ, Act.put, List.setIfInBounds_toArray, List.set_cons_zero, List.set_cons_succ])
    | (refine pl_skip (by assumption) rfl rfl ?_; simp only [List.getElem_toArray, List.getElem_cons_zero, List.getElem_cons_succ, Act.put, List.setIfInBounds_toArray, List.set_cons_zero, List.set_cons_succ])
    | (refine pl_skipl (by assumption) rfl rfl ?_; simp only [List.getElem_toArray, List.getElem_cons_zero, List.getElem_cons_succ, Act.put, List.setIfInBounds_toArray, List.set_cons_zero, List.set_cons_succ]))
  first
    | refine pl_do rfl rfl (fun K hK => ?_)
    | refine op_do rfl rfl (fun K hK => ?_)
  try simp only [List.getElem_toArray, List.getElem_cons_zero, List.getElem_cons_succ]
  go_simp
  refine hK.out _ _ (hS.alloc _) (fun hS => ?_)
  clear hK K
  try simp only [List.getElem_toArray, List.getElem_cons_zero, List.getElem_cons_succ, Act.put, List.setIfInBounds_toArray, List.set_cons_zero, List.set_cons_succ]
  repeat (first
    | (refine pl_q (by assumption) rfl rfl ?_; apply Exists.intro; refine ⟨fun w' hS => ?_, ?_⟩; (· (have h0 := hS.cell 0; have h1 := hS.cell 1; have h2 := hS.cell 2; have h3 := hS.cell 3; simp at h0 h1 h2 h3; go_simp; exact rfl)); simp only [List.getElem_toArray, List.getElem_cons_zero, List.getElem_cons_succ, Act.put, List.setIfInBounds_toArray, List.set_cons_zero, List.set_cons_succ])
    | (refine pl_qc rfl rfl ?_; apply Exists.intro; refine ⟨fun w' _ => ?_, ?_⟩; (· (go_simp; exact rfl)); simp only [List.getElem_toArray, List.getElem_cons_zero, List.getElem_cons_succ, Act.put, List.setIfInBounds_toArray, List.set_cons_zero, List.set_cons_succ])
    | (refine pl_skip (by assumption) rfl rfl ?_; simp only [List.getElem_toArray, List.getElem_cons_zero, List.getElem_cons_succ, Act.put, List.setIfInBounds_toArray, List.set_cons_zero, List.set_cons_succ])
    | (refine pl_skipl (by assumption) rfl rfl ?_; simp only [List.getElem_toArray, List.getElem_cons_zero, List.getElem_cons_succ, Act.put, List.setIfInBounds_toArray, List.set_cons_zero, List.set_cons_succ]))
  first
    | refine pl_do rfl rfl (fun K hK => ?_)
    | refine op_do rfl rfl (fun K hK => ?_)
  try simp only [List.getElem_toArray, List.getElem_cons_zero, List.getElem_cons_succ]
  have hrow := byte_row W1 U0
  have hoa := ho.alloc (.cells #[.int .u8 U0.toNat] 5)
  refine wp_append_by (n := 140737488355328) (W := w0) (xs := xs) (ys := [U0]) (v := .slice oA xs.length oc) (vy := .slice (some ⟨W1.heap.size, 0, none⟩) 1 1) elemByte _ _ rfl rfl hoa (hbl.alloc hz _) (le_alloc _ hz) rfl hrow (by decide) (by simp; omega) ?_
  intro v1 w1 o1 b1 g1
  have k0 := keeps_grown hoa g1
  have k1 := (keeps_alloc W1 (.cells #[.int .u8 U0.toNat] 5)).trans k0
  have z1 := b1.size
  clear g1 hoa hrow
  refine hK.out _ _ (k0 _ _ _ (by decide) hS) (fun hS => ?_)
  clear hK K
  try simp only [List.getElem_toArray, List.getElem_cons_zero, List.getElem_cons_succ, Act.put, List.setIfInBounds_toArray, List.set_cons_zero, List.set_cons_succ]
  repeat (first
    | (refine pl_q (by assumption) rfl rfl ?_; apply Exists.intro; refine ⟨fun w' hS => ?_, ?_⟩; (· (have h0 := hS.cell 0; have h1 := hS.cell 1; have h2 := hS.cell 2; have h3 := hS.cell 3; simp at h0 h1 h2 h3; go_simp; exact rfl)); simp only [List.getElem_toArray, List.getElem_cons_zero, List.getElem_cons_succ, Act.put, List.setIfInBounds_toArray, List.set_cons_zero, List.set_cons_succ])
    | (refine pl_qc rfl rfl ?_; apply Exists.intro; refine ⟨fun w' _ => ?_, ?_⟩; (· (go_simp; exact rfl)); simp only [List.getElem_toArray, List.getElem_cons_zero, List.getElem_cons_succ, Act.put, List.setIfInBounds_toArray, List.set_cons_zero, List.set_cons_succ])
    | (refine pl_skip (by assumption) rfl rfl ?_; simp only [List.getElem_toArray, List.getElem_cons_zero, List.getElem_cons_succ, Act.put, List.setIfInBounds_toArray, List.set_cons_zero, List.set_cons_succ])
    | (refine pl_skipl (by assumption) rfl rfl ?_; simp only [List.getElem_toArray, List.getElem_cons_zero, List.getElem_cons_succ, Act.put, List.setIfInBounds_toArray, List.set_cons_zero, List.set_cons_succ]))
  first
    | refine pl_do rfl rfl (fun K hK => ?_)
    | refine op_do rfl rfl (fun K hK => ?_)
  try simp only [List.getElem_toArray, List.getElem_cons_zero, List.getElem_cons_succ]
  go_simp
  refine (wide_any v1 r (xs ++ [U0]) _ _ o1 z1 hr0 hr1 (by simp; omega)).mono ?_
  rintro e w2 ⟨v2, rfl, b2, k2, o2, _⟩
  rw [hWr] at o2
  have b2 := b1.trans b2
  clear o1 b1
  refine hK.out _ _ (k2 _ _ _ (by decide) hS) (fun hS => ?_)
  clear hK K
  try simp only [List.getElem_toArray, List.getElem_cons_zero, List.getElem_cons_succ, Act.put, List.setIfInBounds_toArray, List.set_cons_zero, List.set_cons_succ]
  repeat (first
    | (refine pl_q (by assumption) rfl rfl ?_; apply Exists.intro; refine ⟨fun w' hS => ?_, ?_⟩; (· (have h0 := hS.cell 0; have h1 := hS.cell 1; have h2 := hS.cell 2; have h3 := hS.cell 3; simp at h0 h1 h2 h3; go_simp; exact rfl)); simp only [List.getElem_toArray, List.getElem_cons_zero, List.getElem_cons_succ, Act.put, List.setIfInBounds_toArray, List.set_cons_zero, List.set_cons_succ])
    | (refine pl_qc rfl rfl ?_; apply Exists.intro; refine ⟨fun w' _ => ?_, ?_⟩; (· (go_simp; exact rfl)); simp only [List.getElem_toArray, List.getElem_cons_zero, List.getElem_cons_succ, Act.put, List.setIfInBounds_toArray, List.set_cons_zero, List.set_cons_succ])
    | (refine pl_skip (by assumption) rfl rfl ?_; simp only [List.getElem_toArray, List.getElem_cons_zero, List.getElem_cons_succ, Act.put, List.setIfInBounds_toArray, List.set_cons_zero, List.set_cons_succ])
    | (refine pl_skipl (by assumption) rfl rfl ?_; simp only [List.getElem_toArray, List.getElem_cons_zero, List.getElem_cons_succ, Act.put, List.setIfInBounds_toArray, List.set_cons_zero, List.set_cons_succ]))
  first
    | refine pl_do rfl rfl (fun K hK => ?_)
    | refine op_do rfl rfl (fun K hK => ?_)
  try simp only [List.getElem_toArray, List.getElem_cons_zero, List.getElem_cons_succ]
  go_simp
  refine (putDigests_any w0 v2 vb _ b _ b2 o2 hb (by simp only [List.length_append, List.length_cons, List.length_nil]; omega)).mono ?_
  rintro e w3 ⟨v3, rfl, b3, k3, o3⟩
  rw [hBd] at o3
  clear o2 b2
  refine hK.out _ _ (k3 _ _ _ (by decide) hS) (fun hS => ?_)
  clear hK K
  try simp only [List.getElem_toArray, List.getElem_cons_zero, List.getElem_cons_succ, Act.put, List.setIfInBounds_toArray, List.set_cons_zero, List.set_cons_succ]
  repeat (first
    | (refine pl_q (by assumption) rfl rfl ?_; apply Exists.intro; refine ⟨fun w' hS => ?_, ?_⟩; (· (have h0 := hS.cell 0; have h1 := hS.cell 1; have h2 := hS.cell 2; have h3 := hS.cell 3; simp at h0 h1 h2 h3; go_simp; exact rfl)); simp only [List.getElem_toArray, List.getElem_cons_zero, List.getElem_cons_succ, Act.put, List.setIfInBounds_toArray, List.set_cons_zero, List.set_cons_succ])
    | (refine pl_qc rfl rfl ?_; apply Exists.intro; refine ⟨fun w' _ => ?_, ?_⟩; (· (go_simp; exact rfl)); simp only [List.getElem_toArray, List.getElem_cons_zero, List.getElem_cons_succ, Act.put, List.setIfInBounds_toArray, List.set_cons_zero, List.set_cons_succ])
    | (refine pl_skip (by assumption) rfl rfl ?_; simp only [List.getElem_toArray, List.getElem_cons_zero, List.getElem_cons_succ, Act.put, List.setIfInBounds_toArray, List.set_cons_zero, List.set_cons_succ])
    | (refine pl_skipl (by assumption) rfl rfl ?_; simp only [List.getElem_toArray, List.getElem_cons_zero, List.getElem_cons_succ, Act.put, List.setIfInBounds_toArray, List.set_cons_zero, List.set_cons_succ]))
  first
    | refine pl_do rfl rfl (fun K hK => ?_)
    | refine op_do rfl rfl (fun K hK => ?_)
  try simp only [List.getElem_toArray, List.getElem_cons_zero, List.getElem_cons_succ]
  go_simp
  refine (putDigests_any w0 v3 vp _ p _ b3 o3 hp (by simp only [List.length_append, List.length_cons, List.length_nil]; omega)).mono ?_
  rintro e w4 ⟨v4, rfl, b4, k4, o4⟩
  clear o3 b3
  refine hK.out _ _ (k4 _ _ _ (by decide) hS) (fun hS => ?_)
  clear hK K
  try simp only [List.getElem_toArray, List.getElem_cons_zero, List.getElem_cons_succ, Act.put, List.setIfInBounds_toArray, List.set_cons_zero, List.set_cons_succ]
  repeat (first
    | (refine pl_q (by assumption) rfl rfl ?_; apply Exists.intro; refine ⟨fun w' hS => ?_, ?_⟩; (· (have h0 := hS.cell 0; have h1 := hS.cell 1; have h2 := hS.cell 2; have h3 := hS.cell 3; simp at h0 h1 h2 h3; go_simp; exact rfl)); simp only [List.getElem_toArray, List.getElem_cons_zero, List.getElem_cons_succ, Act.put, List.setIfInBounds_toArray, List.set_cons_zero, List.set_cons_succ])
    | (refine pl_qc rfl rfl ?_; apply Exists.intro; refine ⟨fun w' _ => ?_, ?_⟩; (· (go_simp; exact rfl)); simp only [List.getElem_toArray, List.getElem_cons_zero, List.getElem_cons_succ, Act.put, List.setIfInBounds_toArray, List.set_cons_zero, List.set_cons_succ])
    | (refine pl_skip (by assumption) rfl rfl ?_; simp only [List.getElem_toArray, List.getElem_cons_zero, List.getElem_cons_succ, Act.put, List.setIfInBounds_toArray, List.set_cons_zero, List.set_cons_succ])
    | (refine pl_skipl (by assumption) rfl rfl ?_; simp only [List.getElem_toArray, List.getElem_cons_zero, List.getElem_cons_succ, Act.put, List.setIfInBounds_toArray, List.set_cons_zero, List.set_cons_succ]))
  refine pl_nil ?_
  go_wp2
  go_ret
  exact ⟨_, rfl, b4, (((hkp.trans k1).trans k2).trans k3).trans k4, by rw [hD.out]; simpa using o4⟩
end Go.Proofs.YtbcoecmeoemmeaaGreatDoor
