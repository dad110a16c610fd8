/- The law SealSigned: seal.Signed answers what the document's SignedBy answers, at every argument: no condition. -/
import Derived.Test.YtelfbgfggkhpjaaSigned
import Derived.Test.YtelfbgfggkhpjaaOpenSign
import Derived.Test.YtelfbgfggkhpjaaPlan3
namespace Go.Proofs.Ytelfbgfggkhpjaa
open Go.ChangeShapes Go.WideShapes Go.ChangeAt Go.RowKit
set_option linter.unusedVariables false
set_option maxHeartbeats 2000000 in
set_option maxRecDepth 100000 in
theorem sealSigned_any (v : Value) (l : List Sign) (bad : Int) (s : Sign) (sd : Value) (w : World) (hv : RSigns w.cell? v l) (hsd : RBytes w.cell? sd s.slot.digest) :
    Calls Try.prog 6 #[v, .int .i64 bad, .agg #[.int .i64 s.node, .int .i64 s.slot.author, .int .i64 s.slot.round, sd]] w fun e w' => e = .returned (.bool true) ∧ Below w.heap.size w w' := by
  have hl : l.length * 48 ≤ 140737488355328 := by obtain ⟨A, c, _, _, _, h, _⟩ := hv; exact h
  have hl1 := Lib.hid hl
  clear hl
  obtain ⟨E, hE⟩ : ∃ E, Hid (signedE l bad s = E) := ⟨_, rfl⟩
  obtain ⟨D, hD⟩ : ∃ D, Hid (signedB l bad s = D) := ⟨_, rfl⟩
  go_enter Try.func6, Try.ntmps6
  go_wp2
  refine one_block _ _ _ (fun W => (Code.region _ _ _).wp _ _ _ W) (fun W hk hsz hbw => ?_)
  refine wp_region_pl (fun w' => Below W.heap.size W w') [9] (.q 0 (.q 2 (.q 3 (.l 1 (.l 4 (.q 5 (.q 6 (.q 7 (.q 8 (.qc 9 .nil)))))))))) (by kernel_rfl) (by kernel_rfl) (fun _ _ d _ _ h => by cases d <;> exact h) rfl (by kernel_rfl) ?_ ?_
  · exact below_drew _
  intro W1 hS
  repeat (first
    | (refine pl_q (by assumption) rfl rfl ?_; apply Exists.intro; refine ⟨fun w' hS => ?_, ?_⟩; (· (have hq := hk.kept hS; have c0 := hq.cell 0; have c1 := hq.cell 1; have c2 := hq.cell 2; have c3 := hq.cell 3; simp at c0 c1 c2 c3; go_simp; exact rfl)); simp only [List.getElem_toArray, List.getElem_cons_zero, List.getElem_cons_succ, Act.put, List.setIfInBounds_toArray, List.set_cons_zero, List.set_cons_succ])
    | (refine pl_qc rfl rfl ?_; apply Exists.intro; refine ⟨fun w' _ => ?_, ?_⟩; (· (go_simp; exact rfl)); simp only [List.getElem_toArray, List.getElem_cons_zero, List.getElem_cons_succ, Act.put, List.setIfInBounds_toArray, List.set_cons_zero, List.set_cons_succ])
    | (refine pl_skip (by assumption) rfl rfl ?_; simp only [List.getElem_toArray, List.getElem_cons_zero, List.getElem_cons_succ, Act.put, List.setIfInBounds_toArray, List.set_cons_zero, List.set_cons_succ])
    | (refine pl_skipl (by assumption) rfl rfl ?_; simp only [List.getElem_toArray, List.getElem_cons_zero, List.getElem_cons_succ, Act.put, List.setIfInBounds_toArray, List.set_cons_zero, List.set_cons_succ]))
  first
    | refine pl_do rfl rfl (fun K hK => ?_)
    | refine op_do rfl rfl (fun K hK => ?_)
  try simp only [List.getElem_toArray, List.getElem_cons_zero, List.getElem_cons_succ]
  go_simp
  have hb1 := hbw.trans (hS.mono (by omega))
  refine (signsCopy_any _ l _ (hv.mono RSign.mono (vle_below hb1))).mono ?_
  rintro e w2 ⟨v2, rfl, hb2, ho2⟩
  have hr2 := ho2.reads RSign.mono hl1.out
  have hb02 := hb1.trans (hb2.mono hb1.size)
  refine hK.out _ _ (hS.trans (hb2.mono hS.size)) (fun hS => ?_)
  clear hK K
  try simp only [List.getElem_toArray, List.getElem_cons_zero, List.getElem_cons_succ, Act.put, List.setIfInBounds_toArray, List.set_cons_zero, List.set_cons_succ]
  repeat (first
    | (refine pl_q (by assumption) rfl rfl ?_; apply Exists.intro; refine ⟨fun w' hS => ?_, ?_⟩; (· (have hq := hk.kept hS; have c0 := hq.cell 0; have c1 := hq.cell 1; have c2 := hq.cell 2; have c3 := hq.cell 3; simp at c0 c1 c2 c3; go_simp; exact rfl)); simp only [List.getElem_toArray, List.getElem_cons_zero, List.getElem_cons_succ, Act.put, List.setIfInBounds_toArray, List.set_cons_zero, List.set_cons_succ])
    | (refine pl_qc rfl rfl ?_; apply Exists.intro; refine ⟨fun w' _ => ?_, ?_⟩; (· (go_simp; exact rfl)); simp only [List.getElem_toArray, List.getElem_cons_zero, List.getElem_cons_succ, Act.put, List.setIfInBounds_toArray, List.set_cons_zero, List.set_cons_succ])
    | (refine pl_skip (by assumption) rfl rfl ?_; simp only [List.getElem_toArray, List.getElem_cons_zero, List.getElem_cons_succ, Act.put, List.setIfInBounds_toArray, List.set_cons_zero, List.set_cons_succ])
    | (refine pl_skipl (by assumption) rfl rfl ?_; simp only [List.getElem_toArray, List.getElem_cons_zero, List.getElem_cons_succ, Act.put, List.setIfInBounds_toArray, List.set_cons_zero, List.set_cons_succ]))
  first
    | refine pl_do rfl rfl (fun K hK => ?_)
    | refine op_do rfl rfl (fun K hK => ?_)
  try simp only [List.getElem_toArray, List.getElem_cons_zero, List.getElem_cons_succ]
  go_simp
  refine (signed_any _ l bad s sd _ hr2 (hsd.mono (vle_below hb02))).mono ?_
  rintro e w3 ⟨rfl, hb3⟩
  have hb03 := hb02.trans (hb3.mono hb02.size)
  rw [hE.out, hD.out]
  refine hK.out _ _ (hS.trans (hb3.mono hS.size)) (fun hS => ?_)
  clear hK K
  try simp only [List.getElem_toArray, List.getElem_cons_zero, List.getElem_cons_succ, Act.put, List.setIfInBounds_toArray, List.set_cons_zero, List.set_cons_succ]
  repeat (first
    | (refine pl_q (by assumption) rfl rfl ?_; apply Exists.intro; refine ⟨fun w' hS => ?_, ?_⟩; (· (skip; go_simp; exact rfl)); simp only [List.getElem_toArray, List.getElem_cons_zero, List.getElem_cons_succ, Act.put, List.setIfInBounds_toArray, List.set_cons_zero, List.set_cons_succ])
    | (refine pl_qc rfl rfl ?_; apply Exists.intro; refine ⟨fun w' _ => ?_, ?_⟩; (· (go_simp; exact rfl)); simp only [List.getElem_toArray, List.getElem_cons_zero, List.getElem_cons_succ, Act.put, List.setIfInBounds_toArray, List.set_cons_zero, List.set_cons_succ])
    | (refine pl_skip (by assumption) rfl rfl ?_; simp only [List.getElem_toArray, List.getElem_cons_zero, List.getElem_cons_succ, Act.put, List.setIfInBounds_toArray, List.set_cons_zero, List.set_cons_succ])
    | (refine pl_skipl (by assumption) rfl rfl ?_; simp only [List.getElem_toArray, List.getElem_cons_zero, List.getElem_cons_succ, Act.put, List.setIfInBounds_toArray, List.set_cons_zero, List.set_cons_succ]))
  refine pl_nil ?_
  have hq := hk.kept hS
  have c0 := hq.cell 0
  have c1 := hq.cell 1
  have c2 := hq.cell 2
  have c3 := hq.cell 3
  simp at c0 c1 c2 c3
  clear hr2 ho2 hb2 hb3
  go_wp2_with fail
  refine (signedBy_any _ l bad s sd _ (hv.mono RSign.mono (vle_below hb03)) (hsd.mono (vle_below hb03))).mono ?_
  rintro e w4 ⟨rfl, hb4⟩
  rw [hE.out, hD.out]
  go_wp2
  go_ret
  exact ⟨rfl, hb03.trans (hb4.mono hb03.size)⟩
set_option maxHeartbeats 1000000 in
set_option maxRecDepth 100000 in
theorem sealSigned_open {H : Type} {enc : TypeId × Value → H} (W : World) {base : Nat} {v v1 v2 : Value} {d d1 d2 : DataW H} {p p1 p2 : List MemPlace} (hval : Value.okWide Try.prog W .any base 43 v) (h : DataW.Trod enc Try.prog W 0 (fun _ => true) true 43 v d p)
    (hw : ∀ n ∈ DataW.weights Try.prog 43 d, n ≤ reachBytes) (hval1 : Value.okWide Try.prog W .any base 3 v1) (h1 : DataW.Trod enc Try.prog W 0 (fun _ => true) true 3 v1 d1 p1)
    (hw1 : ∀ n ∈ DataW.weights Try.prog 3 d1, n ≤ reachBytes) (hval2 : Value.okWide Try.prog W .any base 47 v2) (h2 : DataW.Trod enc Try.prog W 0 (fun _ => true) true 47 v2 d2 p2)
    (hw2 : ∀ n ∈ DataW.weights Try.prog 47 d2, n ≤ reachBytes) : Calls Try.prog 6 #[v, v1, v2] W fun e w' => e = .returned (.bool true) ∧ Below W.heap.size W w' := by
  obtain ⟨l, hr⟩ := open_cell (R := RSl 4 RSign 48) Try.underlying43 hval h hw opens_signs
  obtain ⟨a, rfl, _⟩ := open_int (k := .i64) Try.underlying3 hval1 h1 hw1
  obtain ⟨s, sd, rfl, hs⟩ := open_sign hval2 h2 hw2
  exact sealSigned_any _ _ _ _ _ _ hr hs
set_option maxRecDepth 100000 in
theorem sealSigned_lifted (os : Os) (started : os.Started) (H : Type) (enc : TypeId × Value → H) :
    ReturnsInHanded {} Try.checked os 6 .any (Rows.sealSignedSpec.pre6 enc Try.prog Try.f6 Rows.sealSignedRow.domain false) (Rows.sealSignedSpec.post enc Try.prog Try.f6 false true false false) := by
  refine returnsInHanded_of_change_sized (C := Try.checked) own_ started (by kernel_rfl) Try.func6
    (ChangeSpec.witness6 (enc := enc) (C := Try.checked) false ⟨#[], #[.slice none 0 0, .int .i64 0, .agg #[.int .i64 0, .int .i64 0, .int .i64 0, .slice none 0 0]], []⟩ 8 (by kernel_rfl) (by kernel_rfl) (by kernel_rfl) (by kernel_rfl) (by kernel_rfl)) ?_
  intro W base args ds gs before hval hW _ hsz _
  have hW' := hW
  obtain ⟨p, q, hA, hV, rfl, hfz, hnd⟩ := hW
  obtain ⟨rfl, rfl⟩ := trodVars_none hV
  rw [Try.params6] at hA hval hsz
  obtain ⟨v0, v1, v2, d0, d1, d2, p0, p1, p2, rfl, rfl, rfl, h0, h1, h2⟩ := trodAll_three hA
  have hs0 : ∀ n ∈ DataW.weights Try.prog _ d0, n ≤ reachBytes := fun n hn => by simpa using List.all_eq_true.1 hsz n (DataW.weights_mem_each (j := 0) rfl rfl n hn)
  have hs1 : ∀ n ∈ DataW.weights Try.prog _ d1, n ≤ reachBytes := fun n hn => by simpa using List.all_eq_true.1 hsz n (DataW.weights_mem_each (j := 1) rfl rfl n hn)
  have hs2 : ∀ n ∈ DataW.weights Try.prog _ d2, n ≤ reachBytes := fun n hn => by simpa using List.all_eq_true.1 hsz n (DataW.weights_mem_each (j := 2) rfl rfl n hn)
  refine (sealSigned_open W (hval 0 _ _ rfl rfl) h0 hs0 (hval 1 _ _ rfl rfl) h1 hs1 (hval 2 _ _ rfl rfl) h2 hs2).mono fun e W' ⟨he, hb⟩ => ?_
  exact law_close laidOut (b := 4) rfl Try.underlying4 rfl (readables _ (by kernel_rfl)) rfl hW' he hb
theorem sealSigned_holds : Rows.SealSignedSaid :=
  OpenClaim.holds_of_wide 6 Try.f6 rfl rfl rfl rfl rfl rfl rfl ⟨rfl, rfl, rfl, rfl, rfl⟩ rfl rfl rfl rfl rfl (by kernel_rfl) Try.func6 (by kernel_rfl)
    (of_decide_eq_true (by kernel_rfl)) (by unfold Func.isWrapper; first | (rw [if_pos (by decide +kernel)]; kernel_rfl) | (rw [if_neg (by decide +kernel)]; exact ⟨rfl, rfl⟩))
    (fun os started H enc _ => sealSigned_lifted os started H enc)
end Go.Proofs.Ytelfbgfggkhpjaa
