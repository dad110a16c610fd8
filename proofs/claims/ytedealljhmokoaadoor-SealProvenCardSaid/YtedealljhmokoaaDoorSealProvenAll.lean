/- The law SealProven: seal.Proven answers what the document says, at every argument: no condition; its card: the tables tied to the text of the program. -/
import Derived.Test.YtedealljhmokoaaDoorOpenCert
import Derived.Test.YtedealljhmokoaaDoorCopy
import Derived.WalkSpells
import Derived.Test.YtedealljhmokoaaDoorCert
import Derived.Test.YtedealljhmokoaaDoorDig2
import Derived.Shelf.Abstract
import Derived.Test.YtedealljhmokoaaDoorSame
import Derived.Test.YtedealljhmokoaaDoorOwn
import Derived.Test.YtedealljhmokoaaDoorNum
import Derived.Test.YtedealljhmokoaaDoorStr
import Derived.Test.YtedealljhmokoaaDoorChg2
import Derived.Deep.DeepCutAuto
import Derived.Deep.CutBlock
import Derived.Test.YtedealljhmokoaaDoorOpen
import Derived.Test.YtedealljhmokoaaDoorOpen2
import Derived.Test.YtedealljhmokoaaDoorLaid
import Derived.Test.YtedealljhmokoaaDoorCards
import Derived.Test.YtedealljhmokoaaDoorTie
import Derived.SevenTiedAt
import Derived.Test.YtedealljhmokoaaDoorSealProvenAllA
namespace Go.Proofs.YtedealljhmokoaaDoor
open Go.ChangeShapes Go.WideShapes Go.ChangeAt Go.RowKit
set_option linter.unusedVariables false
set_option linter.unusedSimpArgs false
set_option maxHeartbeats 4000000 in
set_option maxRecDepth 100000 in
theorem sealProven_any (vl : Value) (l : List Sign) (bad : Int) (x : Crt) (vb vp vv : Value) (w : World) (hl : RSigns w.cell? vl l) (hb : RDigs w.cell? vb x.hdr.batches) (hp : RDigs w.cell? vp x.hdr.parents) (hv : RIs w.cell? vv x.voters) (hT : Tabs w.cell?) :
    Calls Tryd.prog 8 #[vl, .int .i64 bad, .agg #[.int .i64 x.hdr.author, .int .i64 x.hdr.round, vb, vp, vv]] w fun e w' => e = .returned (.bool true) ∧ Below w.heap.size w w' := by
  obtain ⟨A, c, rfl, hf0⟩ := id hl
  obtain ⟨bA, bc, rfl, hf1⟩ := id hb
  obtain ⟨pA, pc, rfl, hf2⟩ := id hp
  obtain ⟨vA, vc, rfl, hf3⟩ := id hv
  clear hf0 hf1 hf2 hf3
  have hlen : l.length * 48 ≤ 140737488355328 := by obtain ⟨_, _, _, _, _, h, _⟩ := hl; exact h
  obtain ⟨E, hE⟩ : ∃ E, Hid (provE l bad x = E) := ⟨_, rfl⟩
  have Hlen := Lib.hid hlen
  clear hlen
  go_enter Tryd.func8, Tryd.ntmps8
  go_upto_region 1 with fail
  refine one_block _ _ _ (fun W => Code.wp _ _ _ _ W) (fun W hk hsz hbW => ?_)
  clear hsz
  have hzW := hbW.size
  refine wp_region_pl (fun w' => Below W.heap.size W w') [6] (.q 0 (.q 2 (.q 3 (.l 1 (.l 4 (.l 5 (.qc 6 .nil))))))) (by kernel_rfl) (by kernel_rfl) (fun _ _ d _ _ h => by cases d <;> exact h) rfl (by kernel_rfl) ?_ ?_
  · exact below_drew _
  intro W1 hS1
  repeat (first
    | (refine pl_q (by assumption) rfl rfl ?_; apply Exists.intro; refine ⟨fun w' hS => ?_, ?_⟩; (· (have hh := hk.kept hS; have p0 := hh.cell 0; have p1 := hh.cell 1; have p2 := hh.cell 2; have p3 := hh.cell 3; have p4 := hh.cell 4; simp at p0 p1 p2 p3 p4; go_simp; exact rfl)); simp only [List.getElem_toArray, List.getElem_cons_zero, List.getElem_cons_succ, Act.put, List.setIfInBounds_toArray, List.set_cons_zero, List.set_cons_succ])
    | (refine pl_qc rfl rfl ?_; apply Exists.intro; refine ⟨fun w' _ => ?_, ?_⟩; (· (go_simp; exact rfl)); simp only [List.getElem_toArray, List.getElem_cons_zero, List.getElem_cons_succ, Act.put, List.setIfInBounds_toArray, List.set_cons_zero, List.set_cons_succ])
    | (refine pl_skip (by assumption) rfl rfl ?_; simp only [List.getElem_toArray, List.getElem_cons_zero, List.getElem_cons_succ, Act.put, List.setIfInBounds_toArray, List.set_cons_zero, List.set_cons_succ])
    | (refine pl_skipl (by assumption) rfl rfl ?_; simp only [List.getElem_toArray, List.getElem_cons_zero, List.getElem_cons_succ, Act.put, List.setIfInBounds_toArray, List.set_cons_zero, List.set_cons_succ]))
  first
    | refine pl_do rfl rfl (fun K hK => ?_)
    | refine op_do rfl rfl (fun K hK => ?_)
  try simp only [List.getElem_toArray, List.getElem_cons_zero, List.getElem_cons_succ]
  go_simp
  have hbl1 := hbW.trans (hS1.mono hzW)
  refine (signsCopy_any _ l _ (hl.mono RSign.mono (vle_below hbl1))).mono ?_
  rintro e w2 ⟨v2, rfl, hb2, o2⟩
  have hS2 := hS1.trans (hb2.mono hS1.size)
  have r2 := o2.reads RSign.mono Hlen.out
  obtain ⟨A2, c2, rfl⟩ := o2.form
  clear o2
  have hbl2 := hbW.trans (hS2.mono hzW)
  refine hK.out _ _ (hS2) (fun hS => ?_)
  clear hK K
  try simp only [List.getElem_toArray, List.getElem_cons_zero, List.getElem_cons_succ, Act.put, List.setIfInBounds_toArray, List.set_cons_zero, List.set_cons_succ]
  repeat (first
    | (refine pl_q (by assumption) rfl rfl ?_; apply Exists.intro; refine ⟨fun w' hS => ?_, ?_⟩; (· (have hh := hk.kept hS; have p0 := hh.cell 0; have p1 := hh.cell 1; have p2 := hh.cell 2; have p3 := hh.cell 3; have p4 := hh.cell 4; simp at p0 p1 p2 p3 p4; go_simp; exact rfl)); simp only [List.getElem_toArray, List.getElem_cons_zero, List.getElem_cons_succ, Act.put, List.setIfInBounds_toArray, List.set_cons_zero, List.set_cons_succ])
    | (refine pl_qc rfl rfl ?_; apply Exists.intro; refine ⟨fun w' _ => ?_, ?_⟩; (· (go_simp; exact rfl)); simp only [List.getElem_toArray, List.getElem_cons_zero, List.getElem_cons_succ, Act.put, List.setIfInBounds_toArray, List.set_cons_zero, List.set_cons_succ])
    | (refine pl_skip (by assumption) rfl rfl ?_; simp only [List.getElem_toArray, List.getElem_cons_zero, List.getElem_cons_succ, Act.put, List.setIfInBounds_toArray, List.set_cons_zero, List.set_cons_succ])
    | (refine pl_skipl (by assumption) rfl rfl ?_; simp only [List.getElem_toArray, List.getElem_cons_zero, List.getElem_cons_succ, Act.put, List.setIfInBounds_toArray, List.set_cons_zero, List.set_cons_succ]))
  first
    | refine pl_do rfl rfl (fun K hK => ?_)
    | refine op_do rfl rfl (fun K hK => ?_)
  try simp only [List.getElem_toArray, List.getElem_cons_zero, List.getElem_cons_succ]
  go_simp
  have q2 := vle_below hbl2
  refine (certCopy_any _ _ _ _ _ x.hdr.batches x.hdr.parents x.voters _ (hb.mono RDig.mono q2) (hp.mono RDig.mono q2) (hv.mono q2)).mono ?_
  rintro e w3 ⟨ub, up, uv, rfl, hb3, s1, s2, s3⟩
  have hS3 := hS2.trans (hb3.mono hS2.size)
  have hbl3 := hbW.trans (hS3.mono hzW)
  have t1 := s1.mono RDig.mono (View.from_le _ _)
  have t2 := s2.mono RDig.mono (View.from_le _ _)
  have t3 := s3.mono (View.from_le _ _)
  clear s1 s2 s3
  refine hK.out _ _ (hS3) (fun hS => ?_)
  clear hK K
  try simp only [List.getElem_toArray, List.getElem_cons_zero, List.getElem_cons_succ, Act.put, List.setIfInBounds_toArray, List.set_cons_zero, List.set_cons_succ]
  repeat (first
    | (refine pl_q (by assumption) rfl rfl ?_; apply Exists.intro; refine ⟨fun w' hS => ?_, ?_⟩; (· (skip; go_simp; exact rfl)); simp only [List.getElem_toArray, List.getElem_cons_zero, List.getElem_cons_succ, Act.put, List.setIfInBounds_toArray, List.set_cons_zero, List.set_cons_succ])
    | (refine pl_qc rfl rfl ?_; apply Exists.intro; refine ⟨fun w' _ => ?_, ?_⟩; (· (go_simp; exact rfl)); simp only [List.getElem_toArray, List.getElem_cons_zero, List.getElem_cons_succ, Act.put, List.setIfInBounds_toArray, List.set_cons_zero, List.set_cons_succ])
    | (refine pl_skip (by assumption) rfl rfl ?_; simp only [List.getElem_toArray, List.getElem_cons_zero, List.getElem_cons_succ, Act.put, List.setIfInBounds_toArray, List.set_cons_zero, List.set_cons_succ])
    | (refine pl_skipl (by assumption) rfl rfl ?_; simp only [List.getElem_toArray, List.getElem_cons_zero, List.getElem_cons_succ, Act.put, List.setIfInBounds_toArray, List.set_cons_zero, List.set_cons_succ]))
  first
    | refine pl_do rfl rfl (fun K hK => ?_)
    | refine op_do rfl rfl (fun K hK => ?_)
  try simp only [List.getElem_toArray, List.getElem_cons_zero, List.getElem_cons_succ]
  go_simp
  refine (proven_any _ l bad x _ _ _ _ (r2.mono RSign.mono (vle_below hb3)) t1 t2 t3 (hT.mono (vle_below hbl3))).mono ?_
  rintro e w4 ⟨rfl, hb4⟩
  rw [hE.out]
  have hS4 := hS3.trans (hb4.mono hS3.size)
  have hbl4 := hbW.trans (hS4.mono hzW)
  refine hK.out _ _ (hS4) (fun hS => ?_)
  clear hK K
  try simp only [List.getElem_toArray, List.getElem_cons_zero, List.getElem_cons_succ, Act.put, List.setIfInBounds_toArray, List.set_cons_zero, List.set_cons_succ]
  repeat (first
    | (refine pl_q (by assumption) rfl rfl ?_; apply Exists.intro; refine ⟨fun w' hS => ?_, ?_⟩; (· (skip; go_simp; exact rfl)); simp only [List.getElem_toArray, List.getElem_cons_zero, List.getElem_cons_succ, Act.put, List.setIfInBounds_toArray, List.set_cons_zero, List.set_cons_succ])
    | (refine pl_qc rfl rfl ?_; apply Exists.intro; refine ⟨fun w' _ => ?_, ?_⟩; (· (go_simp; exact rfl)); simp only [List.getElem_toArray, List.getElem_cons_zero, List.getElem_cons_succ, Act.put, List.setIfInBounds_toArray, List.set_cons_zero, List.set_cons_succ])
    | (refine pl_skip (by assumption) rfl rfl ?_; simp only [List.getElem_toArray, List.getElem_cons_zero, List.getElem_cons_succ, Act.put, List.setIfInBounds_toArray, List.set_cons_zero, List.set_cons_succ])
    | (refine pl_skipl (by assumption) rfl rfl ?_; simp only [List.getElem_toArray, List.getElem_cons_zero, List.getElem_cons_succ, Act.put, List.setIfInBounds_toArray, List.set_cons_zero, List.set_cons_succ]))
  refine pl_nil ?_
  have hh := hk.kept hS4
  have p0 := hh.cell 0; have p1 := hh.cell 1; have p2 := hh.cell 2; have p3 := hh.cell 3; have p4 := hh.cell 4
  simp at p0 p1 p2 p3 p4
  have q4 := vle_below hbl4
  clear r2 t1 t2 t3 hb2 hb3 hb4 hh hk
  go_wp2_with fail
  refine (provenBy_any _ l bad x _ _ _ _ (hl.mono RSign.mono q4) (hb.mono RDig.mono q4) (hp.mono RDig.mono q4) (hv.mono q4)).mono ?_
  rintro e w5 ⟨rfl, hb5⟩
  rw [hE.out]
  clear p0 p1 p2 p3 p4
  go_wp2
  go_ret
  exact ⟨rfl, hbl4.trans (hb5.mono hbl4.size)⟩
set_option maxHeartbeats 1000000 in
set_option maxRecDepth 100000 in
theorem sealProven_open {H : Type} {enc : TypeId × Value → H} (W : World) (hT : Tabs W.cell?) {base : Nat} {v v1 v2 : Value} {d d1 d2 : DataW H} {p p1 p2 : List MemPlace} (hval : Value.okWide Tryd.prog W .any base 57 v) (h : DataW.Trod enc Tryd.prog W 0 (fun _ => true) true 57 v d p)
    (hw : ∀ n ∈ DataW.weights Tryd.prog 57 d, n ≤ reachBytes) (hval1 : Value.okWide Tryd.prog W .any base 3 v1) (h1 : DataW.Trod enc Tryd.prog W 0 (fun _ => true) true 3 v1 d1 p1)
    (hw1 : ∀ n ∈ DataW.weights Tryd.prog 3 d1, n ≤ reachBytes) (hval2 : Value.okWide Tryd.prog W .any base 60 v2) (h2 : DataW.Trod enc Tryd.prog W 0 (fun _ => true) true 60 v2 d2 p2)
    (hw2 : ∀ n ∈ DataW.weights Tryd.prog 60 d2, n ≤ reachBytes) : Calls Tryd.prog 8 #[v, v1, v2] W fun e w' => e = .returned (.bool true) ∧ Below W.heap.size W w' := by
  obtain ⟨l, hr⟩ := open_cell (R := RSl 4 RSign 48) Tryd.underlying57 hval h hw opens_signs
  obtain ⟨a, rfl, _⟩ := open_int (k := .i64) Tryd.underlying3 hval1 h1 hw1
  obtain ⟨x, vb, vp, vv, rfl, hb, hp, hv⟩ := open_crt hval2 h2 hw2
  exact sealProven_any _ l a x _ _ _ _ hr hb hp hv hT
set_option maxRecDepth 100000 in
theorem sealProven_lifted (os : Os) (started : os.Started) (H : Type) (enc : TypeId × Value → H) :
    ReturnsInHanded {} Tryd.checked os 8 .any (fun w args => (Rows.sealProvenSpec.pre enc Tryd.prog Tryd.f8 [] false w args ∧ laidMetH Tryd.prog laid3 w) ∧ sizedMet enc Tryd.prog Tryd.f8 (OpenSpec.ofChange Rows.sealProvenSpec) false w args) (Rows.sealProvenSpec.post enc Tryd.prog Tryd.f8 false true false false) := by
  refine returnsInHanded_of_change_and (C := Tryd.checked) (X := fun w _ => laidMetH Tryd.prog laid3 w) (fun _ _ _ hh h => h.of_heap hh) own_ started (by kernel_rfl) Tryd.func8
    (ChangeSpec.witness_shaped (enc := enc) (C := Tryd.checked) (os := os) (X := fun w _ => laidMetH Tryd.prog laid3 w) false (World.doorLaid Tryd.prog 400 os) #[.slice none 0 0, .int .i64 0, .agg #[.int .i64 0, .int .i64 0, .slice none 0 0, .slice none 0 0, .slice none 0 0]] 8 rfl (World.shaped_of_RefB (by kernel_rfl) (by kernel_rfl)) (by kernel_rfl) (by kernel_rfl) (by kernel_rfl) (door_met os _)) ?_
  intro W base args ds gs before hval0 hW _ hsz hL _
  have hval : ∀ (j : Nat) t v, Tryd.f8.params[j]? = some t → args[j]? = some v → Value.okWide Tryd.prog W .any base t v := hval0
  have hW' := hW
  obtain ⟨p, q, hA, hV, rfl, hfz, hnd⟩ := hW
  obtain ⟨rfl, rfl⟩ := trodVars_none hV
  have hA : DataW.TrodAll enc Tryd.prog W 0 (fun _ => true) true Tryd.f8.params.toList args.toList ds p := hA
  rw [Tryd.params8] at hA hval hsz
  obtain ⟨v0, v1, v2, d0, d1, d2, p0, p1, p2, rfl, rfl, rfl, h0, h1, h2⟩ := trodAll_three hA
  have hs0 : ∀ n ∈ DataW.weights Tryd.prog _ d0, n ≤ reachBytes := fun n hn => by simpa using List.all_eq_true.1 hsz n (DataW.weights_mem_each (j := 0) rfl rfl n hn)
  have hs1 : ∀ n ∈ DataW.weights Tryd.prog _ d1, n ≤ reachBytes := fun n hn => by simpa using List.all_eq_true.1 hsz n (DataW.weights_mem_each (j := 1) rfl rfl n hn)
  have hs2 : ∀ n ∈ DataW.weights Tryd.prog _ d2, n ≤ reachBytes := fun n hn => by simpa using List.all_eq_true.1 hsz n (DataW.weights_mem_each (j := 2) rfl rfl n hn)
  refine (sealProven_open W (of_laid hL) (hval 0 _ _ rfl rfl) h0 hs0 (hval 1 _ _ rfl rfl) h1 hs1 (hval 2 _ _ rfl rfl) h2 hs2).mono fun e W' ⟨he, hb⟩ => ?_
  exact law_close laidOut (b := 4) rfl Tryd.underlying4 rfl (readables _ (by kernel_rfl)) rfl hW' he hb
theorem sealProven_holds : Rows.SealProvenSaid :=
  OpenClaim.holds_of_wide 8 Tryd.f8 rfl rfl rfl rfl rfl rfl rfl ⟨rfl, rfl, rfl, rfl, rfl⟩ rfl rfl rfl rfl rfl (by kernel_rfl) Tryd.func8 (by kernel_rfl)
    (of_decide_eq_true (by kernel_rfl)) (by unfold Func.isWrapper; first | (rw [if_pos (by decide +kernel)]; kernel_rfl) | (rw [if_neg (by decide +kernel)]; exact ⟨rfl, rfl⟩))
    (fun os started H enc _ => sealProven_lifted os started H enc)
theorem sealProven_card : Rows.SealProvenCardSaid :=
  Claim7.holds_tied_plain_at .later [] [.widerDeep, .data, .data] true Rows.sealProvenCard.stood.harness false
    sealProven_holds (fun _ h => by cases h) (by kernel_rfl) (fun _ h => by cases h) sealProven_row_tie rfl ⟨rfl, rfl⟩ (by kernel_rfl) rfl
    (fun f fn hf hfn => by
      obtain rfl : f = 8 := Option.some.inj ((show Tryd.prog.funcNamed "sheaves/sheaveslaw.SealProven" = some 8 by kernel_rfl).symm.trans hf) |>.symm
      obtain rfl : fn = Tryd.f8 := (Option.some.inj (Tryd.func8.symm.trans hfn)).symm
      exact ⟨by kernel_rfl, fun j t ht => by
        have hall : (Tryd.f8.params.toList.all fun u => !Tryd.prog.wantsStandIn u) = true := by kernel_rfl
        have := List.all_eq_true.1 hall t (by simpa using Array.mem_of_getElem? ht)
        exact (show Tryd.prog.wantsStandIn t = false by simpa using this)⟩)
    (by kernel_rfl)
end Go.Proofs.YtedealljhmokoaaDoor
