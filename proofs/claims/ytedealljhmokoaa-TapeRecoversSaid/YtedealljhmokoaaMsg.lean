/- Messages: what they read as; their copy. -/
import Derived.Test.YtedealljhmokoaaOpenCert
import Derived.Test.YtedealljhmokoaaBatch
import Derived.Test.YtedealljhmokoaaOpenBat
import Derived.Test.YtedealljhmokoaaSlots
import Derived.Test.YtedealljhmokoaaSlotF
namespace Go.Proofs.Ytedealljhmokoaa
open Go.ChangeShapes Go.WideShapes Go.ChangeAt Go.RowKit
set_option linter.unusedVariables false
set_option linter.unusedSimpArgs false
abbrev Slt := Slot
structure Msg where
  src : Int
  dst : Int
  kind : Int
  bat : Bat
  hdr : Hdr
  slt : Slt
  crt : Crt
  round : Int
/-- a message's cells, given its seven slices -/
def msgC (m : Msg) (vt vb vp vd cb cp cv : Value) : Array Value := #[.int .i64 m.src, .int .i64 m.dst, .int .i64 m.kind, .int .i64 m.bat.author, .int .i64 m.bat.number, vt, .int .i64 m.hdr.author, .int .i64 m.hdr.round, vb, vp, .int .i64 m.slt.author, .int .i64 m.slt.round, vd, .int .i64 m.crt.hdr.author, .int .i64 m.crt.hdr.round, cb, cp, cv, .int .i64 m.round]
/-- what the slices read as -/
structure RMsg (h : View) (m : Msg) (vt vb vp vd cb cp cv : Value) : Prop where
  txs : RTexts h vt m.bat.txs
  bats : RDigs h vb m.hdr.batches
  pars : RDigs h vp m.hdr.parents
  dig : RBytes h vd m.slt.digest
  cbats : RDigs h cb m.crt.hdr.batches
  cpars : RDigs h cp m.crt.hdr.parents
  vots : RIs h cv m.crt.voters
theorem RMsg.mono {h h' : View} {m : Msg} {vt vb vp vd cb cp cv : Value} (r : RMsg h m vt vb vp vd cb cp cv) (hle : VLe h h') : RMsg h' m vt vb vp vd cb cp cv :=
  ⟨r.txs.mono hle, r.bats.mono RDig.mono hle, r.pars.mono RDig.mono hle, r.dig.mono hle, r.cbats.mono RDig.mono hle, r.cpars.mono RDig.mono hle, r.vots.mono hle⟩
set_option maxHeartbeats 2000000 in
set_option maxRecDepth 100000 in
theorem messages_any (m : Msg) (vt vb vp vd cb cp cv : Value) (w : World) (r : RMsg w.cell? m vt vb vp vd cb cp cv) :
    Calls Try.prog 9 #[.agg (msgC m vt vb vp vd cb cp cv)] w fun e w' => ∃ vt' vb' vp' vd' cb' cp' cv', e = .returned (.agg (msgC m vt' vb' vp' vd' cb' cp' cv')) ∧ Below w.heap.size w w' ∧ RMsg (View.from w'.cell? w.heap.size) m vt' vb' vp' vd' cb' cp' cv' := by
  unfold msgC
  go_enter Try.func9, Try.ntmps9
  go_wp2
  refine two_blocks _ _ _ _ _ (fun W => (Code.region _ _ _).wp _ _ _ W) (fun W hb1 hb2 hsz hbl => ?_)
  have rW := r.mono (vle_below_but hbl (Nat.le_succ _))
  have hlt := r.txs.len
  have hld := r.dig.len
  clear r
  refine wp_region_plan (fun w' => W.grownBy w' (some (w.heap.size + 1)) ∧ ∃ cs, Blk w' (w.heap.size + 1) 35 cs ∧ cs.size = 19) [(0, true), (1, true), (2, true), (3, true), (4, true), (5, true), (6, true), (7, true), (9, true), (10, true), (12, true), (13, true), (14, true), (15, true), (16, true), (17, true), (18, true), (19, true), (20, true), (23, true), (24, true), (26, true), (27, true), (8, false), (11, false), (21, false), (22, true), (25, false), (28, true), (29, false)] (by kernel_rfl) (by kernel_rfl) (fun _ _ d _ _ h => by cases d <;> exact h) rfl (by kernel_rfl) ?_ ?_
  · exact ⟨grownBy_drew _ _, _, hb2, rfl⟩
  intro W1 hS1
  repeat (first
    | (refine wpPlan_takes rfl rfl ?_; apply Exists.intro; refine ⟨fun w' hS => ?_, ?_⟩; (· (have hq := hb1.grown hS.1 (by simp); have h0 := hq.cell 0; have h1 := hq.cell 1; have h2 := hq.cell 2; have h3 := hq.cell 3; have h4 := hq.cell 4; have h5 := hq.cell 5; have h6 := hq.cell 6; have h7 := hq.cell 7; have h8 := hq.cell 8; have h9 := hq.cell 9; have h10 := hq.cell 10; have h11 := hq.cell 11; have h12 := hq.cell 12; have h13 := hq.cell 13; have h14 := hq.cell 14; have h15 := hq.cell 15; have h16 := hq.cell 16; have h17 := hq.cell 17; have h18 := hq.cell 18; simp at h0 h1 h2 h3 h4 h5 h6 h7 h8 h9 h10 h11 h12 h13 h14 h15 h16 h17 h18; go_simp; exact rfl)); simp only [List.getElem_toArray, List.getElem_cons_zero, List.getElem_cons_succ, Act.put, List.setIfInBounds_toArray, List.set_cons_zero, List.set_cons_succ])
    | (refine wpPlan_skip (by assumption) rfl rfl ?_; simp only [List.getElem_toArray, List.getElem_cons_zero, List.getElem_cons_succ, Act.put, List.setIfInBounds_toArray, List.set_cons_zero, List.set_cons_succ]))
  refine wpPlan_do rfl rfl (fun K hK => ?_)
  try simp only [List.getElem_toArray, List.getElem_cons_zero, List.getElem_cons_succ]
  go_simp
  obtain ⟨hg1, cs, hc, hcs⟩ := hS1
  refine (batch_any _ _ _ _ _ (rW.txs.mono (vle_grown hg1))).mono ?_
  rintro e w1 ⟨d1, rfl, hj1, o1⟩
  obtain ⟨A1, c1, rfl⟩ := o1.form
  have hg2 := grownBy_trans hg1 (grownBy_below _ hj1)
  have hc2 := hc.kept hj1
  refine hK.out _ _ (⟨hg2, _, hc2, hcs⟩) (fun hS => ?_)
  clear hK K
  try simp only [List.getElem_toArray, List.getElem_cons_zero, List.getElem_cons_succ, Act.put, List.setIfInBounds_toArray, List.set_cons_zero, List.set_cons_succ]
  repeat (first
    | (refine wpPlan_takes rfl rfl ?_; apply Exists.intro; refine ⟨fun w' hS => ?_, ?_⟩; (· (skip; go_simp; exact rfl)); simp only [List.getElem_toArray, List.getElem_cons_zero, List.getElem_cons_succ, Act.put, List.setIfInBounds_toArray, List.set_cons_zero, List.set_cons_succ])
    | (refine wpPlan_skip (by assumption) rfl rfl ?_; simp only [List.getElem_toArray, List.getElem_cons_zero, List.getElem_cons_succ, Act.put, List.setIfInBounds_toArray, List.set_cons_zero, List.set_cons_succ]))
  refine wpPlan_do rfl rfl (fun K hK => ?_)
  try simp only [List.getElem_toArray, List.getElem_cons_zero, List.getElem_cons_succ]
  go_simp
  refine (headerCopy_any _ _ _ _ _ _ _ (rW.bats.mono RDig.mono (vle_grown hg2)) (rW.pars.mono RDig.mono (vle_grown hg2))).mono ?_
  rintro e w2 ⟨d2, d3, rfl, hj2, r2, r3⟩
  obtain ⟨A2, c2, rfl, _⟩ := id r2
  obtain ⟨A3, c3, rfl, _⟩ := id r3
  have hg3 := grownBy_trans hg2 (grownBy_below _ hj2)
  have hc3 := hc2.kept hj2
  refine hK.out _ _ (⟨hg3, _, hc3, hcs⟩) (fun hS => ?_)
  clear hK K
  try simp only [List.getElem_toArray, List.getElem_cons_zero, List.getElem_cons_succ, Act.put, List.setIfInBounds_toArray, List.set_cons_zero, List.set_cons_succ]
  repeat (first
    | (refine wpPlan_takes rfl rfl ?_; apply Exists.intro; refine ⟨fun w' hS => ?_, ?_⟩; (· (skip; go_simp; exact rfl)); simp only [List.getElem_toArray, List.getElem_cons_zero, List.getElem_cons_succ, Act.put, List.setIfInBounds_toArray, List.set_cons_zero, List.set_cons_succ])
    | (refine wpPlan_skip (by assumption) rfl rfl ?_; simp only [List.getElem_toArray, List.getElem_cons_zero, List.getElem_cons_succ, Act.put, List.setIfInBounds_toArray, List.set_cons_zero, List.set_cons_succ]))
  refine wpPlan_do rfl rfl (fun K hK => ?_)
  try simp only [List.getElem_toArray, List.getElem_cons_zero, List.getElem_cons_succ]
  go_simp
  refine (octets_any _ _ _ (rW.dig.mono (vle_grown hg3))).mono ?_
  rintro e w3 ⟨d4, rfl, hj3, o4⟩
  obtain ⟨A4, c4, rfl⟩ := o4.form
  have hg4 := grownBy_trans hg3 (grownBy_below _ hj3)
  have hc4 := hc3.kept hj3
  refine hK.out _ _ (⟨hg4, _, hc4, hcs⟩) (fun hS => ?_)
  clear hK K
  try simp only [List.getElem_toArray, List.getElem_cons_zero, List.getElem_cons_succ, Act.put, List.setIfInBounds_toArray, List.set_cons_zero, List.set_cons_succ]
  repeat (first
    | (refine wpPlan_takes rfl rfl ?_; apply Exists.intro; refine ⟨fun w' hS => ?_, ?_⟩; (· (skip; go_simp; exact rfl)); simp only [List.getElem_toArray, List.getElem_cons_zero, List.getElem_cons_succ, Act.put, List.setIfInBounds_toArray, List.set_cons_zero, List.set_cons_succ])
    | (refine wpPlan_skip (by assumption) rfl rfl ?_; simp only [List.getElem_toArray, List.getElem_cons_zero, List.getElem_cons_succ, Act.put, List.setIfInBounds_toArray, List.set_cons_zero, List.set_cons_succ]))
  refine wpPlan_do rfl rfl (fun K hK => ?_)
  try simp only [List.getElem_toArray, List.getElem_cons_zero, List.getElem_cons_succ]
  go_simp
  refine (certCopy_any _ _ _ _ _ _ _ _ _ (rW.cbats.mono RDig.mono (vle_grown hg4)) (rW.cpars.mono RDig.mono (vle_grown hg4)) (rW.vots.mono (vle_grown hg4))).mono ?_
  rintro e w4 ⟨d5, d6, d7, rfl, hj4, r5, r6, r7⟩
  obtain ⟨A5, c5, rfl, _⟩ := id r5
  obtain ⟨A6, c6, rfl, _⟩ := id r6
  obtain ⟨A7, c7, rfl, _⟩ := id r7
  have hg5 := grownBy_trans hg4 (grownBy_below _ hj4)
  have hc5 := hc4.kept hj4
  refine hK.out _ _ (⟨hg5, _, hc5, hcs⟩) (fun hS => ?_)
  clear hK K
  try simp only [List.getElem_toArray, List.getElem_cons_zero, List.getElem_cons_succ, Act.put, List.setIfInBounds_toArray, List.set_cons_zero, List.set_cons_succ]
  repeat (first
    | (refine wpPlan_takes rfl rfl ?_; apply Exists.intro; refine ⟨fun w' hS => ?_, ?_⟩; (· (skip; go_simp; exact rfl)); simp only [List.getElem_toArray, List.getElem_cons_zero, List.getElem_cons_succ, Act.put, List.setIfInBounds_toArray, List.set_cons_zero, List.set_cons_succ])
    | (refine wpPlan_skip (by assumption) rfl rfl ?_; simp only [List.getElem_toArray, List.getElem_cons_zero, List.getElem_cons_succ, Act.put, List.setIfInBounds_toArray, List.set_cons_zero, List.set_cons_succ]))
  refine wpPlan_do rfl rfl (fun K hK => ?_)
  try simp only [List.getElem_toArray, List.getElem_cons_zero, List.getElem_cons_succ]
  refine wp_store_whole rfl rfl rfl (n := 19) (by kernel_rfl) rfl hc5 hcs rfl ?_
  intro w5 hb3 hg
  refine hK.out _ _ (⟨grownBy_trans hS.1 hg, _, hb3, rfl⟩) (fun hS => ?_)
  clear hK K
  try simp only [List.getElem_toArray, List.getElem_cons_zero, List.getElem_cons_succ, Act.put, List.setIfInBounds_toArray, List.set_cons_zero, List.set_cons_succ]
  refine wpPlan_nil ?_
  go_wp2
  refine bodyPost_ret (results_blk rfl rfl (by kernel_rfl) (by kernel_rfl) hb3 rfl) rfl ?_
  have hA := below_grownBy (B := w.heap.size) hbl (by omega) (grownBy_trans hg5 hg) (fun k e => by injection e; omega)
  have z1 := hg1.size; have z2 := hj1.size; have z3 := hj2.size; have z4 := hj3.size; have z5 := hj4.size
  have b4 := vle_below hj4
  have b3 := (vle_below hj3).trans b4
  have b2 := (vle_below hj2).trans b3
  refine ⟨_, _, _, _, _, _, _, rfl, hA, ?_⟩
  refine ⟨?_, ?_, ?_, ?_, ?_, ?_, ?_⟩
  · exact (o1.from_ hlt (b0 := w.heap.size + 2) (by omega)).mono (from_le_from (by omega) (vle_from _ b2) hg (by omega))
  · exact r2.mono RDig.mono (from_le_from (by omega) (vle_from _ b3) hg (by omega))
  · exact r3.mono RDig.mono (from_le_from (by omega) (vle_from _ b3) hg (by omega))
  · exact (o4.from_ hld (b0 := w.heap.size + 2) (by omega)).mono (from_le_from (by omega) (vle_from _ b4) hg (by omega))
  · exact r5.mono RDig.mono (from_le_from (by omega) (VLe.refl _) hg (by omega))
  · exact r6.mono RDig.mono (from_le_from (by omega) (VLe.refl _) hg (by omega))
  · exact r7.mono (from_le_from (by omega) (VLe.refl _) hg (by omega))
end Go.Proofs.Ytedealljhmokoaa
