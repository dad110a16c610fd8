/- The law TapeChecks: tape.Check answers what the document's RecordFault answers, for every message: no condition. -/
import Derived.Test.YtedealljhmokoaaRec
import Derived.Test.YtedealljhmokoaaOpenMsg
namespace Go.Proofs.Ytedealljhmokoaa
open Go.ChangeShapes Go.WideShapes Go.ChangeAt Go.RowKit
set_option linter.unusedVariables false
set_option maxHeartbeats 4000000 in
set_option maxRecDepth 100000 in
theorem tapeChecks_any (m : Msg) (vt vb vp vd cb cp cv : Value) (w : World) (r : RMsg w.cell? m vt vb vp vd cb cp cv) (hs : ∀ s ∈ m.bat.txs, s.size ≤ 140737488355328) :
    Calls Try.prog 3 #[.agg (msgC m vt vb vp vd cb cp cv)] w fun e w' => e = .returned (.bool true) ∧ Below w.heap.size w w' := by
  unfold msgC
  go_enter Try.func3, Try.ntmps3
  go_upto_region 1 with fail
  refine one_block _ _ _ (fun W => Code.wp _ _ _ _ W) (fun W hbk hsz hbl => ?_)
  have r1 := r.mono (vle_below hbl)
  go_wp2_with (refine wpList_load_row rfl 35 _ rfl _ rfl _ _ _ _ hbk Try.underlying35 rfl (by kernel_rfl) ?_)
  refine (messages_any m _ _ _ _ _ _ _ _ r1).mono ?_
  rintro e w1 ⟨vt1, vb1, vp1, vd1, cb1, cp1, cv1, rfl, hb1, rr⟩
  have hbl1 := hbl.trans (hb1.mono hbl.size)
  have hk1 := hbk.kept hb1
  go_wp2_with fail
  refine (tapeCheck_any m _ _ _ _ _ _ _ _ (rr.mono (View.from_le _ _)) hs).mono ?_
  rintro e w2 ⟨rfl, hb2⟩
  have hbl2 := hbl1.trans (hb2.mono hbl1.size)
  have hk2 := hk1.kept hb2
  go_wp2_with (refine wpList_load_row rfl 35 _ rfl _ rfl _ _ _ _ hk2 Try.underlying35 rfl (by kernel_rfl) ?_)
  refine (recordFault_any m _ _ _ _ _ _ _ _ (r.mono (vle_below hbl2)) hs).mono ?_
  rintro e w3 ⟨rfl, hb3⟩
  go_wp2
  go_ret
  exact ⟨rfl, hbl2.trans (hb3.mono hbl2.size)⟩
set_option maxHeartbeats 1000000 in
set_option maxRecDepth 100000 in
theorem tapeChecks_open {H : Type} {enc : TypeId × Value → H} (W : World) {base : Nat} {v : Value} {d : DataW H} {p : List MemPlace} (hval : Value.okWide Try.prog W .any base 35 v) (h : DataW.Trod enc Try.prog W 0 (fun _ => true) true 35 v d p)
    (hw : ∀ n ∈ DataW.weights Try.prog 35 d, n ≤ reachBytes) : Calls Try.prog 3 #[v] W fun e w' => e = .returned (.bool true) ∧ Below W.heap.size W w' := by
  obtain ⟨m, vt, vb, vp, vd, cb, cp, cv, rfl, r, hs⟩ := open_msg hval h hw
  exact tapeChecks_any m _ _ _ _ _ _ _ _ r hs
set_option maxRecDepth 100000 in
theorem tapeChecks_lifted (os : Os) (started : os.Started) (H : Type) (enc : TypeId × Value → H) :
    ReturnsInHanded {} Try.checked os 3 .any (Rows.tapeChecksSpec.pre6 enc Try.prog Try.f3 Rows.tapeChecksRow.domain false) (Rows.tapeChecksSpec.post enc Try.prog Try.f3 false true false false) := by
  refine returnsInHanded_of_change_sized (C := Try.checked) own_ started (by kernel_rfl) Try.func3
    (ChangeSpec.witness6 (enc := enc) (C := Try.checked) false ⟨#[], #[.agg #[.int .i64 0, .int .i64 0, .int .i64 0, .int .i64 0, .int .i64 0, .slice none 0 0, .int .i64 0, .int .i64 0, .slice none 0 0, .slice none 0 0, .int .i64 0, .int .i64 0, .slice none 0 0, .int .i64 0, .int .i64 0, .slice none 0 0, .slice none 0 0, .slice none 0 0, .int .i64 0]], []⟩ 8 (by kernel_rfl) (by kernel_rfl) (by kernel_rfl) (by kernel_rfl) (by kernel_rfl)) ?_
  intro W base args ds gs before hval hW _ hsz _
  have hW' := hW
  obtain ⟨p, q, hA, hV, rfl, hfz, hnd⟩ := hW
  obtain ⟨rfl, rfl⟩ := trodVars_none hV
  rw [Try.params3] at hA hval hsz
  obtain ⟨v0, d0, rfl, rfl, h0⟩ := trodAll_one hA
  have hs0 : ∀ n ∈ DataW.weights Try.prog _ d0, n ≤ reachBytes := fun n hn => by simpa using List.all_eq_true.1 hsz n (DataW.weights_mem_each (j := 0) rfl rfl n hn)
  refine (tapeChecks_open W (hval 0 _ _ rfl rfl) h0 hs0).mono fun e W' ⟨he, hb⟩ => ?_
  exact law_close laidOut (b := 4) rfl Try.underlying4 rfl (readables _ (by kernel_rfl)) rfl hW' he hb
theorem tapeChecks_holds : Rows.TapeChecksSaid :=
  OpenClaim.holds_of_wide 3 Try.f3 rfl rfl rfl rfl rfl rfl rfl ⟨rfl, rfl, rfl, rfl, rfl⟩ rfl rfl rfl rfl rfl (by kernel_rfl) Try.func3 (by kernel_rfl)
    (of_decide_eq_true (by kernel_rfl)) (by unfold Func.isWrapper; first | (rw [if_pos (by decide +kernel)]; kernel_rfl) | (rw [if_neg (by decide +kernel)]; exact ⟨rfl, rfl⟩))
    (fun os started H enc _ => tapeChecks_lifted os started H enc)
end Go.Proofs.Ytedealljhmokoaa
