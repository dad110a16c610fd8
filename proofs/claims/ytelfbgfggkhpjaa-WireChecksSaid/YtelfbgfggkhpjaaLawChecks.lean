/- The law WireChecks: wire.Check answers what the document's MessageFault answers, for every message: no condition. -/
import Derived.Test.YtelfbgfggkhpjaaMsg5
import Derived.Test.YtelfbgfggkhpjaaOpenCert
import Derived.Test.YtelfbgfggkhpjaaOpen2
namespace Go.Proofs.Ytelfbgfggkhpjaa
open Go.ChangeShapes Go.WideShapes Go.ChangeAt Go.RowKit
set_option linter.unusedVariables false
set_option maxHeartbeats 4000000 in
set_option maxRecDepth 100000 in
theorem wireChecks_any (m : Msg) (vt vb vp vd cb cp cv : Value) (w : World) (r : RMsg w.cell? m vt vb vp vd cb cp cv) (hs : ∀ s ∈ m.bat.txs, s.size ≤ 140737488355328) :
    Calls Try.prog 9 #[.agg (msgC m vt vb vp vd cb cp cv)] w fun e w' => e = .returned (.bool true) ∧ Below w.heap.size w w' := by
  unfold msgC
  go_enter Try.func9, Try.ntmps9
  go_upto_region 1 with fail
  refine one_block _ _ _ (fun W => Code.wp _ _ _ _ W) (fun W hbk hsz hbl => ?_)
  have r1 := r.mono (vle_below hbl)
  go_wp2_with (refine wpList_load_row rfl 65 _ rfl _ rfl _ _ _ _ hbk Try.underlying65 rfl (by kernel_rfl) ?_)
  refine (messages_any m _ _ _ _ _ _ _ _ r1).mono ?_
  rintro e w1 ⟨vt1, vb1, vp1, vd1, cb1, cp1, cv1, rfl, hb1, rr⟩
  have hbl1 := hbl.trans (hb1.mono hbl.size)
  have hk1 := hbk.kept hb1
  go_wp2_with fail
  refine (check_any m _ _ _ _ _ _ _ _ (rr.mono (View.from_le _ _)) hs).mono ?_
  rintro e w2 ⟨rfl, hb2⟩
  have hbl2 := hbl1.trans (hb2.mono hbl1.size)
  have hk2 := hk1.kept hb2
  go_wp2_with (refine wpList_load_row rfl 65 _ rfl _ rfl _ _ _ _ hk2 Try.underlying65 rfl (by kernel_rfl) ?_)
  refine (messageFault_any m _ _ _ _ _ _ _ _ (r.mono (vle_below hbl2)) hs).mono ?_
  rintro e w3 ⟨rfl, hb3⟩
  go_wp2
  go_ret
  exact ⟨rfl, hbl2.trans (hb3.mono hbl2.size)⟩
set_option maxRecDepth 100000 in
theorem opens_bat : OpensTo Try.prog 31 (fun h cs (x : Bat) => ∃ v, cs = [.int .i64 x.author, .int .i64 x.number, v] ∧ RTexts h v x.txs ∧ ∀ s ∈ x.txs, s.size ≤ reachBytes) := by
  intro H enc w fuel cs x h hw
  obtain ⟨hl, hf⟩ := opens_fields Try.underlying31 h hw
  obtain ⟨a, ha, _⟩ := hf 0 3 0 1 rfl (by kernel_rfl) opens_i
  obtain ⟨r, hr, _⟩ := hf 1 3 1 1 rfl (by kernel_rfl) opens_i
  obtain ⟨b, vb, hvb, hb, hs⟩ := hf 2 26 2 1 rfl (by kernel_rfl) opens_texts
  have hl' : cs.length = 3 := hl.trans (by kernel_rfl)
  match cs, hl' with
  | [c0, c1, c2], _ =>
    simp at ha hr hvb
    subst ha hr hvb
    exact ⟨⟨a, r, b⟩, _, rfl, hb, hs⟩
set_option maxRecDepth 100000 in
theorem opens_slt : OpensTo Try.prog 45 (fun h cs (x : Slt) => ∃ v, cs = [.int .i64 x.author, .int .i64 x.round, v] ∧ RBytes h v x.digest) := by
  intro H enc w fuel cs x h hw
  obtain ⟨hl, hf⟩ := opens_fields Try.underlying45 h hw
  obtain ⟨a, ha, _⟩ := hf 0 3 0 1 rfl (by kernel_rfl) opens_i
  obtain ⟨r, hr, _⟩ := hf 1 3 1 1 rfl (by kernel_rfl) opens_i
  obtain ⟨b, vb, hvb, hb⟩ := hf 2 38 2 1 rfl (by kernel_rfl) opens_bytes
  have hl' : cs.length = 3 := hl.trans (by kernel_rfl)
  match cs, hl' with
  | [c0, c1, c2], _ =>
    simp at ha hr hvb
    subst ha hr hvb
    exact ⟨⟨a, r, b⟩, _, rfl, hb⟩
set_option maxRecDepth 100000 in
theorem opens_msg : OpensTo Try.prog 65 (fun h cs (m : Msg) => ∃ vt vb vp vd cb cp cv, cs = (msgC m vt vb vp vd cb cp cv).toList ∧ RMsg h m vt vb vp vd cb cp cv ∧ ∀ s ∈ m.bat.txs, s.size ≤ reachBytes) := by
  intro H enc w fuel cs x h hw
  obtain ⟨hl, hf⟩ := opens_fields Try.underlying65 h hw
  obtain ⟨f, hf0, _⟩ := hf 0 3 0 1 rfl (by kernel_rfl) opens_i
  obtain ⟨t, ht0, _⟩ := hf 1 3 1 1 rfl (by kernel_rfl) opens_i
  obtain ⟨k, hk0, _⟩ := hf 2 3 2 1 rfl (by kernel_rfl) opens_i
  obtain ⟨ba, vt, hba, rba, sba⟩ := hf 3 31 3 3 rfl (by kernel_rfl) opens_bat
  obtain ⟨hd, vb, vp, hhd, rb, rp⟩ := hf 4 54 6 4 rfl (by kernel_rfl) opens_hdr
  obtain ⟨sl, vd, hsl, rsl⟩ := hf 5 45 10 3 rfl (by kernel_rfl) opens_slt
  obtain ⟨cr, cb, cp, cv, hcr, rcb, rcp, rcv⟩ := hf 6 56 13 5 rfl (by kernel_rfl) opens_crt
  obtain ⟨ro, hro, _⟩ := hf 7 3 18 1 rfl (by kernel_rfl) opens_i
  have hl' : cs.length = 19 := hl.trans (by kernel_rfl)
  match cs, hl' with
  | [c0, c1, c2, c3, c4, c5, c6, c7, c8, c9, c10, c11, c12, c13, c14, c15, c16, c17, c18], _ =>
    simp at hf0 ht0 hk0 hba hhd hsl hcr hro
    obtain ⟨rfl, rfl, rfl⟩ := hba
    obtain ⟨rfl, rfl, rfl, rfl⟩ := hhd
    obtain ⟨rfl, rfl, rfl⟩ := hsl
    obtain ⟨rfl, rfl, rfl, rfl, rfl⟩ := hcr
    subst hf0 ht0 hk0 hro
    exact ⟨⟨f, t, k, ba, hd, sl, cr, ro⟩, _, _, _, _, _, _, _, rfl, ⟨rba, rb, rp, rsl, rcb, rcp, rcv⟩, sba⟩
set_option maxRecDepth 100000 in
theorem open_msg {H : Type} {enc : TypeId × Value → H} {W : World} {base : Nat} {v : Value} {d : DataW H} {p : List MemPlace} (hval : Value.okWide Try.prog W .any base 65 v) (h : DataW.Trod enc Try.prog W 0 (fun _ => true) true 65 v d p)
    (hw : ∀ n ∈ DataW.weights Try.prog 65 d, n ≤ reachBytes) : ∃ (m : Msg) (vt vb vp vd cb cp cv : Value), v = .agg (msgC m vt vb vp vd cb cp cv) ∧ RMsg W.cell? m vt vb vp vd cb cp cv ∧ ∀ s ∈ m.bat.txs, s.size ≤ 140737488355328 := by
  obtain ⟨fuel, h⟩ := h
  obtain ⟨m, vt, vb, vp, vd, cb, cp, cv, e, r, hs⟩ := opens_msg H enc W fuel _ _ h hw
  exact ⟨m, vt, vb, vp, vd, cb, cp, cv, agg_of Try.underlying65 hval e, r, fun s hs' => reach_le (hs s hs')⟩
set_option maxHeartbeats 1000000 in
set_option maxRecDepth 100000 in
theorem wireChecks_open {H : Type} {enc : TypeId × Value → H} (W : World) {base : Nat} {v : Value} {d : DataW H} {p : List MemPlace} (hval : Value.okWide Try.prog W .any base 65 v) (h : DataW.Trod enc Try.prog W 0 (fun _ => true) true 65 v d p)
    (hw : ∀ n ∈ DataW.weights Try.prog 65 d, n ≤ reachBytes) : Calls Try.prog 9 #[v] W fun e w' => e = .returned (.bool true) ∧ Below W.heap.size W w' := by
  obtain ⟨m, vt, vb, vp, vd, cb, cp, cv, rfl, r, hs⟩ := open_msg hval h hw
  exact wireChecks_any m _ _ _ _ _ _ _ _ r hs
set_option maxRecDepth 100000 in
theorem wireChecks_lifted (os : Os) (started : os.Started) (H : Type) (enc : TypeId × Value → H) :
    ReturnsInHanded {} Try.checked os 9 .any (Rows.wireChecksSpec.pre6 enc Try.prog Try.f9 Rows.wireChecksRow.domain false) (Rows.wireChecksSpec.post enc Try.prog Try.f9 false true false false) := by
  refine returnsInHanded_of_change_sized (C := Try.checked) own_ started (by kernel_rfl) Try.func9
    (ChangeSpec.witness6 (enc := enc) (C := Try.checked) false ⟨#[], #[.agg #[.int .i64 0, .int .i64 0, .int .i64 0, .int .i64 0, .int .i64 0, .slice none 0 0, .int .i64 0, .int .i64 0, .slice none 0 0, .slice none 0 0, .int .i64 0, .int .i64 0, .slice none 0 0, .int .i64 0, .int .i64 0, .slice none 0 0, .slice none 0 0, .slice none 0 0, .int .i64 0]], []⟩ 8 (by kernel_rfl) (by kernel_rfl) (by kernel_rfl) (by kernel_rfl) (by kernel_rfl)) ?_
  intro W base args ds gs before hval hW _ hsz _
  have hW' := hW
  obtain ⟨p, q, hA, hV, rfl, hfz, hnd⟩ := hW
  obtain ⟨rfl, rfl⟩ := trodVars_none hV
  rw [Try.params9] at hA hval hsz
  obtain ⟨v0, d0, rfl, rfl, h0⟩ := trodAll_one hA
  have hs0 : ∀ n ∈ DataW.weights Try.prog _ d0, n ≤ reachBytes := fun n hn => by simpa using List.all_eq_true.1 hsz n (DataW.weights_mem_each (j := 0) rfl rfl n hn)
  refine (wireChecks_open W (hval 0 _ _ rfl rfl) h0 hs0).mono fun e W' ⟨he, hb⟩ => ?_
  exact law_close laidOut (b := 4) rfl Try.underlying4 rfl (readables _ (by kernel_rfl)) rfl hW' he hb
theorem wireChecks_holds : Rows.WireChecksSaid :=
  OpenClaim.holds_of_wide 9 Try.f9 rfl rfl rfl rfl rfl rfl rfl ⟨rfl, rfl, rfl, rfl, rfl⟩ rfl rfl rfl rfl rfl (by kernel_rfl) Try.func9 (by kernel_rfl)
    (of_decide_eq_true (by kernel_rfl)) (by unfold Func.isWrapper; first | (rw [if_pos (by decide +kernel)]; kernel_rfl) | (rw [if_neg (by decide +kernel)]; exact ⟨rfl, rfl⟩))
    (fun os started H enc _ => wireChecks_lifted os started H enc)
end Go.Proofs.Ytelfbgfggkhpjaa
