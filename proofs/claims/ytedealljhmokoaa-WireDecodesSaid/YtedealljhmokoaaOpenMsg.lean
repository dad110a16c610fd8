/- Messages as arguments. -/
import Derived.Test.YtedealljhmokoaaMsg
import Derived.Test.YtedealljhmokoaaOpenCert
import Derived.Test.YtedealljhmokoaaOpenBat
import Derived.Test.YtedealljhmokoaaOpen2
namespace Go.Proofs.Ytedealljhmokoaa
open Go.ChangeShapes Go.WideShapes Go.ChangeAt Go.RowKit
set_option linter.unusedVariables false
set_option maxRecDepth 100000 in
theorem opens_slt : OpensTo Try.prog 30 (fun h cs (x : Slt) => ∃ v, cs = [.int .i64 x.author, .int .i64 x.round, v] ∧ RBytes h v x.digest) := by
  intro H enc w fuel cs x h hw
  obtain ⟨hl, hf⟩ := opens_fields Try.underlying30 h hw
  obtain ⟨a, ha, _⟩ := hf 0 3 0 1 rfl (by kernel_rfl) opens_i
  obtain ⟨r, hr, _⟩ := hf 1 3 1 1 rfl (by kernel_rfl) opens_i
  obtain ⟨b, vb, hvb, hb⟩ := hf 2 28 2 1 rfl (by kernel_rfl) opens_bytes
  have hl' : cs.length = 3 := hl.trans (by kernel_rfl)
  match cs, hl' with
  | [c0, c1, c2], _ =>
    simp at ha hr hvb
    subst ha hr hvb
    exact ⟨⟨a, r, b⟩, _, rfl, hb⟩
set_option maxRecDepth 100000 in
theorem opens_msg : OpensTo Try.prog 35 (fun h cs (m : Msg) => ∃ vt vb vp vd cb cp cv, cs = (msgC m vt vb vp vd cb cp cv).toList ∧ RMsg h m vt vb vp vd cb cp cv ∧ ∀ s ∈ m.bat.txs, s.size ≤ reachBytes) := by
  intro H enc w fuel cs x h hw
  obtain ⟨hl, hf⟩ := opens_fields Try.underlying35 h hw
  obtain ⟨f, hf0, _⟩ := hf 0 3 0 1 rfl (by kernel_rfl) opens_i
  obtain ⟨t, ht0, _⟩ := hf 1 3 1 1 rfl (by kernel_rfl) opens_i
  obtain ⟨k, hk0, _⟩ := hf 2 3 2 1 rfl (by kernel_rfl) opens_i
  obtain ⟨ba, vt, hba, rba, sba⟩ := hf 3 24 3 3 rfl (by kernel_rfl) opens_bat
  obtain ⟨hd, vb, vp, hhd, rb, rp⟩ := hf 4 27 6 4 rfl (by kernel_rfl) opens_hdr
  obtain ⟨sl, vd, hsl, rsl⟩ := hf 5 30 10 3 rfl (by kernel_rfl) opens_slt
  obtain ⟨cr, cb, cp, cv, hcr, rcb, rcp, rcv⟩ := hf 6 33 13 5 rfl (by kernel_rfl) opens_crt
  obtain ⟨ro, hro, _⟩ := hf 7 3 18 1 rfl (by kernel_rfl) opens_i
  have hl' : cs.length = 19 := hl.trans (by kernel_rfl)
  match cs, hl' with
  | [c0, c1, c2, c3, c4, c5, c6, c7, c8, c9, c10, c11, c12, c13, c14, c15, c16, c17, c18], _ =>
    simp at hf0 ht0 hk0 hba hhd hsl hcr hro
    obtain ⟨rfl, rfl, rfl⟩ := hba
    obtain ⟨rfl, rfl, rfl, rfl⟩ := hhd
    obtain ⟨rfl, rfl, rfl⟩ := hsl
    obtain ⟨rfl, rfl, rfl, rfl, rfl⟩ := hcr
    subst hf0 ht0 hk0 hro
    exact ⟨⟨f, t, k, ba, hd, sl, cr, ro⟩, _, _, _, _, _, _, _, rfl, ⟨rba, rb, rp, rsl, rcb, rcp, rcv⟩, sba⟩
set_option maxRecDepth 100000 in
theorem open_msg {H : Type} {enc : TypeId × Value → H} {W : World} {base : Nat} {v : Value} {d : DataW H} {p : List MemPlace} (hval : Value.okWide Try.prog W .any base 35 v) (h : DataW.Trod enc Try.prog W 0 (fun _ => true) true 35 v d p)
    (hw : ∀ n ∈ DataW.weights Try.prog 35 d, n ≤ reachBytes) : ∃ (m : Msg) (vt vb vp vd cb cp cv : Value), v = .agg (msgC m vt vb vp vd cb cp cv) ∧ RMsg W.cell? m vt vb vp vd cb cp cv ∧ ∀ s ∈ m.bat.txs, s.size ≤ 140737488355328 := by
  obtain ⟨fuel, h⟩ := h
  obtain ⟨m, vt, vb, vp, vd, cb, cp, cv, e, r, hs⟩ := opens_msg H enc W fuel _ _ h hw
  exact ⟨m, vt, vb, vp, vd, cb, cp, cv, agg_of Try.underlying35 hval e, r, fun s hs' => reach_le (hs s hs')⟩
end Go.Proofs.Ytedealljhmokoaa
