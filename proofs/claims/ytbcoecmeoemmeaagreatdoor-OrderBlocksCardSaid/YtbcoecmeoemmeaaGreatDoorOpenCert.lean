/- Headers and certificates as arguments. -/
import Derived.Test.YtbcoecmeoemmeaaGreatDoorCert
import Derived.Test.YtbcoecmeoemmeaaGreatDoorOpen
namespace Go.Proofs.YtbcoecmeoemmeaaGreatDoor
open Go.ChangeShapes Go.WideShapes Go.ChangeAt Go.RowKit
set_option linter.unusedVariables false
theorem opens_digs : OpensTo Tryz.prog 63 (fun h cs (xs : List (List UInt8)) => ∃ v, cs = [v] ∧ RSl 1 RDig 24 h v xs) :=
  opens_sl Tryz.underlying63 (by kernel_rfl) (by decide) (by kernel_rfl) (R := RDig) (by
    intro H enc w fuel cs x h hw
    obtain ⟨xs, v, e, hr⟩ := opens_bytes H enc w fuel cs x h hw
    exact ⟨xs, v, e, hr⟩)
theorem opens_is : OpensTo Tryz.prog 66 (fun h cs (xs : List Int) => ∃ v, cs = [v] ∧ RVec encI 8 h v xs) := by
  intro H enc w fuel cs x h hw
  obtain ⟨xs, v, e, hr, _⟩ := opens_vec (R := fun n : Int => (Lit.int .i64 n).wf = true) (enc := encI) Tryz.underlying66 (by kernel_rfl) (bs := 8) (by kernel_rfl) opens_i H enc w fuel cs x h hw
  exact ⟨xs, v, e, hr⟩
structure Hdr where
  author : Int
  round : Int
  batches : List (List UInt8)
  parents : List (List UInt8)
def RHdr (h : View) (cs : List Value) (x : Hdr) : Prop := ∃ vb vp, cs = [.int .i64 x.author, .int .i64 x.round, vb, vp] ∧ RDigs h vb x.batches ∧ RDigs h vp x.parents
theorem RHdr.mono : Mono RHdr := fun h h' cs x ⟨vb, vp, e, h1, h2⟩ hle => ⟨vb, vp, e, h1.mono RDig.mono hle, h2.mono RDig.mono hle⟩
structure Crt where
  hdr : Hdr
  voters : List Int
def RCrt (h : View) (cs : List Value) (x : Crt) : Prop := ∃ vb vp vv, cs = [.int .i64 x.hdr.author, .int .i64 x.hdr.round, vb, vp, vv] ∧ RDigs h vb x.hdr.batches ∧ RDigs h vp x.hdr.parents ∧ RIs h vv x.voters
theorem RCrt.mono : Mono RCrt := fun h h' cs x ⟨vb, vp, vv, e, h1, h2, h3⟩ hle => ⟨vb, vp, vv, e, h1.mono RDig.mono hle, h2.mono RDig.mono hle, h3.mono hle⟩
set_option maxHeartbeats 1000000 in
set_option maxRecDepth 100000 in
theorem opens_hdr : OpensTo Tryz.prog 65 RHdr := by
  intro H enc w fuel cs x h hw
  obtain ⟨hl, hf⟩ := opens_fields Tryz.underlying65 h hw
  obtain ⟨a, ha, _⟩ := hf 0 3 0 1 rfl (by kernel_rfl) opens_i
  obtain ⟨r, hr, _⟩ := hf 1 3 1 1 rfl (by kernel_rfl) opens_i
  obtain ⟨b, vb, hvb, hb⟩ := hf 2 63 2 1 rfl (by kernel_rfl) opens_digs
  obtain ⟨q, vq, hvq, hq⟩ := hf 3 63 3 1 rfl (by kernel_rfl) opens_digs
  have hl' : cs.length = 4 := hl.trans (by kernel_rfl)
  match cs, hl' with
  | [c0, c1, c2, c3], _ =>
    simp at ha hr hvb hvq
    subst ha hr hvb hvq
    exact ⟨⟨a, r, b, q⟩, _, _, rfl, hb, hq⟩
set_option maxHeartbeats 1000000 in
set_option maxRecDepth 100000 in
theorem opens_crt : OpensTo Tryz.prog 68 RCrt := by
  intro H enc w fuel cs x h hw
  obtain ⟨hl, hf⟩ := opens_fields Tryz.underlying68 h hw
  obtain ⟨hd, vb, vp, he, hb, hp⟩ := hf 0 65 0 4 rfl (by kernel_rfl) opens_hdr
  obtain ⟨vs, vv, hvv, hv⟩ := hf 1 66 4 1 rfl (by kernel_rfl) opens_is
  have hl' : cs.length = 5 := hl.trans (by kernel_rfl)
  match cs, hl' with
  | [c0, c1, c2, c3, c4], _ =>
    simp at he hvv
    obtain ⟨rfl, rfl, rfl, rfl⟩ := he
    subst hvv
    exact ⟨⟨hd, vs⟩, _, _, _, rfl, hb, hp, hv⟩
section
variable {H : Type} {enc : TypeId × Value → H} {W : World} {base : Nat} {v : Value} {d : DataW H} {p : List MemPlace}
set_option maxRecDepth 100000 in
theorem open_hdr (hval : Value.okWide Tryz.prog W .any base 65 v) (h : DataW.Trod enc Tryz.prog W 0 (fun _ => true) true 65 v d p) (hw : ∀ n ∈ DataW.weights Tryz.prog 65 d, n ≤ reachBytes) :
    ∃ (x : Hdr) (vb vp : Value), v = .agg #[.int .i64 x.author, .int .i64 x.round, vb, vp] ∧ RDigs W.cell? vb x.batches ∧ RDigs W.cell? vp x.parents := by
  obtain ⟨fuel, h⟩ := h
  obtain ⟨x, vb, vp, e, h1, h2⟩ := opens_hdr H enc W fuel _ _ h hw
  exact ⟨x, vb, vp, agg_of Tryz.underlying65 hval e, h1, h2⟩
set_option maxRecDepth 100000 in
theorem open_crt (hval : Value.okWide Tryz.prog W .any base 68 v) (h : DataW.Trod enc Tryz.prog W 0 (fun _ => true) true 68 v d p) (hw : ∀ n ∈ DataW.weights Tryz.prog 68 d, n ≤ reachBytes) :
    ∃ (x : Crt) (vb vp vv : Value), v = .agg #[.int .i64 x.hdr.author, .int .i64 x.hdr.round, vb, vp, vv] ∧ RDigs W.cell? vb x.hdr.batches ∧ RDigs W.cell? vp x.hdr.parents ∧ RIs W.cell? vv x.voters := by
  obtain ⟨fuel, h⟩ := h
  obtain ⟨x, vb, vp, vv, e, h1, h2, h3⟩ := opens_crt H enc W fuel _ _ h hw
  exact ⟨x, vb, vp, vv, agg_of Tryz.underlying68 hval e, h1, h2, h3⟩
end
end Go.Proofs.YtbcoecmeoemmeaaGreatDoor
