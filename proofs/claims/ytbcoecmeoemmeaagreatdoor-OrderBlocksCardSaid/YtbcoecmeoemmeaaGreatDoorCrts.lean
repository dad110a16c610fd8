/- Rows of certificates. -/
import Derived.Test.YtbcoecmeoemmeaaGreatDoorDagP
namespace Go.Proofs.YtbcoecmeoemmeaaGreatDoor
open Go.ChangeShapes Go.WideShapes Go.ChangeAt Go.RowKit
set_option linter.unusedVariables false
abbrev RCrts := RSl 5 RCrt 88
abbrev OwnCrts := OwnSl 5 RCrt 68
theorem elemCrt : Elem Tryz.prog 37 68 5 88 := elemN (z := .agg #[.int .i64 0, .int .i64 0, .slice none 0 0, .slice none 0 0, .slice none 0 0]) Tryz.underlying37 (by kernel_rfl) rfl (by decide)
theorem RCrts.at {h : View} {A : Option Addr} {n c : Nat} {xs : List Crt} (hr : RCrts h (.slice A n c) xs) : n = xs.length ∧ n ≤ c ∧ n * 88 ≤ 140737488355328 ∧ ∀ k (hk : k < xs.length), ∃ b o vb vp vv, A = some ⟨b, o, none⟩ ∧ h ⟨b, o + k * 5, none⟩ = some (.int .i64 xs[k].hdr.author) ∧ h ⟨b, o + k * 5 + 1, none⟩ = some (.int .i64 xs[k].hdr.round) ∧ h ⟨b, o + k * 5 + 2, none⟩ = some vb ∧ h ⟨b, o + k * 5 + 3, none⟩ = some vp ∧ h ⟨b, o + k * 5 + 4, none⟩ = some vv ∧ RDigs h vb xs[k].hdr.batches ∧ RDigs h vp xs[k].hdr.parents ∧ RIs h vv xs[k].voters := by
  obtain ⟨A', c', e, h1, _, h2, _, h3⟩ := hr
  injection e with e1 e2 e3
  subst e1 e2 e3
  refine ⟨rfl, h1, h2, fun k hk => ?_⟩
  obtain ⟨b, o, ea, hc⟩ := h3 (by omega)
  obtain ⟨cs, hl, hcell, vb, vp, vv, rfl, q1, q2, q3⟩ := hc k hk
  exact ⟨b, o, vb, vp, vv, ea, hcell 0 (by omega), hcell 1 (by omega), hcell 2 (by omega), hcell 3 (by omega), hcell 4 (by omega), q1, q2, q3⟩
end Go.Proofs.YtbcoecmeoemmeaaGreatDoor
